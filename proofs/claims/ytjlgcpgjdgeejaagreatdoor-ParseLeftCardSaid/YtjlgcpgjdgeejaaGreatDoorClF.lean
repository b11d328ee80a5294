/- The claim: shucklaw4.ParseLeft answers true for any two numbers, and what was there is as it was: the tied card. Conditions: those of the given row. -/
import Derived.Test.YtjlgcpgjdgeejaaGreatDoorClE
import Derived.Carry
import Derived.HandedShaped
import Derived.LaidMore
import Derived.Laws.Cover3
import Derived.Lib.SlBytesConst
import Derived.OpenShut
import Derived.ProofKit
import Derived.SevenTiedAt
import Derived.Shelf.Vars
import Derived.Stop.Joined
import Derived.Test.YtjlgcpgjdgeejaaGreatDoorProg
import Derived.Test.YtjlgcpgjdgeejaaGreatDoorCards
import Derived.Test.YtjlgcpgjdgeejaaGreatDoorTie

/- The scanner's next token. Conditions: none. -/
section
namespace Go.Proofs.YtjlgcpgjdgeejaaGreatDoor
open Go
set_option linter.unusedSimpArgs false
set_option linter.unusedVariables false
set_option linter.constructorNameAsVariable false
set_option maxRecDepth 100000

section
variable {b : ByteArray} {sl : SlD} {pb : Nat}
theorem s_lastq {β : Type} {t : Ty} {Rel : β → t.den → Own → Fact} {Δ : Labels Empty SSt β} {L Lq : Own} {Γ Γq : List Fact} {st : SSt} {run : Option (Res Empty SSt β)} {k1 : Bool → T} {k2 : T}
    (h1 : ∀ c, st.opn.getLast? = some c → SimK PG (SI b sl pb) t Rel Δ (some (Γq, Lq)) st (k1 c) run L Γ) (h2 : st.opn.getLast? = none → SimK PG (SI b sl pb) t Rel Δ (some (Γq, Lq)) st k2 run L Γ) :
    SimK PG (SI b sl pb) t Rel Δ (some (Γq, Lq)) st (.opq (ldS T_Sbool (.pointer (some ⟨pb, 0 + 2, none⟩))) tSl fun r33 => .ite (decide (((r33.2.1 : Int) : Int) > 0)) (
      .opq (ldS T_Sbool (.pointer (some ⟨pb, 0 + 2, none⟩))) tSl fun r34 => .opq (ldS T_Sbool (.pointer (some ⟨pb, 0 + 2, none⟩))) tSl fun r35 =>
      .opq (idxAS T_Sbool (.slice r34.1 r34.2.1 r34.2.2) (.int .i64 (IntKind.i64.wrap ((r35.2.1 : Int) - 1)))) tA fun r36 => .opq (ldS T_bool (.pointer (some r36))) tB k1) k2) run L Γ := by
  intro H
  refine at_ex fun osl => at_ex fun K => at_prop fun ⟨hH, hB, hp⟩ => ?_
  subst hH
  have hl := hB.len
  simp only [List.length_map, Nat.mul_one] at hl
  have hinv : ∀ F, ((SI b sl pb).inv st ((pb, blk T_scan_Scanner (scCells sl st.pos osl)) :: K)).p F := fun F => ⟨osl, K, rfl, hB, hp⟩
  refine at_opq (t1 := tSl) osl (qval_ld1 (QRd.own (List.mem_cons_self ..)) (by kernel_rfl) rfl rfl) (at_ite (fun h => ?_) (fun h => ?_))
  · have hpos : 0 < osl.2.1 := by have := of_decide_eq_true h; omega
    obtain ⟨g, cells, rfl, hx1, h3, h4, h5, h6, h7⟩ := hB.open hpos
    refine at_opq (t1 := tSl) osl (qval_ld1 (QRd.own (List.mem_cons_self ..)) (by kernel_rfl) rfl rfl) ?_
    refine at_opq (t1 := tSl) osl (qval_ld1 (QRd.own (List.mem_cons_self ..)) (by kernel_rfl) rfl rfl) ?_
    refine at_opq (t1 := tA) ⟨g, osl.2.1 - 1, none⟩ (qval_pure fun w => ?_) ?_
    · have hm : osl.2.2 ≤ 9223372036854775807 := by unfold maxLen at h5; omega
      rw [wrap_id (by omega) (by omega), hx1, run_idxA (n := 1) (by kernel_rfl) (by omega) (by omega)]
      have : ((osl.2.1 : Int) - 1).toNat * 1 = osl.2.1 - 1 := by omega
      rw [this]
      simp only [Ty.enc, C.enc, B.enc]
      congr 4
      obtain ⟨x1, x2, x3⟩ := addr_add (⟨g, 0, none⟩ : Addr) rfl (osl.2.1 - 1)
      cases hh : (⟨g, 0, none⟩ : Addr).add (osl.2.1 - 1) with
      | mk p o sp => rw [hh] at x1 x2 x3; simp only at x1 x2 x3; subst x1; subst x2; subst x3; simp
    · obtain ⟨v, hv⟩ : ∃ v, st.opn[osl.2.1 - 1]? = some v := ⟨_, List.getElem?_eq_getElem (by omega)⟩
      have hlast : st.opn.getLast? = some v := by rw [List.getLast?_eq_getElem?, hl]; exact hv
      have hcell : cells[osl.2.1 - 1]? = some (.bool v) := by
        have e : (cells.take (osl.2.1 * 1))[osl.2.1 - 1]? = (st.opn.map Value.bool)[osl.2.1 - 1]? := by rw [h7]
        rw [List.getElem?_take, if_pos (by omega), List.getElem?_map, hv] at e
        exact e
      refine at_opq (t1 := tB) v (qval_ld1 (T0 := T_bool) (l := cells) (QRd.own (List.mem_append_left _ (List.mem_cons_of_mem _ (List.mem_cons_self ..)))) (by kernel_rfl) rfl hcell) ?_
      intro r w F res S hs hF hsp hq
      exact h1 _ hlast _ r w F res S hs (Holds.cons (hinv F) hF) hsp hq
  · have hz : osl.2.1 = 0 := by have := of_decide_eq_false h; omega
    have : st.opn.getLast? = none := by rw [List.getLast?_eq_none_iff]; exact List.eq_nil_of_length_eq_zero (by omega)
    intro r w F res S hs hF hsp hq
    exact h2 this _ r w F res S hs (Holds.cons (hinv F) hF) hsp hq
abbrev tNext : Ty := .tup [.agg bsTok, .b .bool]
abbrev NextR := HC [.agg bsTok, .b .bool]
def toN {σ : Type} (x : (Tok × Bool) × σ) : Res Empty σ NextR := .ok (x.1.1, x.1.2, ()) x.2
def scanS (b : ByteArray) : Sp Empty SSt NextR := fun st => (nextV b st).map toN
def endS (b : ByteArray) (t : Tok) : Sp Empty SSt NextR := fun st => (endV b t st).map toN
theorem k_retTB {σ : Type} {I : Ifc Empty σ} {Δ : Labels Empty σ NextR} {md : Mode} {L L1 L2 : Own} {Γ : List Fact} {st : σ} {run : Option (Res Empty σ NextR)} {b1 : Nat} {l : List Value} {c : Bool} (x : Tok) (hL : L = L1 ++ (b1, blk T_api_Token l) :: L2) (hl : l.length = 4) (hrun : run = some (.ok (x, c, ()) st)) :
    SimK PG I tNext (pl RelEq) Δ md st (.op (stS T_api_Token (.pointer (some ⟨b1, 0, none⟩)) (.agg #[.int .i64 x.1, .string x.2.1, .int .i64 x.2.2.1, .int .i64 x.2.2.2.1])) tU fun _ => .ret #[.c (.pointer (some ⟨b1, 0, none⟩)) T_api_Token, .v (.bool c)]) run L Γ := by
  refine k_loc (loc_st (L1 := L1) (L2 := L2) (l := l) (T := T_api_Token) (T0 := T_api_Token) (c := true) hL (by kernel_rfl) rfl (by simp [Value.cells, hl]) (by simp [Value.cells, Value.oneCell'])) ?_
  rintro _ _ _ ⟨rfl, rfl⟩
  have hs : splice l 0 (Value.agg #[.int .i64 x.1, .string x.2.1, .int .i64 x.2.2.1, .int .i64 x.2.2.2.1]).cells.toList = encTok x := by
    rw [splice_all (by simp [Value.cells, hl])]; rfl
  refine k_ret (t := tNext) (x, c, ()) (x, c, ()) hrun (fun r w F H hF hsp => ?_) fun F hF => rfl
  refine run_resRcA1 (a := ⟨b1, 0, none⟩) (T0 := T_api_Token) (l := encTok x) (vs := encTok x) (v := .bool c) (by kernel_rfl) (hsp.own _ _ (List.mem_append_right _ (List.mem_append_right _ ?_))) rfl rfl
  show _ ∈ (b1, blk T_api_Token (splice l 0 (Value.agg #[.int .i64 x.1, .string x.2.1, .int .i64 x.2.2.1, .int .i64 x.2.2.2.1]).cells.toList)) :: L2
  rw [hs]; exact List.mem_cons_self ..
theorem k_stT {ε σ β : Type} {I : Ifc ε σ} {t : Ty} {Rel : β → t.den → Own → Fact} {Δ : Labels ε σ β} {md : Mode} {L : Own} {Γ : List Fact} {st : σ} {run : Option (Res ε σ β)} {k : T} {b1 : Nat} {y : Tok} (x : Tok)
    (hk : SimK PG I t Rel Δ none st k run ((b1, blk T_api_Token (encTok x)) :: L) Γ) :
    SimK PG I t Rel Δ md st (.op (stS T_api_Token (.pointer (some ⟨b1, 0, none⟩)) (.agg #[.int .i64 x.1, .string x.2.1, .int .i64 x.2.2.1, .int .i64 x.2.2.2.1])) tU fun _ => k) run ((b1, blk T_api_Token (encTok y)) :: L) Γ := by
  refine k_loc (loc_st (L1 := []) (L2 := L) (l := encTok y) (T := T_api_Token) (T0 := T_api_Token) (c := true) rfl (by kernel_rfl) rfl (Nat.le_of_ble_eq_true rfl) (by simp [Value.cells, Value.oneCell'])) ?_
  rintro _ _ _ ⟨rfl, rfl⟩
  exact hk
theorem scan_m (hb : b.size ≤ 65536) : Meets PG (SI b sl pb) (callS F_Scanner_Next #[.pointer (some ⟨pb, 0, none⟩)]) tNext (scanS b) RelEq [ByF sl b, MxF] := by
  refine c_Scanner_Next ⟨pb, 0, none⟩ (k_open fun st => ?_)
  unfold t_Scanner_Next
  have hdef : scanS b st = (match blanksV b (b.size + 1) st.pos with
    | none => none
    | some (j, fine) => if !fine then some (toN ((⟨0, kE, j, 0, ()⟩, false), { st with pos := j }))
      else if j = b.size then some (toN ((⟨10, kE, j, j, ()⟩, true), { st with pos := j }))
      else match startB b (bAt b j) { st with pos := j } with
        | none => none
        | some (t, st') => endS b t st') := by
    simp only [scanS, nextV]
    cases blanksV b (b.size + 1) st.pos with
    | none => rfl
    | some x =>
      obtain ⟨j, fine⟩ := x
      cases fine with
      | false => rfl
      | true =>
        simp only
        split
        · rfl
        · split
          · rfl
          · cases startB b (bAt b j) { st with pos := j } <;> rfl
  rw [hdef]
  refine k_varT0 fun b1 => ?_
  refine k_call (blanks_m hb) (by simp) (fun h => ?_) (fun e => e.elim) fun x c st' h => ?_
  · cases h2 : blanksV b (b.size + 1) st.pos with
    | none => rfl
    | some x => simp only [blanksL, h2] at h; cases h
  cases h2 : blanksV b (b.size + 1) st.pos with
  | none => simp only [blanksL, h2] at h; cases h
  | some x2 =>
  obtain ⟨j, fine⟩ := x2
  simp only [blanksL, h2, Option.map_some, Option.some.injEq, Res.ok.injEq] at h
  obtain ⟨rfl, rfl⟩ := h
  refine k_fact fun F hx => ?_
  obtain rfl : fine = x := hx.symm
  refine s_le fun hle => s_pos ?_
  refine k_varT ((0, kE, (j : Int), 0, ()) : Tok) fun b4 => ?_
  cases fine with
  | false =>
    refine k_ite (fun h => ?_) (fun h => by cases h)
    refine k_ldT ((0, kE, (j : Int), 0, ()) : Tok) (List.mem_cons_self ..) ?_
    exact k_retTB (L1 := [_]) (L2 := []) ((0, kE, (j : Int), 0, ()) : Tok) rfl rfl rfl
  | true =>
  refine k_ite (fun h => by cases h) (fun h => ?_)
  simp only [Bool.not_true, if_neg (show ¬ false = true by decide)]
  refine k_draw [] (fun _ h => nomatch h) (s_posq (s_bq (k_len (by repeat (first | exact List.mem_cons_self .. | apply List.mem_cons_of_mem)) fun hl => k_ite (fun h => ?_) (fun h => ?_))))
  · have hj : j = b.size := by have : (j : Int) = (sl.2.1 : Int) := eq_of_beq h; omega
    simp only [if_pos hj]
    refine k_draw [] (fun _ h => nomatch h) (s_posq (s_posq ?_))
    refine k_locl (loc_st (L1 := [(b4, blk T_api_Token (encTok (0, kE, (j : Int), 0, ())))]) (L2 := []) (l := encTok noTok) (T := T_api_Token) (T0 := T_api_Token) (c := true) rfl (by kernel_rfl) rfl (Nat.le_of_ble_eq_true rfl) (by simp [Value.cells, Value.oneCell'])) ?_
    rintro _ _ _ ⟨rfl, rfl⟩
    refine ⟨(fun _ h => nomatch h), ?_⟩
    refine k_ret (t := tNext) (((10, kE, (j : Int), (j : Int), ()) : Tok), true, ()) (((10, kE, (j : Int), (j : Int), ()) : Tok), true, ()) rfl (fun r w F H hF hsp => ?_) fun F hF => rfl
    exact run_resRcA1 (a := ⟨b1, 0, none⟩) (T0 := T_api_Token) (l := encTok (10, kE, (j : Int), (j : Int), ())) (vs := encTok (10, kE, (j : Int), (j : Int), ())) (v := .bool true) (by kernel_rfl) (hsp.own _ _ (List.mem_append_right _ (List.mem_cons_of_mem _ (List.mem_cons_self ..)))) rfl rfl
  · have hj : ¬ j = b.size := by intro h'; have : ((j : Int) == (sl.2.1 : Int)) = true := by rw [h', hl]; exact beq_self_eq_true _
                                 have h3 : ((j : Int) == (sl.2.1 : Int)) = false := h
                                 rw [this] at h3; cases h3
    simp only [if_neg hj]
    have hjl : j < b.size := by have : j ≤ b.size := hle; omega
    refine k_draw [] (fun _ h => nomatch h) (s_bq (s_posq (k_byteq j (by repeat (first | exact List.mem_cons_self .. | apply List.mem_cons_of_mem)) (by repeat (first | exact List.mem_cons_self .. | apply List.mem_cons_of_mem)) rfl hjl ?_)))
    refine k_val (letter_m _) (fun _ h => nomatch h) ?_
    refine k_joinG (δ := Tok) (ts := []) (fun _ => ()) (fun t => [(b4, blk T_api_Token (encTok t)), (b1, blk T_api_Token (encTok noTok))]) (endS b) ?_ fun t st => ?_
    · have hst : ∀ (t : Tok) (st' : SSt), startB b (bAt b j) ⟨j, st.opn⟩ = some (t, st') → (match startB b (bAt b j) ⟨j, st.opn⟩ with
        | none => none
        | some (t, st') => endS b t st') = endS b t st' := fun t st' h => by rw [h]
      have hno : startB b (bAt b j) ⟨j, st.opn⟩ = none → (match startB b (bAt b j) ⟨j, st.opn⟩ with
        | none => none
        | some (t, st') => endS b t st') = none := fun h => by rw [h]
      have out0 : ∀ {md : Mode} {Γ : List Fact} {st' : SSt} {run} (t : Tok), run = endS b t st' → SimK PG (SI b sl pb) tNext (pl RelEq) (noLabel.set 0 (lbG [] (fun _ => ()) (fun t => [(b4, blk T_api_Token (encTok t)), (b1, blk T_api_Token (encTok noTok))]) (endS b))) md st' (.out 0 []) run [(b4, blk T_api_Token (encTok t)), (b1, blk T_api_Token (encTok noTok))] Γ := fun t h =>
        k_outG t lbR0 rfl rfl h
      refine k_ite (fun h1 => ?_) (fun h1 => ?_)
      · have hs : startB b (bAt b j) ⟨j, st.opn⟩ = (wordV b j).map fun t => (t, ⟨j, st.opn⟩) := by unfold startB; rw [if_pos h1]
        refine k_call (word_m hb) (by simp) (fun h => hno ?_) (fun e => e.elim) fun x t st' h => ?_
        · rw [hs]; simp only [wordS] at h; cases h2 : wordV b j with
          | none => rfl
          | some t => rw [h2] at h; cases h
        · simp only [wordS] at h
          cases h2 : wordV b j with
          | none => rw [h2] at h; cases h
          | some t2 =>
          rw [h2] at h
          simp only [Option.map_some, Option.some.injEq, Res.ok.injEq] at h
          obtain ⟨rfl, rfl⟩ := h
          refine k_fact fun F hx => ?_
          obtain rfl : x = t2 := hx
          exact k_stT x (out0 x (hst _ _ (by rw [hs, h2]; rfl)))
      · have h1' : letterB (bAt b j) = false := h1
        refine k_val (digit_m _) (fun _ h => nomatch h) (k_ite (fun h2 => ?_) (fun h2 => ?_))
        · have hs : startB b (bAt b j) ⟨j, st.opn⟩ = (numberV b j).map fun t => (t, ⟨j, st.opn⟩) := by unfold startB; rw [h1', if_neg (by decide), if_pos h2]
          refine k_call (number_mS hb) (by simp) (fun h => hno ?_) (fun e => e.elim) fun x t st' h => ?_
          · rw [hs]; simp only [numberS] at h; cases h2 : numberV b j with
            | none => rfl
            | some t => rw [h2] at h; cases h
          · simp only [numberS] at h
            cases h2 : numberV b j with
            | none => rw [h2] at h; cases h
            | some t2 =>
            rw [h2] at h
            simp only [Option.map_some, Option.some.injEq, Res.ok.injEq] at h
            obtain ⟨rfl, rfl⟩ := h
            refine k_fact fun F hx => ?_
            obtain rfl : x = t2 := hx
            exact k_stT x (out0 x (hst _ _ (by rw [hs, h2]; rfl)))
        · have h2' : digitB (bAt b j) = false := h2
          have hs3 : startB b (bAt b j) ⟨j, st.opn⟩ = (if (bAt b j == 34) || (bAt b j == 39) then none
            else if bAt b j == 96 then none
            else if bAt b j == 125 && st.opn.getLast?.getD false then none
            else signW b ⟨j, st.opn⟩) := by unfold startB; rw [h1', h2', if_neg (by decide), if_neg (by decide)]
          refine k_join (fun x st' => if st' = ⟨j, st.opn⟩ then (if x.1 = true then none else if x.1 = (bAt b j == 34 || bAt b j == 39) then (match startB b (bAt b j) ⟨j, st.opn⟩ with
            | none => none
            | some (t, st') => endS b t st') else none) else none) ?_ fun y2 st2 => ?_
          · have fin : ∀ c : Bool, c = (bAt b j == 34 || bAt b j == 39) → (match startB b (bAt b j) ⟨j, st.opn⟩ with
              | none => none
              | some (t, st') => endS b t st') = (if (⟨j, st.opn⟩ : SSt) = ⟨j, st.opn⟩ then (if c = true then none else if c = (bAt b j == 34 || bAt b j == 39) then (match startB b (bAt b j) ⟨j, st.opn⟩ with
              | none => none
              | some (t, st') => endS b t st') else none) else none) := fun c hc => by
              rw [if_pos rfl]
              cases c with
              | false => rw [if_neg (by decide), if_pos hc]
              | true => rw [if_pos rfl]; exact hno (by rw [hs3, ← hc]; rfl)
            refine k_ite (fun h3 => ?_) (fun h3 => ?_)
            · exact k_outV (s' := fun (x : HC [.b .bool]) st' => if st' = ⟨j, st.opn⟩ then (if x.1 = true then none else if x.1 = (bAt b j == 34 || bAt b j == 39) then (match startB b (bAt b j) ⟨j, st.opn⟩ with
              | none => none
              | some (t, st') => endS b t st') else none) else none) (true, ()) lbR0 rfl (fin true (by rw [show (bAt b j == 34) = true from h3]; rfl))
            · exact k_outV (s' := fun (x : HC [.b .bool]) st' => if st' = ⟨j, st.opn⟩ then (if x.1 = true then none else if x.1 = (bAt b j == 34 || bAt b j == 39) then (match startB b (bAt b j) ⟨j, st.opn⟩ with
              | none => none
              | some (t, st') => endS b t st') else none) else none) ((bAt b j == 39 : Bool), ()) lbR0 rfl (fin _ (by rw [show (bAt b j == 34) = false from h3]; rfl))
          · obtain ⟨(c : Bool), ⟨⟩⟩ := y2
            by_cases hs2 : st2 = ⟨j, st.opn⟩
            case neg => exact k_none (if_neg hs2)
            subst hs2
            rw [if_pos rfl]
            refine k_ite (fun h3 => ?_) (fun h3 => ?_)
            · exact k_none (if_pos h3)
            obtain rfl : c = false := h3
            by_cases hq : false = (bAt b j == 34 || bAt b j == 39)
            case neg => exact k_none (by show (if false = true then none else if false = (bAt b j == 34 || bAt b j == 39) then _ else none) = none; rw [if_neg (by decide), if_neg hq])
            show SimK _ _ _ _ _ _ _ _ (if false = true then none else if false = (bAt b j == 34 || bAt b j == 39) then _ else none) _ _
            rw [if_neg (show ¬ false = true by decide), if_pos hq]
            rw [← hq, if_neg (show ¬ false = true by decide)] at hs3
            refine k_ite (fun h4 => ?_) (fun h4 => ?_)
            · exact k_none (hno (by rw [hs3, if_pos h4]))
            rw [show (bAt b j == 96) = false from h4, if_neg (show ¬ false = true by decide)] at hs3
            refine k_join (fun x st' => if st' = ⟨j, st.opn⟩ then (if x.1 = true then none else if x.1 = (bAt b j == 125 && st.opn.getLast?.getD false) then (match startB b (bAt b j) ⟨j, st.opn⟩ with
              | none => none
              | some (t, st') => endS b t st') else none) else none) ?_ fun y2 st2 => ?_
            · have fin : ∀ c : Bool, c = (bAt b j == 125 && st.opn.getLast?.getD false) → (match startB b (bAt b j) ⟨j, st.opn⟩ with
                | none => none
                | some (t, st') => endS b t st') = (if (⟨j, st.opn⟩ : SSt) = ⟨j, st.opn⟩ then (if c = true then none else if c = (bAt b j == 125 && st.opn.getLast?.getD false) then (match startB b (bAt b j) ⟨j, st.opn⟩ with
                | none => none
                | some (t, st') => endS b t st') else none) else none) := fun c hc => by
                rw [if_pos rfl]
                cases c with
                | false => rw [if_neg (by decide), if_pos hc]
                | true => rw [if_pos rfl]; exact hno (by rw [hs3, ← hc]; rfl)
              refine k_draw [] (fun _ h => nomatch h) (k_ite (fun h5 => ?_) (fun h5 => ?_))
              · refine s_lastq (fun c hc => ?_) (fun hc => ?_)
                · exact k_outV (s' := fun (x : HC [.b .bool]) st' => if st' = ⟨j, st.opn⟩ then (if x.1 = true then none else if x.1 = (bAt b j == 125 && st.opn.getLast?.getD false) then (match startB b (bAt b j) ⟨j, st.opn⟩ with
              | none => none
              | some (t, st') => endS b t st') else none) else none) (c, ()) lbR0 rfl (fin c (by rw [show (bAt b j == 125) = true from h5]; have hc' : st.opn.getLast? = some c := hc; rw [hc']; rfl))
                · exact k_outV (s' := fun (x : HC [.b .bool]) st' => if st' = ⟨j, st.opn⟩ then (if x.1 = true then none else if x.1 = (bAt b j == 125 && st.opn.getLast?.getD false) then (match startB b (bAt b j) ⟨j, st.opn⟩ with
              | none => none
              | some (t, st') => endS b t st') else none) else none) (false, ()) lbR0 rfl (fin false (by have hc' : st.opn.getLast? = none := hc; rw [hc']; simp))
              · exact k_outV (s' := fun (x : HC [.b .bool]) st' => if st' = ⟨j, st.opn⟩ then (if x.1 = true then none else if x.1 = (bAt b j == 125 && st.opn.getLast?.getD false) then (match startB b (bAt b j) ⟨j, st.opn⟩ with
              | none => none
              | some (t, st') => endS b t st') else none) else none) (false, ()) lbR0 rfl (fin false (by rw [show (bAt b j == 125) = false from h5]; rfl))
            · obtain ⟨(c : Bool), ⟨⟩⟩ := y2
              by_cases hs2 : st2 = ⟨j, st.opn⟩
              case neg => exact k_none (if_neg hs2)
              subst hs2
              rw [if_pos rfl]
              refine k_ite (fun h3 => ?_) (fun h3 => ?_)
              · exact k_none (if_pos h3)
              obtain rfl : c = false := h3
              by_cases hq : false = (bAt b j == 125 && st.opn.getLast?.getD false)
              case neg => exact k_none (by show (if false = true then none else if false = (bAt b j == 125 && st.opn.getLast?.getD false) then _ else none) = none; rw [if_neg (by decide), if_neg hq])
              show SimK _ _ _ _ _ _ _ _ (if false = true then none else if false = (bAt b j == 125 && st.opn.getLast?.getD false) then _ else none) _ _
              rw [if_neg (show ¬ false = true by decide), if_pos hq]
              rw [← hq, if_neg (show ¬ false = true by decide)] at hs3
              refine k_call (sign_m hb) (by simp) (fun h => hno ?_) (fun e => e.elim) fun x t st' h => ?_
              · rw [hs3]; simp only [signS, okS] at h; cases h2 : signW b ⟨j, st.opn⟩ with
                | none => rfl
                | some t => rw [h2] at h; cases h
              · simp only [signS, okS] at h
                cases h2 : signW b ⟨j, st.opn⟩ with
                | none => rw [h2] at h; cases h
                | some t2 =>
                rw [h2] at h
                simp only [Option.map_some, Option.some.injEq, Res.ok.injEq] at h
                obtain ⟨rfl, rfl⟩ := h
                refine k_fact fun F hx => ?_
                have hx' : x = t2.1 := hx
                subst hx'
                exact k_stT t2.1 (out0 t2.1 (hst _ _ (by rw [hs3, h2])))
    · have he : endS b t st = (if t.kind == 0 then some (.ok ((0, kE, (st.pos : Int), 0, ()), false, ()) st) else if 0 ≤ t.fin ∧ t.fin ≤ b.size then some (.ok (t, true, ()) { st with pos := t.fin.toNat }) else none) := by
        simp only [endS, endV]
        split
        · rfl
        · split <;> rfl
      rw [he]
      refine k_ldO (b1 := .int .i64) t.kind (List.mem_cons_self ..) (by kernel_rfl) rfl rfl (k_ite (fun h1 => ?_) (fun h1 => ?_))
      · rw [if_pos h1]
        refine s_pos ?_
        exact k_retTB (L1 := [_]) (L2 := []) ((0, kE, (st.pos : Int), 0, ()) : Tok) rfl rfl rfl
      · rw [show (t.kind == 0) = false from h1, if_neg (show ¬ false = true by decide)]
        by_cases hf : 0 ≤ t.fin ∧ t.fin ≤ b.size
        case neg => exact k_none (if_neg hf)
        rw [if_pos hf]
        refine k_ldO (b1 := .int .i64) t.fin (List.mem_cons_self ..) (by kernel_rfl) rfl rfl ?_
        refine s_set t.fin.toNat (by omega) (by omega) ?_
        refine k_ldT t (List.mem_cons_self ..) ?_
        exact k_retTB (L1 := [_]) (L2 := []) t rfl rfl rfl
end
end Go.Proofs.YtjlgcpgjdgeejaaGreatDoor
end

/- The trees of functions of the program, each with the proof that it is the tree of the translated code. Conditions: none. By program. -/
section
namespace Go.Proofs.YtjlgcpgjdgeejaaGreatDoor
open Go
set_option linter.unusedVariables false
set_option maxRecDepth 100000
noncomputable section
def an_slices_Clone_byte_byte : An :=
  .s (.r [none]) (.s (.s (.r [none, some tB]) (.c (.s (.r [none]) (.x)) (.x))) (.s (.r [some tSl, none, some tSl, none]) (.x)))
def t_slices_Clone_byte_byte (a0_s : Option Addr × Nat × Nat) : T :=
  .op (binS .eql T_Suint8 (.slice a0_s.1 a0_s.2.1 a0_s.2.2) (.slice none 0 0)) tB fun r1 =>
  .ite r1 (
    .ret #[.v (.slice none 0 0)]) (
    .op (sliceS T_Suint8 0 #[]) tSl fun r2 =>
    .op (appS #[T_Suint8, T_Suint8] T_Suint8 #[.slice r2.1 r2.2.1 r2.2.2, .slice a0_s.1 a0_s.2.1 a0_s.2.2]) tSl fun r3 =>
    .ret #[.v (.slice r3.1 r3.2.1 r3.2.2)])
theorem d_slices_Clone_byte_byte (a0_s : Option Addr × Nat × Nat) : fnT Tryz.prog Tryz.f69 an_slices_Clone_byte_byte [.slice a0_s.1 a0_s.2.1 a0_s.2.2] = t_slices_Clone_byte_byte a0_s := by kernel_rfl
theorem c_slices_Clone_byte_byte {ε σ β : Type} {I : Ifc ε σ} {t : Ty} {s : Sp ε σ β} {Rel : β → t.den → Own → Fact} {Γ : List Fact} (a0_s : Option Addr × Nat × Nat) (h : Sim Tryz.prog I t Rel noLabel none (t_slices_Clone_byte_byte a0_s) s [] Γ) : MeetsO Tryz.prog I (callS F_slices_Clone_byte_byte #[.slice a0_s.1 a0_s.2.1 a0_s.2.2]) t s Rel Γ :=
  meets_of_sim (args := [.slice a0_s.1 a0_s.2.1 a0_s.2.2]) Tryz.func69 rfl rfl (Nat.le_of_ble_eq_true rfl) (by rw [d_slices_Clone_byte_byte]; exact h)

def an_lex_Scan : An :=
  .s (.r [some tA, none]) (.s (.r [some tSl, some tSl, some tU]) (.s (.r [none, none]) (.x)))
def t_lex_Scan (a0_b : Option Addr × Nat × Nat) : T :=
  .op (boxS T_Suint8 (.slice a0_b.1 a0_b.2.1 a0_b.2.2)) tA fun r1 =>
  .op (ldS T_Suint8 (.pointer (some r1))) tSl fun r2 =>
  .op (callS F_slices_Clone_byte_byte #[.slice r2.1 r2.2.1 r2.2.2]) tSl fun r3 =>
  .op (stS T_Suint8 (.pointer (some r1)) (.slice r3.1 r3.2.1 r3.2.2)) tU fun _ =>
  .ret #[.v (.func (.func F_lex_Scan_1) #[] #[.pointer (some r1)])]
theorem d_lex_Scan (a0_b : Option Addr × Nat × Nat) : fnT Tryz.prog Tryz.f43 an_lex_Scan [.slice a0_b.1 a0_b.2.1 a0_b.2.2] = t_lex_Scan a0_b := by kernel_rfl
theorem c_lex_Scan {ε σ β : Type} {I : Ifc ε σ} {t : Ty} {s : Sp ε σ β} {Rel : β → t.den → Own → Fact} {Γ : List Fact} (a0_b : Option Addr × Nat × Nat) (h : Sim Tryz.prog I t Rel noLabel none (t_lex_Scan a0_b) s [] Γ) : MeetsO Tryz.prog I (callS F_lex_Scan #[.slice a0_b.1 a0_b.2.1 a0_b.2.2]) t s Rel Γ :=
  meets_of_sim (args := [.slice a0_b.1 a0_b.2.1 a0_b.2.2]) Tryz.func43 rfl rfl (Nat.le_of_ble_eq_true rfl) (by rw [d_lex_Scan]; exact h)

def an_lex_Scan_1 : An :=
  .b (.s (.s (.r [some tSl, none, none]) (.c (.s (.r [none, none, some tB]) (.x)) (.x))) (.s (.r [some tSl, some tP, none]) (.s (.x) (.s (.r [none]) (.b (.l [(4, .b (.int .i64))] (.s (.b (.s (.r [none, some (.tup [.agg [.int .i64, .str, .int .i64, .int .i64], .b .bool]), none, none, none, some tA, some tU, none]) (.s (.b (.s (.r [none, none, none]) (.c (.s (.r [none, none, some tI, none, some tB]) (.x)) (.s (.j [(30, .b .bool)] (.r [none, none, none, none, some tI, none, none, none])) (.c (.s (.r [none, none, some tI, none, some tB]) (.x)) (.s (.r [none, some (.c (.agg [.int .i64, .str, .int .i64, .int .i64])), some tB, none, none, none, some tI, none, none, none]) (.c (.x) (.x)))))))) (.x)))) (.r [none, none, none]))))))))
def t_lex_Scan_1 (a0_yield : Value) (a1_a1 : Addr) : T :=
  .op (ldS T_Suint8 (.pointer (some a1_a1))) tSl fun r1 =>
  .ite (decide (((r1.2.1 : Int) : Int) > 65536)) (
    .op (callvS a0_yield #[.agg #[.int .i64 0, .string kE, .int .i64 0, .int .i64 0], .int .i64 2]) tB fun r2 =>
    .ret #[]) (
    .op (ldS T_Suint8 (.pointer (some a1_a1))) tSl fun r3 =>
    .op (callS F_scan_Begin #[.slice r3.1 r3.2.1 r3.2.2]) tP fun r4 =>
    .loop 0 [.b (.int .i64)] [.int .i64 0] fun x5 =>
      .op (callS F_Scanner_Next #[.pointer r4]) (.tup [.agg [.int .i64, .str, .int .i64, .int .i64], .b .bool]) fun r6 =>
      .op (allocS T_api_Token) tA fun r7 =>
      .op (stS T_api_Token (.pointer (some r7)) (.agg #[.int .i64 r6.1.1, .string r6.1.2.1, .int .i64 r6.1.2.2.1, .int .i64 r6.1.2.2.2.1])) tU fun _ =>
      .ite (!r6.2.1) (
        .op (ldS T_int (.pointer (some ⟨r7.block, r7.off + 2, none⟩))) tI fun r9 =>
        .op (callvS a0_yield #[.agg #[.int .i64 0, .string kE, .int .i64 r9, .int .i64 0], .int .i64 3]) tB fun r10 =>
        .ret #[]) (
        .join 1 [.b .bool] (
          .ite ((x5.1 : Int) == 8192) (
            .op (ldS T_int (.pointer (some r7))) tI fun r11 =>
            .out 1 [.bool ((r11 : Int) != 10)]) (
            .out 1 [.bool false])) fun x12 =>
        .ite x12.1 (
          .op (ldS T_int (.pointer (some ⟨r7.block, r7.off + 2, none⟩))) tI fun r13 =>
          .op (callvS a0_yield #[.agg #[.int .i64 0, .string kE, .int .i64 r13, .int .i64 0], .int .i64 4]) tB fun r14 =>
          .ret #[]) (
          .op (ldS T_api_Token (.pointer (some r7))) (.c (.agg [.int .i64, .str, .int .i64, .int .i64])) fun r15 =>
          .op (callvS a0_yield #[.agg #[.int .i64 r15.1, .string r15.2.1, .int .i64 r15.2.2.1, .int .i64 r15.2.2.2.1], .int .i64 0]) tB fun r16 =>
          .ite (!r16) (
            .ret #[]) (
            .op (ldS T_int (.pointer (some r7))) tI fun r17 =>
            .ite ((r17 : Int) == 10) (
              .ret #[]) (
              .out 0 [.int .i64 (IntKind.i64.wrap (x5.1 + 1))])))))
theorem d_lex_Scan_1 (a0_yield : Value) (a1_a1 : Addr) : fnT Tryz.prog Tryz.f70 an_lex_Scan_1 [a0_yield, .pointer (some a1_a1)] = t_lex_Scan_1 a0_yield a1_a1 := by kernel_rfl
theorem c_lex_Scan_1 {ε σ β : Type} {I : Ifc ε σ} {t : Ty} {s : Sp ε σ β} {Rel : β → t.den → Own → Fact} {Γ : List Fact} (a0_yield : Value) (a1_a1 : Addr) (h : Sim Tryz.prog I t Rel noLabel none (t_lex_Scan_1 a0_yield a1_a1) s [] Γ) : MeetsO Tryz.prog I (callS F_lex_Scan_1 #[a0_yield, .pointer (some a1_a1)]) t s Rel Γ :=
  meets_of_sim (args := [a0_yield, .pointer (some a1_a1)]) Tryz.func70 rfl rfl (Nat.le_of_ble_eq_true rfl) (by rw [d_lex_Scan_1]; exact h)

def an_lex_Depth : An :=
  .s (.r [none, none]) (.s (.r [none, none, none]) (.s (.s (.r [none, none, none]) (.b (.l [(6, .b (.int .i64)), (7, .b (.int .i64)), (8, .b (.int .i64)), (13, .b (.int .i64))] (.s (.r [none]) (.s (.c (.x) (.x)) (.s (.b (.s (.r [none, some tA, some (.c (.agg [.int .i64, .str, .int .i64, .int .i64])), some tA, none, some tU]) (.s (.r [none, some (.c (.agg [.int .i64, .str, .int .i64, .int .i64])), some tI, none, none, none]) (.s (.r [none, none, none, none]) (.s (.r [none, none, none, none, none, none, none]) (.c (.r [none, none]) (.x))))))) (.r [none, none]))))))) (.s (.r [none, none, none, none]) (.x))))
def t_lex_Depth (a0_l : Option Addr × Nat × Nat) (a1_most : Int) : T :=
  .loop 0 [.b (.int .i64), .b (.int .i64), .b (.int .i64), .b (.int .i64)] [.int .i64 0, .int .i64 0, .int .i64 (-1), .int .i64 0] fun x1 =>
    .ite (decide ((x1.2.2.2.1 : Int) < (a0_l.2.1 : Int))) (
      .op (idxAS T_Sapi_Token (.slice a0_l.1 a0_l.2.1 a0_l.2.2) (.int .i64 x1.2.2.2.1)) tA fun r2 =>
      .op (ldS T_api_Token (.pointer (some r2))) (.c (.agg [.int .i64, .str, .int .i64, .int .i64])) fun r3 =>
      .op (allocS T_api_Token) tA fun r4 =>
      .op (stS T_api_Token (.pointer (some r4)) (.agg #[.int .i64 r3.1, .string r3.2.1, .int .i64 r3.2.2.1, .int .i64 r3.2.2.2.1])) tU fun _ =>
      .op (ldS T_api_Token (.pointer (some r4))) (.c (.agg [.int .i64, .str, .int .i64, .int .i64])) fun r6 =>
      .op (callS F_scan_Turn #[.agg #[.int .i64 r6.1, .string r6.2.1, .int .i64 r6.2.2.1, .int .i64 r6.2.2.2.1]]) tI fun r7 =>
      .ite (decide ((if (IntKind.i64.wrap (x1.1 + r7) : Int) > 0 then IntKind.i64.wrap (x1.1 + r7) else 0 : Int) > a1_most)) (
        .ite (decide ((x1.2.2.1 : Int) < 0)) (
          .out 0 [.int .i64 (if (IntKind.i64.wrap (x1.1 + r7) : Int) > 0 then IntKind.i64.wrap (x1.1 + r7) else 0), .int .i64 (if (if (IntKind.i64.wrap (x1.1 + r7) : Int) > 0 then IntKind.i64.wrap (x1.1 + r7) else 0 : Int) > x1.2.1 then if (IntKind.i64.wrap (x1.1 + r7) : Int) > 0 then IntKind.i64.wrap (x1.1 + r7) else 0 else x1.2.1), .int .i64 x1.2.2.2.1, .int .i64 (IntKind.i64.wrap (x1.2.2.2.1 + 1))]) (
          .out 0 [.int .i64 (if (IntKind.i64.wrap (x1.1 + r7) : Int) > 0 then IntKind.i64.wrap (x1.1 + r7) else 0), .int .i64 (if (if (IntKind.i64.wrap (x1.1 + r7) : Int) > 0 then IntKind.i64.wrap (x1.1 + r7) else 0 : Int) > x1.2.1 then if (IntKind.i64.wrap (x1.1 + r7) : Int) > 0 then IntKind.i64.wrap (x1.1 + r7) else 0 else x1.2.1), .int .i64 x1.2.2.1, .int .i64 (IntKind.i64.wrap (x1.2.2.2.1 + 1))])) (
        .out 0 [.int .i64 (if (IntKind.i64.wrap (x1.1 + r7) : Int) > 0 then IntKind.i64.wrap (x1.1 + r7) else 0), .int .i64 (if (if (IntKind.i64.wrap (x1.1 + r7) : Int) > 0 then IntKind.i64.wrap (x1.1 + r7) else 0 : Int) > x1.2.1 then if (IntKind.i64.wrap (x1.1 + r7) : Int) > 0 then IntKind.i64.wrap (x1.1 + r7) else 0 else x1.2.1), .int .i64 x1.2.2.1, .int .i64 (IntKind.i64.wrap (x1.2.2.2.1 + 1))])) (
      .ret #[.v (.int .i64 x1.2.1), .v (.int .i64 x1.2.2.1)])
theorem d_lex_Depth (a0_l : Option Addr × Nat × Nat) (a1_most : Int) : fnT Tryz.prog Tryz.f49 an_lex_Depth [.slice a0_l.1 a0_l.2.1 a0_l.2.2, .int .i64 a1_most] = t_lex_Depth a0_l a1_most := by kernel_rfl
theorem c_lex_Depth {ε σ β : Type} {I : Ifc ε σ} {t : Ty} {s : Sp ε σ β} {Rel : β → t.den → Own → Fact} {Γ : List Fact} (a0_l : Option Addr × Nat × Nat) (a1_most : Int) (h : Sim Tryz.prog I t Rel noLabel none (t_lex_Depth a0_l a1_most) s [] Γ) : MeetsO Tryz.prog I (callS F_lex_Depth #[.slice a0_l.1 a0_l.2.1 a0_l.2.2, .int .i64 a1_most]) t s Rel Γ :=
  meets_of_sim (args := [.slice a0_l.1 a0_l.2.1 a0_l.2.2, .int .i64 a1_most]) Tryz.func49 rfl rfl (Nat.le_of_ble_eq_true rfl) (by rw [d_lex_Depth]; exact h)

def an_parse_whole : An :=
  .s (.r [some tA, none, none]) (.s (.r [none, some (.tup [.b .slice, .b (.int .i64), .b (.int .i64)]), none, none, none, none, none, none, none]) (.s (.s (.r [none, none]) (.c (.s (.r [none, none, none, some tU, none, none]) (.x)) (.x))) (.s (.s (.r [none, some (.tup [.b (.int .i64), .b (.int .i64)]), none, none, none, none, none]) (.s (.r [none, none]) (.c (.s (.d (.q 0 none (.q 1 none (.q 2 none (.q 3 (some tA) (.q 4 none (.q 5 (some tI) (.l 6 (some tU) (.q 7 none (.q 8 none (.e))))))))))) (.x)) (.x)))) (.s (.r [none, none, some (.tup [.agg [.slice], .b (.int .i64), .b .bool]), none, none, none, none, some tA, some tU, none, none]) (.s (.s (.r [none, none]) (.c (.s (.r [none, none, some tU, none, none]) (.x)) (.x))) (.s (.r [some (.c (.agg [.slice])), some tU, none, none]) (.x)))))))
def t_parse_whole (a0_b : Option Addr × Nat × Nat) (a1_kind : Int) : T :=
  .op (allocS T_api_Tree) tA fun r1 =>
  .op (callS F_lex_Tokens #[.slice a0_b.1 a0_b.2.1 a0_b.2.2]) (.tup [.b .slice, .b (.int .i64), .b (.int .i64)]) fun r2 =>
  .ite ((r2.2.2.1 : Int) != 0) (
    .op (stS T_api_Tree (.pointer (some r1)) (.agg #[.slice none 0 0])) tU fun _ =>
    .ret #[.c (.pointer (some r1)) T_api_Tree, .v (.int .i64 r2.2.1), .v (.int .i64 r2.2.2.1)]) (
    .op (callS F_lex_Depth #[.slice r2.1.1 r2.1.2.1 r2.1.2.2, .int .i64 64]) (.tup [.b (.int .i64), .b (.int .i64)]) fun r4 =>
    .ite (decide ((r4.2.1 : Int) ≥ 0)) (
      .draw <|
      .opq (idxAS T_Sapi_Token (.slice r2.1.1 r2.1.2.1 r2.1.2.2) (.int .i64 r4.2.1)) tA fun r5 =>
      .opq (ldS T_int (.pointer (some ⟨r5.block, r5.off + 2, none⟩))) tI fun r6 =>
      .opl (stS T_api_Tree (.pointer (some r1)) (.agg #[.slice none 0 0])) tU fun _ =>
      .ret #[.c (.pointer (some r1)) T_api_Tree, .v (.int .i64 r6), .v (.int .i64 5)]) (
      .op (callS F_syntax_Run #[.slice r2.1.1 r2.1.2.1 r2.1.2.2, .int .i64 a1_kind]) (.tup [.agg [.slice], .b (.int .i64), .b .bool]) fun r8 =>
      .op (allocS T_api_Tree) tA fun r9 =>
      .op (stS T_api_Tree (.pointer (some r9)) (.agg #[.slice r8.1.1.1 r8.1.1.2.1 r8.1.1.2.2])) tU fun _ =>
      .ite (!r8.2.2.1) (
        .op (stS T_api_Tree (.pointer (some r1)) (.agg #[.slice none 0 0])) tU fun _ =>
        .ret #[.c (.pointer (some r1)) T_api_Tree, .v (.int .i64 r8.2.1), .v (.int .i64 6)]) (
        .op (ldS T_api_Tree (.pointer (some r9))) (.c (.agg [.slice])) fun r12 =>
        .op (stS T_api_Tree (.pointer (some r1)) (.agg #[.slice r12.1.1 r12.1.2.1 r12.1.2.2])) tU fun _ =>
        .ret #[.c (.pointer (some r1)) T_api_Tree, .v (.int .i64 0), .v (.int .i64 0)])))
theorem d_parse_whole (a0_b : Option Addr × Nat × Nat) (a1_kind : Int) : fnT Tryz.prog Tryz.f33 an_parse_whole [.slice a0_b.1 a0_b.2.1 a0_b.2.2, .int .i64 a1_kind] = t_parse_whole a0_b a1_kind := by kernel_rfl
theorem c_parse_whole {ε σ β : Type} {I : Ifc ε σ} {t : Ty} {s : Sp ε σ β} {Rel : β → t.den → Own → Fact} {Γ : List Fact} (a0_b : Option Addr × Nat × Nat) (a1_kind : Int) (h : Sim Tryz.prog I t Rel noLabel none (t_parse_whole a0_b a1_kind) s [] Γ) : MeetsO Tryz.prog I (callS F_parse_whole #[.slice a0_b.1 a0_b.2.1 a0_b.2.2, .int .i64 a1_kind]) t s Rel Γ :=
  meets_of_sim (args := [.slice a0_b.1 a0_b.2.1 a0_b.2.2, .int .i64 a1_kind]) Tryz.func33 rfl rfl (Nat.le_of_ble_eq_true rfl) (by rw [d_parse_whole]; exact h)

def an_parse_Program : An :=
  .s (.r [some tA, none, none]) (.s (.r [none, some (.tup [.agg [.slice], .b (.int .i64), .b (.int .i64)]), none, none, none, some tU, none, none]) (.x))
def t_parse_Program (a0_b : Option Addr × Nat × Nat) : T :=
  .op (allocS T_api_Tree) tA fun r1 =>
  .op (callS F_parse_whole #[.slice a0_b.1 a0_b.2.1 a0_b.2.2, .int .i64 0]) (.tup [.agg [.slice], .b (.int .i64), .b (.int .i64)]) fun r2 =>
  .op (stS T_api_Tree (.pointer (some r1)) (.agg #[.slice r2.1.1.1 r2.1.1.2.1 r2.1.1.2.2])) tU fun _ =>
  .ret #[.c (.pointer (some r1)) T_api_Tree, .v (.int .i64 r2.2.1), .v (.int .i64 r2.2.2.1)]
theorem d_parse_Program (a0_b : Option Addr × Nat × Nat) : fnT Tryz.prog Tryz.f16 an_parse_Program [.slice a0_b.1 a0_b.2.1 a0_b.2.2] = t_parse_Program a0_b := by kernel_rfl
theorem c_parse_Program {ε σ β : Type} {I : Ifc ε σ} {t : Ty} {s : Sp ε σ β} {Rel : β → t.den → Own → Fact} {Γ : List Fact} (a0_b : Option Addr × Nat × Nat) (h : Sim Tryz.prog I t Rel noLabel none (t_parse_Program a0_b) s [] Γ) : MeetsO Tryz.prog I (callS F_parse_Program #[.slice a0_b.1 a0_b.2.1 a0_b.2.2]) t s Rel Γ :=
  meets_of_sim (args := [.slice a0_b.1 a0_b.2.1 a0_b.2.2]) Tryz.func16 rfl rfl (Nat.le_of_ble_eq_true rfl) (by rw [d_parse_Program]; exact h)

def an_parse_Expr : An :=
  .s (.r [some tA, none, none]) (.s (.r [none, some (.tup [.agg [.slice], .b (.int .i64), .b (.int .i64)]), none, none, none, some tU, none, none]) (.x))
def t_parse_Expr (a0_b : Option Addr × Nat × Nat) : T :=
  .op (allocS T_api_Tree) tA fun r1 =>
  .op (callS F_parse_whole #[.slice a0_b.1 a0_b.2.1 a0_b.2.2, .int .i64 1]) (.tup [.agg [.slice], .b (.int .i64), .b (.int .i64)]) fun r2 =>
  .op (stS T_api_Tree (.pointer (some r1)) (.agg #[.slice r2.1.1.1 r2.1.1.2.1 r2.1.1.2.2])) tU fun _ =>
  .ret #[.c (.pointer (some r1)) T_api_Tree, .v (.int .i64 r2.2.1), .v (.int .i64 r2.2.2.1)]
theorem d_parse_Expr (a0_b : Option Addr × Nat × Nat) : fnT Tryz.prog Tryz.f22 an_parse_Expr [.slice a0_b.1 a0_b.2.1 a0_b.2.2] = t_parse_Expr a0_b := by kernel_rfl
theorem c_parse_Expr {ε σ β : Type} {I : Ifc ε σ} {t : Ty} {s : Sp ε σ β} {Rel : β → t.den → Own → Fact} {Γ : List Fact} (a0_b : Option Addr × Nat × Nat) (h : Sim Tryz.prog I t Rel noLabel none (t_parse_Expr a0_b) s [] Γ) : MeetsO Tryz.prog I (callS F_parse_Expr #[.slice a0_b.1 a0_b.2.1 a0_b.2.2]) t s Rel Γ :=
  meets_of_sim (args := [.slice a0_b.1 a0_b.2.1 a0_b.2.2]) Tryz.func22 rfl rfl (Nat.le_of_ble_eq_true rfl) (by rw [d_parse_Expr]; exact h)

end
end Go.Proofs.YtjlgcpgjdgeejaaGreatDoor
end

/- lex.Scan: a copy of the bytes, and the iterator over it. Conditions: none. -/
section
namespace Go.Proofs.YtjlgcpgjdgeejaaGreatDoor
open Go
set_option linter.unusedSimpArgs false
set_option linter.unusedVariables false
set_option linter.constructorNameAsVariable false
set_option maxRecDepth 100000

section
variable {ε σ β : Type} {P : Program} {I : Ifc ε σ} {t : Ty} {Rel : β → t.den → Own → Fact} {Δ : Labels ε σ β} {md : Mode} {L : Own} {Γ : List Fact} {st : σ} {run : Option (Res ε σ β)}
theorem k_freezeL {m : T} : ∀ (K : Own) {Γ : List Fact} {md : Mode}, (∀ Γ', (∀ A ∈ Γ, A ∈ Γ') → (∀ p ∈ K, Fact.at p.1 p.2 ∈ Γ') → SimK P I t Rel Δ none st m run L Γ') → SimK P I t Rel Δ md st m run (K ++ L) Γ
  | [], Γ, md, h => k_lift (h Γ (fun A h => h) (fun p h => nomatch h))
  | p :: K, Γ, md, h => k_freeze (k_freezeL K fun Γ' h1 h2 => h Γ' (fun A hA => h1 A (List.mem_cons_of_mem _ hA)) fun q hq => by
      rcases List.mem_cons.1 hq with rfl | hq
      · exact h1 _ (List.mem_cons_self ..)
      · exact h2 q hq)
end
theorem rows_u8 (b : ByteArray) : (rows encU8 b.data.toList).length = b.size := by
  rw [rows_length encU8_len]; simp
theorem rows_u8_one (b : ByteArray) : ∀ u ∈ rows encU8 b.data.toList, u.oneCell' = true := by
  intro u hu
  simp only [rows, List.mem_flatMap] at hu
  obtain ⟨x, _, hx⟩ := hu
  simp only [encU8, List.mem_singleton] at hx
  subst hx; rfl
def OwnB (b : ByteArray) (x : SlD) (K : Own) : Fact := Fact.prop (Buf T_uint8 1 x (rows encU8 b.data.toList) K)
theorem OwnB.byF {b : ByteArray} {x : SlD} {K : Own} {F : Heap} (h : Buf T_uint8 1 x (rows encU8 b.data.toList) K) (hK : ∀ p ∈ K, F p.1 = some p.2) : (ByF x b).p F := by
  have hlen : x.2.1 = b.size := by have h1 := Buf.len h; rw [rows_u8] at h1; omega
  rcases h with ⟨_, rfl, h3⟩ | ⟨g, cells, rfl, h2, h3, h4, h5, h6, h7⟩
  · exact ⟨hlen, Nat.le_refl _, .inl hlen.symm⟩
  · refine ⟨hlen, h4, .inr ⟨⟨g, 0, none⟩, cells.toArray, T_uint8, (0, 0), h2, rfl, hK _ (List.mem_cons_self ..), fun i hi => ?_⟩⟩
    have h8 := rows_at encU8_len b.data.toList i b[i] (ba_at b i hi)
    rw [← h7, List.drop_take, List.take_take] at h8
    have h9 : ((cells.drop (i * 1)).take (min 1 (x.2.1 * 1 - i * 1)))[0]? = (encU8 b[i])[0]? := by rw [h8]
    rw [List.getElem?_take, if_pos (by omega), List.getElem?_drop] at h9
    simpa [encU8] using h9
theorem run_slice0 (w : World) : (sliceS T_Suint8 0 #[]).run PG w = .ok (.value (.slice (some ⟨w.heap.size, 0, none⟩) 0 0)) (w.alloc (blk T_uint8 [])) := by
  have h1 : PG.underlying T_Suint8 = some (.slice T_uint8) := by kernel_rfl
  have h2 : shapeOf PG T_uint8 = some (false, 1) := by kernel_rfl
  simp only [sliceS, valS, Instr.buildSlice, run_underlying h1, (run_isAgg h2).2, Sem.run_bind, Result.andThen_ok, Sem.run_pure]
  have h0 : Array.range 0 = #[] := rfl
  simp [newRow, blk, Instr.fill, h0]
theorem clone_m {ε : Type} (sl : SlD) (b : ByteArray) (hb : b.size ≤ 17179869184) : MeetsO PG (I0 : Ifc ε Unit) (callS F_slices_Clone_byte_byte #[.slice sl.1 sl.2.1 sl.2.2]) tSl (Pure.pure () : Sp ε Unit Unit) (fun _ x K => OwnB b x K) [ByF sl b] := by
  refine c_slices_Clone_byte_byte sl (k_open fun st => ?_)
  unfold t_slices_Clone_byte_byte
  have h1 : PG.underlying T_Suint8 = some (.slice T_uint8) := by kernel_rfl
  refine k_pv (t1 := tB) sl.1.isNone (PVal.pure fun w => ?_) (k_ite (fun h => ?_) (fun h => ?_))
  · simp [binS, valS, eqGuard, binOp, run_equal_slice_nil w T_Suint8 T_uint8 sl.1 sl.2.1 sl.2.2 h1]
    rfl
  · refine k_note (φ := rows encU8 b.data.toList = []) (fun F hF => ?_) fun h0 => ?_
    · obtain ⟨_, _, hs⟩ := hF (ByF sl b) (by repeat (first | exact List.mem_cons_self .. | apply List.mem_cons_of_mem))
      rcases hs with hs | ⟨a, _, _, _, ha, _⟩
      · exact List.eq_nil_of_length_eq_zero (by rw [rows_u8]; exact hs)
      · have : sl.1.isNone = true := h
        rw [ha] at this; cases this
    · exact k_retO () [] (none, 0, 0) (List.nil_sublist _) rfl (fun r w F H _ _ => by rw [run_resR1]; rfl) fun F hF => .inl ⟨rfl, rfl, h0⟩
  · have hs : ∃ a, sl.1 = some a := by
      have : sl.1.isNone = false := h
      cases ha : sl.1 with
      | none => rw [ha] at this; cases this
      | some a => exact ⟨a, rfl⟩
    obtain ⟨a, ha⟩ := hs
    refine k_loc (post := fun y L' Γ' => ∃ g, y = (some ⟨g, 0, none⟩, 0, 0) ∧ L' = [(g, blk T_uint8 [])] ∧ Γ' = [ByF sl b]) (Loc.val fun r w F H hF hsp => ⟨(some ⟨w.heap.size, 0, none⟩, 0, 0), _, _, _, F, .inl (run_slice0 w), Heap.le.refl F, hF, (hsp.new _).perm (List.perm_middle), w.heap.size, rfl, rfl, rfl⟩) ?_
    rintro _ _ _ ⟨g, rfl, rfl, rfl⟩
    have hB0 : Buf T_uint8 1 (some ⟨g, 0, none⟩, 0, 0) [] [(g, blk T_uint8 [])] := .inr ⟨g, [], rfl, rfl, rfl, Nat.le_refl _, Nat.zero_le _, rfl, rfl⟩
    refine k_len (by repeat (first | exact List.mem_cons_self .. | apply List.mem_cons_of_mem)) fun hl => ?_
    by_cases hz : b.size = 0
    · have h0 : rows encU8 b.data.toList = [] := List.eq_nil_of_length_eq_zero (by rw [rows_u8]; exact hz)
      refine k_pv (t1 := tSl) ((some ⟨g, 0, none⟩, 0, 0) : SlD) (PVal.pure fun w => ?_) ?_
      · have h2 : shapeOf PG T_uint8 = some (false, 1) := by kernel_rfl
        show (appS #[T_Suint8, T_Suint8] T_Suint8 #[.slice (some ⟨g, 0, none⟩) 0 0, .slice sl.1 sl.2.1 sl.2.2]).run PG w = _
        rw [hl, hz, ha]
        simp [appS, valS, Builtin.append_, run_underlying h1, (run_isAgg h2).2, Builtin.lenOf, Builtin.firstCells, storeCells, loadCells]
        rfl
      · exact k_retO () [(g, blk T_uint8 [])] ((some ⟨g, 0, none⟩, 0, 0) : SlD) (List.Sublist.refl _) rfl (fun r w F H _ _ => by rw [run_resR1]; rfl) fun F hF => by show Buf _ _ _ _ _; rw [h0]; exact hB0
    · refine k_note (φ := a.spot = none) (fun F hF => by
        obtain ⟨a', h1, h2⟩ := ByF.addr (hF (ByF sl b) (by repeat (first | exact List.mem_cons_self .. | apply List.mem_cons_of_mem))) (by omega)
        rw [ha] at h1; cases h1; exact h2) fun hsp' => ?_
      refine k_lift ?_
      · rw [hl, ha]
        refine k_loc (loc_appendN (L0 := []) (K := [(g, blk T_uint8 [])]) (x := (some ⟨g, 0, none⟩, 0, 0)) (xs := []) (size := 1) (bytes := 1) (e := T_uint8) (m := b.size) (a := a) (news := rows encU8 b.data.toList) (by kernel_rfl) rfl hB0 (fun r w F H hF hsp j u hj => ?_) (by rw [rows_u8, Nat.mul_one]) (by omega) (rows_u8_one b) (by simp; omega) (by simp; omega)) ?_
        · have hjl : j < b.size := by
            rcases Nat.lt_or_ge j b.size with h | h
            · exact h
            · rw [List.getElem?_eq_none (by rw [rows_u8]; exact h)] at hj; cases hj
          have hB := ByF.bytes (hF (ByF sl b) (by repeat (first | exact List.mem_cons_self .. | apply List.mem_cons_of_mem))) ha hsp.stab j hjl
          have h8 := rows_at encU8_len b.data.toList j b[j] (ba_at b j hjl)
          have h9 : (((rows encU8 b.data.toList).drop (j * 1)).take 1)[0]? = (encU8 b[j])[0]? := by rw [h8]
          rw [List.getElem?_take, if_pos (by decide), List.getElem?_drop, Nat.mul_one, Nat.add_zero, hj] at h9
          obtain rfl : u = .int .u8 (b[j].toNat : Int) := by simpa [encU8] using h9
          obtain ⟨x1, x2, x3⟩ := addr_add a hsp' j
          rw [← hB]
          cases hh : a.add j with
          | mk p o sp => rw [hh] at x1 x2 x3; simp only at x1 x2 x3; subst x1; subst x2; subst x3; rfl
        rintro x _ _ ⟨K', rfl, rfl, hx, hb'⟩
        refine k_retO () K' x (by simp) rfl (fun r w F H _ _ => by rw [run_resR1]; rfl) fun F hF => ?_
        show Buf T_uint8 1 x (rows encU8 b.data.toList) K'
        simpa using hb'
def ScanR (b : ByteArray) (v : Value) : Fact := Fact.ex fun bb : Nat => Fact.ex fun sl : SlD => (Fact.prop (v = .func (.func F_lex_Scan_1) #[] #[.pointer (some ⟨bb, 0, none⟩)])).both ((Fact.at bb (blk T_Suint8 [.slice sl.1 sl.2.1 sl.2.2])).both (ByF sl b))
theorem lexScan_m {ε : Type} (sl : SlD) (b : ByteArray) (hb : b.size ≤ 17179869184) : Meets PG (I0 : Ifc ε Unit) (callS F_lex_Scan #[.slice sl.1 sl.2.1 sl.2.2]) tV (Pure.pure () : Sp ε Unit Unit) (fun _ v => ScanR b v) [ByF sl b] := by
  refine c_lex_Scan sl (k_open fun st => ?_)
  unfold t_lex_Scan
  refine k_loc (loc_box _) ?_
  rintro _ _ _ ⟨bb, rfl, rfl, rfl⟩
  refine k_ldO (b1 := .slice) sl (List.mem_cons_self ..) (by kernel_rfl) rfl rfl ?_
  refine k_valR (clone_m sl b hb) (by simp) fun x K => ?_
  refine k_loc (loc_st (L1 := K) (L2 := []) (l := [.slice sl.1 sl.2.1 sl.2.2]) (T := T_Suint8) (T0 := T_Suint8) (c := false) rfl (by kernel_rfl) rfl (Nat.le_of_ble_eq_true rfl) (by simp [Value.cells, Value.oneCell'])) ?_
  rintro _ _ _ ⟨rfl, rfl⟩
  refine k_fact fun F0 hB => ?_
  have hB' : Buf T_uint8 1 x (rows encU8 b.data.toList) K := hB
  refine k_perm (L' := K ++ [(bb, blk T_Suint8 [.slice x.1 x.2.1 x.2.2])]) (List.Perm.refl _) (k_freezeL K fun Γ' h1 h2 => k_freeze ?_)
  refine k_ret (t := tV) () (Value.func (.func F_lex_Scan_1) #[] #[.pointer (some ⟨bb, 0, none⟩)]) rfl (fun r w F H _ _ => by rw [run_resR1]; rfl) fun F hF => ?_
  exact ⟨bb, x, rfl, hF _ (by repeat (first | exact List.mem_cons_self .. | apply List.mem_cons_of_mem)), OwnB.byF hB' fun p hp => hF _ (List.mem_cons_of_mem _ (h2 p hp))⟩
def BeginR (sl : SlD) (x : Option Addr) (K : Own) : Fact := Fact.ex fun pb : Nat => Fact.prop (x = some ⟨pb, 0, none⟩ ∧ K = [(pb, blk T_scan_Scanner (scCells sl 0 (none, 0, 0)))])
theorem begin_m {ε : Type} (sl : SlD) : MeetsO PG (I0 : Ifc ε Unit) (callS F_scan_Begin #[.slice sl.1 sl.2.1 sl.2.2]) tP (Pure.pure () : Sp ε Unit Unit) (fun _ x K => BeginR sl x K) [] := by
  refine c_scan_Begin sl (k_open fun st => ?_)
  unfold t_scan_Begin
  refine k_loc (loc_box _) ?_
  rintro _ _ _ ⟨pb, rfl, rfl, rfl⟩
  exact k_retO () [(pb, blk T_scan_Scanner (scCells sl 0 (none, 0, 0)))] (some ⟨pb, 0, none⟩) (List.Sublist.refl _) rfl (fun r w F H _ _ => by rw [run_resR1]; rfl) fun F hF => ⟨pb, rfl, rfl⟩
theorem scan1_m {σ : Type} (I : Ifc Empty σ) (b : ByteArray) (sl : SlD) (bb : Nat) (yv : Value) (yS : Tok → Int → Sp Empty σ Bool) (Γ0 : List Fact)
    (hy : ∀ (t : Tok) (e : Int), Meets PG I (callvS yv #[.agg #[.int .i64 t.1, .string t.2.1, .int .i64 t.2.2.1, .int .i64 t.2.2.2.1], .int .i64 e]) tB (yS t e) RelEq Γ0) :
    Meets PG I (callS F_lex_Scan_1 #[yv, .pointer (some ⟨bb, 0, none⟩)]) tU (scanAll yS b) (fun _ _ => Fact.prop True) (Fact.at bb (blk T_Suint8 [.slice sl.1 sl.2.1 sl.2.2]) :: ByF sl b :: MxF :: Γ0) := by
  have bindN : ∀ {α β : Type} {x : Sp Empty σ α} {f : α → Sp Empty σ β} {st : σ}, x st = none → (x >>= f) st = none := fun h => by
    show Sp.bind _ _ _ = none
    unfold Sp.bind; rw [h]
  have bindO : ∀ {α β : Type} {x : Sp Empty σ α} {f : α → Sp Empty σ β} {st st' : σ} {a : α}, x st = some (.ok a st') → (x >>= f) st = f a st' := fun h => by
    show Sp.bind _ _ _ = _
    unfold Sp.bind; rw [h]
  refine c_lex_Scan_1 yv ⟨bb, 0, none⟩ (k_open fun st => ?_)
  unfold t_lex_Scan_1
  have ldB : ∀ {L : Own} {Γ : List Fact} {st : σ} {k : SlD → T} {run} {Δ : Labels Empty σ Unit} {Rel : Unit → tU.den → Own → Fact}, Fact.at bb (blk T_Suint8 [.slice sl.1 sl.2.1 sl.2.2]) ∈ Γ → SimK PG I tU Rel Δ none st (k sl) run L Γ → SimK PG I tU Rel Δ none st (.op (ldS T_Suint8 (.pointer (some ⟨bb, 0, none⟩))) tSl k) run L Γ := fun hm hk => by
    refine k_loc (loc_ld1 (b1 := .slice) sl (Rd.at hm) (by kernel_rfl) rfl rfl) ?_
    rintro _ _ _ ⟨rfl, rfl, rfl⟩
    exact hk
  refine ldB (by repeat (first | exact List.mem_cons_self .. | apply List.mem_cons_of_mem)) (k_len (b := b) (by repeat (first | exact List.mem_cons_self .. | apply List.mem_cons_of_mem)) fun hl => k_ite (fun h => ?_) (fun h => ?_))
  · have hgt : b.size > 65536 := by have := of_decide_eq_true h; omega
    have hrun : scanAll yS b st = (yS noTok 2 >>= fun _ => Pure.pure ()) st := by unfold scanAll; rw [if_pos hgt]
    rw [hrun]
    refine k_call (hy noTok 2) (fun A hA => by repeat (first | exact hA | apply List.mem_cons_of_mem)) (fun h => bindN h) (fun e => e.elim) fun x c st' h => ?_
    rw [bindO h]
    exact k_ret (t := tU) () () rfl (fun r w F H _ _ => by rw [run_resR0]; rfl) fun F hF => trivial
  · have hle : b.size ≤ 65536 := by have := of_decide_eq_false h; omega
    have hrun : scanAll yS b st = scanGo yS b 8194 0 ⟨0, []⟩ st := by unfold scanAll; rw [if_neg (by omega)]
    rw [hrun]
    refine ldB (by repeat (first | exact List.mem_cons_self .. | apply List.mem_cons_of_mem)) ?_
    refine k_valR (begin_m sl) (fun _ h => nomatch h) fun x K => k_ex fun pb => k_fact fun F0 hx => ?_
    obtain ⟨rfl, rfl⟩ := hx
    refine k_loopG (δ := Nat × SSt) (fun d => ((d.1 : Int), ())) (fun d L' => (Fact.prop (d.1 ≤ 8192)).both ((SI b sl pb).inv d.2 L')) (fun f d => scanGo yS b f d.1 d.2) 8194 (0, ⟨0, []⟩) rfl rfl (fun d st => rfl) (fun F hF => ⟨Nat.zero_le _, (none, 0, 0), [], rfl, Buf.nil _ _, Nat.zero_le _⟩) ?_
    rintro f ⟨n, s⟩ L' st
    refine k_both (k_fact fun F1 hn => ?_)
    have hn : n ≤ 8192 := hn
    have hdef : ∀ st, scanGo yS b (f + 1) n s st = (match nextV b s with
      | none => none
      | some ((t, ok), s') =>
        if !ok then (yS ⟨0, kE, t.pos, 0, ()⟩ 3 >>= fun _ => Pure.pure ()) st
        else if n == 8192 && t.kind != 10 then (yS ⟨0, kE, t.pos, 0, ()⟩ 4 >>= fun _ => Pure.pure ()) st
        else (yS t 0 >>= fun c => if !c then Pure.pure () else if t.kind == 10 then Pure.pure () else scanGo yS b f (n + 1) s') st) := fun st => rfl
    show SimK _ _ _ _ _ _ _ _ (scanGo yS b (f + 1) n s st) _ _
    refine k_perm (L' := L' ++ []) (by rw [List.append_nil]) (k_sub (I2 := SI b sl pb) (st2 := s) (L0 := []) (scan_m (sl := sl) (pb := pb) hle) (by simp) (fun F hF => hF _ (List.mem_cons_self ..)) (fun h => ?_) (fun e => e.elim) fun x c s2 H2 h => ?_)
    · cases h2 : nextV b s with
      | none => rw [hdef, h2]
      | some y => simp only [scanS, h2] at h; cases h
    cases h2 : nextV b s with
    | none => simp only [scanS, h2] at h; cases h
    | some y =>
    obtain ⟨⟨t, ok⟩, s'⟩ := y
    simp only [scanS, h2, Option.map_some, toN, Option.some.injEq, Res.ok.injEq] at h
    obtain ⟨rfl, rfl⟩ := h
    simp only [h2] at hdef
    refine k_know (A := (SI b sl pb).inv s' H2) (fun F hF => hF _ (List.mem_cons_self ..)) (k_note (φ := x = (t, ok, ())) (fun F hF => hF _ (List.mem_cons_of_mem _ (List.mem_cons_of_mem _ (List.mem_cons_self ..)))) fun hx => ?_)
    subst hx
    rw [List.append_nil]
    refine k_varT t fun b7 => ?_
    have tail : ∀ {Δ : Labels Empty σ Unit} {L : Own} {Γ : List Fact} {st : σ} (t' : Tok) (e : Int), (∀ A ∈ Γ0, A ∈ Γ) → SimK PG I tU (pl fun _ _ => Fact.prop True) Δ none st (.op (callvS yv #[.agg #[.int .i64 t'.1, .string t'.2.1, .int .i64 t'.2.2.1, .int .i64 t'.2.2.2.1], .int .i64 e]) tB fun _ => .ret #[]) ((yS t' e >>= fun _ => Pure.pure ()) st) L Γ := fun t' e hΓ =>
      k_call (hy t' e) hΓ (fun h => bindN h) (fun e => e.elim) fun x c st' h => by
        rw [bindO h]
        exact k_ret (t := tU) () () rfl (fun r w F H _ _ => by rw [run_resR0]; rfl) fun F hF => trivial
    have hGm : ∀ {Γ : List Fact}, (∀ A ∈ (Fact.at bb (blk T_Suint8 [.slice sl.1 sl.2.1 sl.2.2]) :: ByF sl b :: MxF :: Γ0), A ∈ Γ) → ∀ A ∈ Γ0, A ∈ Γ := fun h A hA => h A (List.mem_cons_of_mem _ (List.mem_cons_of_mem _ (List.mem_cons_of_mem _ hA)))
    cases ok with
    | false =>
      refine k_ite (fun _ => ?_) (fun h => by cases h)
      refine k_ldO (b1 := .int .i64) t.pos (List.mem_cons_self ..) (by kernel_rfl) rfl rfl ?_
      rw [hdef, if_pos (show (!false) = true from rfl)]
      exact tail (0, kE, t.pos, 0, ()) 3 (fun A hA => by repeat (first | exact hA | apply List.mem_cons_of_mem))
    | true =>
    refine k_ite (fun h => by cases h) (fun _ => ?_)
    have hdef : ∀ st, scanGo yS b (f + 1) n s st = if n == 8192 && t.kind != 10 then (yS ⟨0, kE, t.pos, 0, ()⟩ 4 >>= fun _ => Pure.pure ()) st
        else (yS t 0 >>= fun c => if !c then Pure.pure () else if t.kind == 10 then Pure.pure () else scanGo yS b f (n + 1) s') st := fun st => by
      rw [hdef, if_neg (by decide)]
    refine k_join (fun x st => if x.1 = (n == 8192 && t.kind != 10) then scanGo yS b (f + 1) n s st else none) ?_ fun y st2 => ?_
    · refine k_ite (fun h => ?_) (fun h => ?_)
      · have hn8 : (n == 8192) = true := by have h3 : (n : Int) = 8192 := eq_of_beq h; exact beq_iff_eq.2 (by omega)
        refine k_ldO (b1 := .int .i64) t.kind (List.mem_cons_self ..) (by kernel_rfl) rfl rfl ?_
        exact k_outV (s' := fun (x : HC [.b .bool]) st => if x.1 = (n == 8192 && t.kind != 10) then scanGo yS b (f + 1) n s st else none) ((t.kind != 10 : Bool), ()) lbR0 rfl (by rw [if_pos (by rw [hn8, Bool.true_and])])
      · have hn8 : (n == 8192) = false := by
          have h3 : ¬ (n : Int) = 8192 := fun h3 => by have h4 : ((n : Int) == 8192) = false := h; rw [h3] at h4; cases h4
          exact beq_eq_false_iff_ne.2 (by omega)
        exact k_outV (s' := fun (x : HC [.b .bool]) st => if x.1 = (n == 8192 && t.kind != 10) then scanGo yS b (f + 1) n s st else none) (false, ()) lbR0 rfl (by rw [if_pos (by rw [hn8, Bool.false_and])])
    · obtain ⟨(c : Bool), ⟨⟩⟩ := y
      by_cases hc : c = (n == 8192 && t.kind != 10)
      case neg => exact k_none (if_neg hc)
      show SimK _ _ _ _ _ _ _ _ (if c = (n == 8192 && t.kind != 10) then _ else none) _ _
      rw [if_pos hc, hdef, ← hc]
      refine k_ite (fun h => ?_) (fun h => ?_)
      · rw [if_pos h]
        refine k_ldO (b1 := .int .i64) t.pos (List.mem_cons_self ..) (by kernel_rfl) rfl rfl ?_
        exact tail (0, kE, t.pos, 0, ()) 4 (fun A hA => by repeat (first | exact hA | apply List.mem_cons_of_mem))
      · obtain rfl : c = false := h
        rw [if_neg (show ¬ false = true by decide)]
        refine k_ldT t (List.mem_cons_self ..) ?_
        refine k_call (hy t 0) (fun A hA => by repeat (first | exact hA | apply List.mem_cons_of_mem)) (fun h => bindN h) (fun e => e.elim) fun x c2 st' h2 => ?_
        rw [bindO h2]
        refine k_fact fun F2 hx => ?_
        obtain rfl : c2 = x := (show x = c2 from hx).symm
        cases c2 with
        | false =>
          refine k_ite (fun _ => ?_) (fun h => by cases h)
          exact k_ret (t := tU) () () rfl (fun r w F H _ _ => by rw [run_resR0]; rfl) fun F hF => trivial
        | true =>
        refine k_ite (fun h => by cases h) (fun _ => ?_)
        refine k_ldO (b1 := .int .i64) t.kind (List.mem_cons_self ..) (by kernel_rfl) rfl rfl (k_ite (fun h => ?_) (fun h => ?_))
        · have hk : (t.kind == 10) = true := h
          refine k_ret (t := tU) () () ?_ (fun r w F H _ _ => by rw [run_resR0]; rfl) fun F hF => trivial
          show (if (!true) = true then _ else if (t.kind == 10) = true then _ else _ : Sp Empty σ Unit) st' = _
          rw [if_neg (by decide), if_pos hk]; rfl
        · have hk : (t.kind == 10) = false := h
          have hn2 : n + 1 ≤ 8192 := by
            have : (n == 8192) = false := by
              cases h8 : (n == 8192) with
              | false => rfl
              | true => rw [h8] at hc; simp only [bne, hk, Bool.not_false, Bool.and_self] at hc; cases hc
            have := beq_eq_false_iff_ne.1 this
            omega
          refine k_drop (List.sublist_cons_self ..) ?_
          refine k_outGR (l := 0) (n := f) (ts := [.b (.int .i64)]) (f := fun d : Nat × SSt => (((d.1 : Int), ()) : HC [.b (.int .i64)])) (J := fun d L' => (Fact.prop (d.1 ≤ 8192)).both ((SI b sl pb).inv d.2 L')) (sp := fun f d => scanGo yS b f d.1 d.2) (n + 1, s') lbR0 ?_ ?_ fun F hF => ⟨hn2, ?_⟩
          · rw [wrap_id (by omega) (by omega)]; rfl
          · show (if (!true) = true then _ else if (t.kind == 10) = true then _ else _ : Sp Empty σ Unit) st' = _
            rw [if_neg (by decide), if_neg (by rw [hk]; decide)]
          · exact hF ((SI b sl pb).inv s' H2) (by repeat (first | exact List.mem_cons_self .. | apply List.mem_cons_of_mem))
end Go.Proofs.YtjlgcpgjdgeejaaGreatDoor
end

/- The trees of functions of the program, each with the proof that it is the tree of the translated code. Conditions: none. By program. -/
section
namespace Go.Proofs.YtjlgcpgjdgeejaaGreatDoor
open Go
set_option linter.unusedVariables false
set_option maxRecDepth 100000
noncomputable section
def an1_lex_Tokens : An :=
  .r [some tA, some tA, some tA]
def an2_lex_Tokens : An :=
  .r [some tA]
def an3_lex_Tokens : An :=
  .r [none, some tV]
def anA_lex_Tokens : An :=
  .s (.r [some tA, some tU]) (.r [none])
def anB_lex_Tokens : An :=
  .b (.s (.s (.r [none, none]) (.c (.s (.d (.q 0 none (.q 1 (some tI) (.q 2 none (.l 3 (some tU) (.l 4 (some tU) (.l 5 (some tU) (.e)))))))) (.x)) (.x))) (.r [some tSl, some (.c (.agg [.int .i64, .str, .int .i64, .int .i64])), some tSl, some tSl, some tU]))
def an4_lex_Tokens : An :=
  .s (.r [some tSl, some tU, some tU, some tU]) (.x)
def t1_lex_Tokens (a0_b : Option Addr × Nat × Nat) : T :=
  .op (allocS T_Sapi_Token) tA fun r1 =>
  .op (allocS T_int) tA fun r2 =>
  .op (allocS T_api_Errno) tA fun r3 =>
  .op (allocS T_Sapi_Token) tA fun r4 =>
  .op (callS F_lex_Scan #[.slice a0_b.1 a0_b.2.1 a0_b.2.2]) tV fun r5 =>
  .out 0 [.pointer (some r1), .pointer (some r2), .pointer (some r3), .pointer (some r4), r5]
def tA_lex_Tokens (s2 : Addr) (s3 : Addr) (s4 : Addr) (s5 : Addr) (s9 : Value) (p10 : HB [.int .i64, .str, .int .i64, .int .i64]) (p11 : Int) : T :=
  .op (allocS T_api_Token) tA fun r6 =>
  .op (stS T_api_Token (.pointer (some r6)) (.agg #[.int .i64 p10.1, .string p10.2.1, .int .i64 p10.2.2.1, .int .i64 p10.2.2.2.1])) tU fun _ =>
  .out 0 [.pointer (some s2), .pointer (some s3), .pointer (some s4), .pointer (some s5), .pointer (some r6), .int .i64 p11]
def tB_lex_Tokens (b2 : Addr) (b3 : Addr) (b4 : Addr) (b5 : Addr) (b6 : Addr) (b7 : Int) : T :=
  .ite ((b7 : Int) != 0) (
    .draw <|
    .opq (ldS T_int (.pointer (some ⟨b6.block, b6.off + 2, none⟩))) tI fun r8 =>
    .opl (stS T_Sapi_Token (.pointer (some b2)) (.slice none 0 0)) tU fun _ =>
    .opl (stS T_int (.pointer (some b3)) (.int .i64 r8)) tU fun _ =>
    .op (stS T_api_Errno (.pointer (some b4)) (.int .i64 b7)) tU fun _ =>
    .out 1 []) (
    .op (ldS T_Sapi_Token (.pointer (some b5))) tSl fun r12 =>
    .op (ldS T_api_Token (.pointer (some b6))) (.c (.agg [.int .i64, .str, .int .i64, .int .i64])) fun r13 =>
    .op (sliceS T_Sapi_Token 1 #[(0, .agg #[.int .i64 r13.1, .string r13.2.1, .int .i64 r13.2.2.1, .int .i64 r13.2.2.2.1])]) tSl fun r14 =>
    .op (appS #[T_Sapi_Token, T_Sapi_Token] T_Sapi_Token #[.slice r12.1 r12.2.1 r12.2.2, .slice r14.1 r14.2.1 r14.2.2]) tSl fun r15 =>
    .op (stS T_Sapi_Token (.pointer (some b5)) (.slice r15.1 r15.2.1 r15.2.2)) tU fun _ =>
    .out 0 [])
def t4_lex_Tokens (s2 : Addr) (s3 : Addr) (s4 : Addr) (s5 : Addr) (s9 : Value) : T :=
  .op (ldS T_Sapi_Token (.pointer (some s5))) tSl fun r17 =>
  .op (stS T_Sapi_Token (.pointer (some s2)) (.slice r17.1 r17.2.1 r17.2.2)) tU fun _ =>
  .op (stS T_int (.pointer (some s3)) (.int .i64 0)) tU fun _ =>
  .op (stS T_api_Errno (.pointer (some s4)) (.int .i64 0)) tU fun _ =>
  .out 0 []
theorem d1_lex_Tokens (a0_b : Option Addr × Nat × Nat) : den Tryz.prog (NN.of 22) #[] (bodyOf Tryz.f26).lft an1_lex_Tokens 1 (startE [.slice a0_b.1 a0_b.2.1 a0_b.2.2]) (fun e => den Tryz.prog (NN.of 22) #[] (bodyOf Tryz.f26).rgt.lft an2_lex_Tokens 1 e (fun e => den Tryz.prog (NN.of 22) #[] (bodyOf Tryz.f26).rgt.rgt.lft.lft an3_lex_Tokens 1 e (outT 0 [2, 3, 4, 5, 9]) badX) badX) badX = t1_lex_Tokens a0_b := by kernel_rfl
theorem dA_lex_Tokens (s2 : Addr) (s3 : Addr) (s4 : Addr) (s5 : Addr) (s9 : Value) (p10 : HB [.int .i64, .str, .int .i64, .int .i64]) (p11 : Int) (l : Nat) : den Tryz.prog ⟨0, 22, [], fun _ => undef, some l⟩ #[] (bodyOf Tryz.f26).rgt.rgt.lft.rgt.inB.rAs anA_lex_Tokens 1 (Env.puts (Env.puts (fun _ => none) [2, 3, 4, 5, 9] [.pointer (some s2), .pointer (some s3), .pointer (some s4), .pointer (some s5), s9]) [10, 11] [.agg #[.int .i64 p10.1, .string p10.2.1, .int .i64 p10.2.2.1, .int .i64 p10.2.2.2.1], .int .i64 p11]) (outT 0 [2, 3, 4, 5, 6, 7]) badX = tA_lex_Tokens s2 s3 s4 s5 s9 p10 p11 := by kernel_rfl
theorem dB_lex_Tokens (b2 : Addr) (b3 : Addr) (b4 : Addr) (b5 : Addr) (b6 : Addr) (b7 : Int) (l : Nat) : den Tryz.prog ⟨0, 22, [], fun _ => undef, some l⟩ #[] (bodyOf Tryz.f26).rgt.rgt.lft.rgt.inB.rBd anB_lex_Tokens 2 (Env.puts (fun _ => none) [2, 3, 4, 5, 6, 7] [.pointer (some b2), .pointer (some b3), .pointer (some b4), .pointer (some b5), .pointer (some b6), .int .i64 b7]) outN0 outX1 = tB_lex_Tokens b2 b3 b4 b5 b6 b7 := by kernel_rfl
theorem d4_lex_Tokens (s2 : Addr) (s3 : Addr) (s4 : Addr) (s5 : Addr) (s9 : Value) (D : List Deferred) (K : Nat → Value) : den Tryz.prog ⟨5, 22, D, K, none⟩ #[] (bodyOf Tryz.f26).rgt.rgt.rgt an4_lex_Tokens 1 (Env.puts (fun _ => none) [2, 3, 4, 5, 9] [.pointer (some s2), .pointer (some s3), .pointer (some s4), .pointer (some s5), s9]) outN0 (fun ex _ => match ex with | .ret => .out 0 [] | _ => .bad) = t4_lex_Tokens s2 s3 s4 s5 s9 := by kernel_rfl
theorem rR_lex_Tokens (s2 : Addr) (s3 : Addr) (s4 : Addr) (s5 : Addr) (s9 : Value) (p10 : HB [.int .i64, .str, .int .i64, .int .i64]) (p11 : Int) {l fid : Nat} {tmps : Array Value} {w : World} {K : Value → World → Prop} {N : List PanicEntry → World → Prop} (hsz : tmps.size = 22) (hag : ∀ s v, (Env.puts (fun _ => none) [2, 3, 4, 5, 9] [.pointer (some s2), .pointer (some s3), .pointer (some s4), .pointer (some s5), s9]) s = some v → tmps.getD s undef = v.val)
    (h : (tA_lex_Tokens s2 s3 s4 s5 s9 p10 p11).wp Tryz.prog (fun _ => True) (fun _ vs w1 => ∃ r : Loop, w1.heap[l]? = some (.loop r) ∧ r.state = .ready ∧ ∃ b2 : Addr, ∃ b3 : Addr, ∃ b4 : Addr, ∃ b5 : Addr, ∃ b6 : Addr, ∃ b7 : Int, vs = [.pointer (some b2), .pointer (some b3), .pointer (some b4), .pointer (some b5), .pointer (some b6), .int .i64 b7] ∧ (tB_lex_Tokens b2 b3 b4 b5 b6 b7).wp Tryz.prog (fun _ => True) (fun i _ w2 => RoundEnd l K i w2) (fun _ _ => False) (w1.putObj l (.loop { r with state := .busy }))) (fun _ _ => False) w) :
    RoundIn Fence.wide 0 Tryz.prog l fid ((#[10, 11].zip #[.agg #[.int .i64 p10.1, .string p10.2.1, .int .i64 p10.2.2.1, .int .i64 p10.2.2.2.1], .int .i64 p11]).foldl (fun t (p, v) => t.setIfInBounds p v) tmps) (bodyOf Tryz.f26).rgt.rgt.lft.rgt.inB.rAs (bodyOf Tryz.f26).rgt.rgt.lft.rgt.inB.rBd w fun
      | .returned v, w' => K v w'
      | .panicked c, w' => N c w'
      | .outgrown, _ => False := by
  refine round_sound (nt := 22) (anA := anA_lex_Tokens) (anB := anB_lex_Tokens) (slots := [2, 3, 4, 5, 6, 7]) (e := Env.puts (Env.puts (fun _ => none) [2, 3, 4, 5, 9] [.pointer (some s2), .pointer (some s3), .pointer (some s4), .pointer (some s5), s9]) [10, 11] [.agg #[.int .i64 p10.1, .string p10.2.1, .int .i64 p10.2.2.1, .int .i64 p10.2.2.2.1], .int .i64 p11]) (S := fun _ => True) (Φ := fun _ _ _ => False) (by rw [size_sets]; exact hsz) (sets_agree [10, 11] [.agg #[.int .i64 p10.1, .string p10.2.1, .int .i64 p10.2.2.1, .int .i64 p10.2.2.2.1], .int .i64 p11] (by decide) (by rw [hsz]; decide) hag) ?_
  have e1 := dA_lex_Tokens s2 s3 s4 s5 s9 p10 p11 l
  rw [e1]
  refine T.wp_mono _ ?_ (fun _ _ h => h) h
  rintro lb vs w1 ⟨r, h1, h2, b2, b3, b4, b5, b6, b7, rfl, h3⟩
  refine ⟨r, h1, h2, ?_⟩
  have e2 := dB_lex_Tokens b2 b3 b4 b5 b6 b7 l
  rw [e2]
  exact h3
theorem cR_lex_Tokens (a0_b : Option Addr × Nat × Nat) {w : World} {R : Ending → World → Prop} {Mid : List Value → World → Prop} (hsh : ∀ vs w', Mid vs w' → ∃ s2 s3 s4 s5 s9, vs = [.pointer (some s2), .pointer (some s3), .pointer (some s4), .pointer (some s5), s9])
    (h1 : (t1_lex_Tokens a0_b).wp Tryz.prog (fun _ => True) (fun _ vs w' => Mid vs w') (fun _ _ => False) w)
    (h2 : ∀ (s2 : Addr) (s3 : Addr) (s4 : Addr) (s5 : Addr) (s9 : Value) w', Mid [.pointer (some s2), .pointer (some s3), .pointer (some s4), .pointer (some s5), s9] w' → ∃ gf lb, s9 = .func (.func gf) #[] lb ∧ (∀ args w, (callFunc gf args).run Tryz.prog w = .ok (.enter gf args) w) ∧
      ∀ (tmps : Array Value) (fid : FuncId), tmps.size = 22 → (∀ s v, (Env.puts (fun _ => none) [2, 3, 4, 5, 9] [.pointer (some s2), .pointer (some s3), .pointer (some s4), .pointer (some s5), s9]) s = some v → tmps.getD s undef = v.val) →
        Calls Tryz.prog gf (#[.func (.yield (w'.heap.size + 1)) #[] #[]] ++ lb) ((w'.alloc (.deferred (some []))).alloc (.loop { state := .ready, pending := none, fn := fid, tmps := tmps, params := #[10, 11], assign := (bodyOf Tryz.f26).rgt.rgt.lft.rgt.inB.rAs, body := (bodyOf Tryz.f26).rgt.rgt.lft.rgt.inB.rBd, defers := w'.heap.size })) fun e w3 =>
          ∃ v r, e = .returned v ∧ w3.heap[w'.heap.size + 1]? = some (.loop r) ∧ r.state ≠ .busy ∧
            ((r.pending = none ∧ (t4_lex_Tokens s2 s3 s4 s5 s9).wp Tryz.prog (fun _ => True) (fun _ _ w5 => EndR Tryz.prog #[.c (.pointer (some s2)) T_Sapi_Token, .c (.pointer (some s3)) T_int, .c (.pointer (some s4)) T_api_Errno] w'.heap.size R w5) (fun _ _ => False) (w3.putObj (w'.heap.size + 1) (.loop { r with state := .exhausted }))) ∨
             (r.pending = some .ret ∧ EndR Tryz.prog #[.c (.pointer (some s2)) T_Sapi_Token, .c (.pointer (some s3)) T_int, .c (.pointer (some s4)) T_api_Errno] w'.heap.size R (w3.putObj (w'.heap.size + 1) (.loop { r with state := .exhausted }))))) : Calls Tryz.prog F_lex_Tokens #[.slice a0_b.1 a0_b.2.1 a0_b.2.2] w R := by
  refine fnR_sound (args := [.slice a0_b.1 a0_b.2.1 a0_b.2.2]) (c1 := (bodyOf Tryz.f26).lft) (c2 := (bodyOf Tryz.f26).rgt.lft) (c3 := (bodyOf Tryz.f26).rgt.rgt.lft.lft) (c4 := (bodyOf Tryz.f26).rgt.rgt.rgt) (asn := (bodyOf Tryz.f26).rgt.rgt.lft.rgt.inB.rAs) (bd := (bodyOf Tryz.f26).rgt.rgt.lft.rgt.inB.rBd) (bi := 0) (g := 9) (ps := #[10, 11]) (lo := 5) (slots := [2, 3, 4, 5, 9]) (an1 := an1_lex_Tokens) (an2 := an2_lex_Tokens) (an3 := an3_lex_Tokens) (an4 := an4_lex_Tokens) (Mid := Mid) Tryz.func26 rfl (Nat.le_of_ble_eq_true rfl) (by decide) (by kernel_rfl) ?_ ?_
  · have e := d1_lex_Tokens a0_b
    exact e ▸ h1
  · intro vs w' hM
    obtain ⟨s2, s3, s4, s5, s9, rfl⟩ := hsh vs w' hM
    obtain ⟨gf, lb, hg, hc, hall⟩ := h2 s2 s3 s4 s5 s9 w' hM
    have er : Array.map (rvOf (Env.puts (fun _ => none) [2, 3, 4, 5, 9] [.pointer (some s2), .pointer (some s3), .pointer (some s4), .pointer (some s5), s9])) Tryz.f26.results = #[.c (.pointer (some s2)) T_Sapi_Token, .c (.pointer (some s3)) T_int, .c (.pointer (some s4)) T_api_Errno] := by kernel_rfl
    rw [er]
    subst hg
    refine ⟨gf, lb, rfl, hc, fun tmps fid h3 h4 => Calls.mono (hall tmps fid h3 h4) ?_⟩
    rintro e w3 ⟨v, r, h5, h6, h7, h8⟩
    refine ⟨v, r, h5, h6, h7, ?_⟩
    rcases h8 with ⟨h8, h9⟩ | h8
    · refine .inl ⟨h8, ?_⟩
      rintro ⟨lo, hi, D, K, rd⟩ hlo hhi hrd
      obtain rfl : lo = 5 := hlo
      obtain rfl : hi = 22 := hhi
      obtain rfl : rd = none := hrd
      have e4 := d4_lex_Tokens s2 s3 s4 s5 (.func (.func gf) #[] lb) D K
      exact e4 ▸ h9
    · exact .inr h8
end
end Go.Proofs.YtjlgcpgjdgeejaaGreatDoor
end

/- A whole text's tokens parsed: the tree in a row, or where it fails. Conditions: the numbers' conversion. -/
section
namespace Go.Proofs.YtjlgcpgjdgeejaaGreatDoor
open Go
set_option linter.unusedSimpArgs false
set_option linter.unusedVariables false
set_option linter.constructorNameAsVariable false
set_option maxRecDepth 100000

def progS (R : PRec) : Nat → N → PM N
  | 0, _ => Sp.stop
  | k + 1, n => do
    let t ← nowS
    cond (t.kind != 10) (do let x ← R.statement; progS R k (n.push x)) (pure n)
def headS (R : PRec) (whole : Int) : PM N := cond (whole == 0) (progS R R.fuel (mkN 3 kE 0 0 [])) (cond (whole == 1) R.expr R.typed)
def runS (R : PRec) (whole : Int) : PM N := do
  let n ← headS R whole
  let t ← nowS
  cond (t.kind != 10) failS (pure n)
def st0 (l : List Tok) : PSt := ⟨l, 0, noTok, false⟩
def runV (fuel : Nat) (l : List Tok) (whole : Int) : Option (Sum Int (List FN)) := match runS (parseR fuel) whole (st0 l) with
  | none => none
  | some (.err y) => some (.inl y)
  | some (.ok n _) => if n.size ≤ 549755813888 then some (.inr (laidGo n.size [(n, -1)] [])) else none
abbrev tRun : Ty := .tup [.agg [.slice], .b (.int .i64), .b .bool]
def TreeR (v : Sum Int (List FN)) (x : tRun.den) (K : Own) : Fact := match v with
  | .inl y => Fact.prop (x = (((none, 0, 0), ()), y, false, ()) ∧ K = [])
  | .inr l => (Fact.prop (x.2 = (0, true, ()))).both (TreeO l x.1 K)
theorem head_sim {R : PRec} (hR : PRecM R) (pb : Nat) (whole : Int) (hw : whole = 0 ∨ whole = 1 ∨ whole = 2) {Δ : Labels Int PSt N} {t : Ty} {Rel : N → t.den → Own → Fact} :
    Sim PG (PI pb) t Rel (Δ.set 1 (lbP NodeF (fun n => Pure.pure n) [])) none (.ite ((whole : Int) == 0) (
      .op (callS F_syntax_made #[.int .i64 3, .string kE, .int .i64 0, .int .i64 0, .slice none 0 0]) tP fun r5 =>
      .loop 2 [] [] fun x6 =>
        .op (callS F_parser_now #[.pointer (some (pAt pb))]) (.c (.agg [.int .i64, .str, .int .i64, .int .i64])) fun r7 =>
        .ite ((r7.1 : Int) != 10) (
          .draw <|
          .opq (nilS (.pointer r5)) tA fun r8 =>
          .opq (ldS T_SPsyntax_node (.pointer (some ⟨r8.block, r8.off + 5, none⟩))) tSl fun r9 =>
          .opl (callS F_parser_statement #[.pointer (some (pAt pb))]) tP fun r10 =>
          .opl (sliceS T_SPsyntax_node 1 #[(0, .pointer r10)]) tSl fun r11 =>
          .opl (appS #[T_SPsyntax_node, T_SPsyntax_node] T_SPsyntax_node #[.slice r9.1 r9.2.1 r9.2.2, .slice r11.1 r11.2.1 r11.2.2]) tSl fun r12 =>
          .opq (nilS (.pointer r5)) tA fun r13 =>
          .op (stS T_SPsyntax_node (.pointer (some ⟨r13.block, r13.off + 5, none⟩)) (.slice r12.1 r12.2.1 r12.2.2)) tU fun _ =>
          .out 2 []) (
          .out 1 [.pointer r5])) (
      .ite ((whole : Int) == 1) (
        .op (callS F_parser_expr #[.pointer (some (pAt pb))]) tP fun r15 =>
        .out 1 [.pointer r15]) (
        .ite ((whole : Int) == 2) (
          .op (callS F_parser_typed #[.pointer (some (pAt pb))]) tP fun r16 =>
          .out 1 [.pointer r16]) (
          .out 1 [.pointer none])))) (headS R whole) [] [] := by
  unfold headS
  refine sim_cond (fun h => ?_) (fun h => ?_)
  · refine sim_own0 fun r5 K5 => ?_
    refine sim_fuelO (progS R) R.fuel _ (fun _ => rfl) rfl (by have := hR.fuel; simp [mkN, N.kids]; omega) (by repeat (first | exact List.mem_cons_self .. | apply List.mem_cons_of_mem)) fun k n K hn => ?_
    refine sim_op (now_m _) (fun _ h => nomatch h) fun r7 b => Sim.prop fun h => ?_
    subst h
    refine sim_cond (fun h => ?_) (fun h => ?_)
    · refine sim_growM (by repeat (first | exact List.mem_cons_self .. | apply List.mem_cons_of_mem)) fun b sl ps K2 hx hb => ?_
      refine sim_opl (hR.statement _) (fun _ h => nomatch h) fun r10 n10 => ?_
      subst hx
      refine sim_push hb (by repeat (first | exact List.mem_cons_self .. | apply List.mem_cons_of_mem)) (by repeat (first | exact List.mem_cons_self .. | apply List.mem_cons_of_mem)) (by omega) fun K => ?_
      (first | refine sim_outO0 _ rfl (by simp [N.push_len] at hn ⊢; omega) (by repeat (first | exact List.mem_cons_self .. | apply List.mem_cons_of_mem)) | refine sim_outO1 _ (by decide) rfl (by simp [N.push_len] at hn ⊢; omega) (by repeat (first | exact List.mem_cons_self .. | apply List.mem_cons_of_mem)))
    · refine sim_doneM (n := n) (x := r5) (by repeat (first | exact List.mem_cons_self .. | apply List.mem_cons_of_mem)) ?_
      exact sim_outX (x := lbP NodeF (fun n => Pure.pure n) []) (by simp [Labels.set]) n rfl fun F hF => ⟨r5, ⟨rfl, rfl⟩, hF _ (List.mem_cons_self ..)⟩
  · refine sim_cond (fun h1 => ?_) (fun h1 => ?_)
    · refine sim_op1 (hR.expr _) (fun _ h => nomatch h) fun r15 n15 => ?_
      exact sim_outP _ (by simp [Labels.set]) rfl (fun F hF => hF _ (List.mem_cons_self ..))
    · refine sim_ite (fun h2 => ?_) (fun h2 => ?_)
      · refine sim_op1 (hR.typed _) (fun _ h => nomatch h) fun r16 n16 => ?_
        exact sim_outP _ (by simp [Labels.set]) rfl (fun F hF => hF _ (List.mem_cons_self ..))
      · simp at h h1 h2; omega
theorem run_idle (b1 b2 b3 : Nat) (w : World) : CallsD PG 83 #[.pointer (some (pAt b1)), .pointer (some (pAt b2)), .pointer (some (pAt b3))] .returning w fun e u2 w' => e = .returned (.tuple #[]) ∧ u2 = .returning ∧ w' = w := by
  refine cS_syntax_Run_1 (pAt b1) (pAt b2) (pAt b3) (Post := fun w' => w' = w) (.inl ⟨rfl, rfl, rfl⟩) ?_
  unfold t_syntax_Run_1
  simp only [T.wp, run_isNil0 (P := PG) (t := T_interface) (by kernel_rfl), upon]
  exact ⟨true, rfl, fun _ => trivial, fun h => by cases h⟩
def cells3 (b1 b2 b3 : Nat) (x : SlD) (y : Int) (c : Bool) : Own := [(b1, blk T_api_Tree [.slice x.1 x.2.1 x.2.2]), (b2, blk T_int [.int .i64 y]), (b3, blk T_bool [.bool c])]
theorem run_caught {r : Rest} {w : World} {L : Own} {F : Heap} (b1 b2 b3 : Nat) (y : Int) (x0 : SlD) (y0 : Int) (c0 : Bool) (hsp : Split r w (cells3 b1 b2 b3 x0 y0 c0 ++ L) F) :
    CallsD PG 83 #[.pointer (some (pAt b1)), .pointer (some (pAt b2)), .pointer (some (pAt b3))] (.panicking [{ v := .iface T_syntax_refused (.agg #[.int .i64 y]), recovered := false }]) w fun e u2 w' =>
      e = .returned (.tuple #[]) ∧ u2 = .panicking [{ v := .iface T_syntax_refused (.agg #[.int .i64 y]), recovered := true }] ∧ ∃ F', F.le F' ∧ Split r w' (cells3 b1 b2 b3 (none, 0, 0) y false ++ L) F' := by
  refine cS_syntax_Run_1 (pAt b1) (pAt b2) (pAt b3) (Post := fun w' => ∃ F', F.le F' ∧ Split r w' (cells3 b1 b2 b3 (none, 0, 0) y false ++ L) F') (.inr ⟨[], rfl, rfl⟩) ?_
  unfold t_syntax_Run_1
  refine wp_of_at (J := fun vs L' => Fact.prop (L' = cells3 b1 b2 b3 (none, 0, 0) y false ++ L)) (Γ := []) ?_ (fun _ h => nomatch h) hsp (fun vs L' F' w' hle hJ hS => ⟨F', hle, (show L' = _ from hJ) ▸ hS⟩)
  refine at_loc (loc_pure (t1 := tB) false fun w => run_isNil1 (by kernel_rfl) w) ?_
  rintro _ _ _ ⟨rfl, rfl, rfl⟩
  refine at_ite (fun h => by cases h) (fun _ => ?_)
  refine at_loc (loc_pure (t1 := .tup [.agg [.int .i64], .b .bool]) ((y, ()), true, ()) fun w => run_as (by kernel_rfl) w) ?_
  rintro _ _ _ ⟨rfl, rfl, rfl⟩
  refine at_ite (fun _ => ?_) (fun h => by cases h)
  refine at_loc (loc_alloc (z := [.int .i64 0]) (by kernel_rfl)) ?_
  rintro _ _ _ ⟨b4, rfl, rfl, rfl⟩
  refine at_loc (loc_st (L1 := []) (T := T_syntax_refused) (c := true) rfl (by kernel_rfl) rfl (Nat.le_of_ble_eq_true rfl) (by simp [Value.cells, Value.oneCell'])) ?_
  rintro _ _ _ ⟨rfl, rfl⟩
  refine at_draw [(b4, blk T_syntax_refused [.int .i64 y])] (fun p hp => by simp at hp; subst hp; exact List.mem_cons_self ..) ?_
  refine at_opq (t1 := tI) y (qval_ld1 (QRd.own (List.mem_cons_self ..)) (by kernel_rfl) rfl rfl) ?_
  refine at_locl (loc_st (L1 := [_]) (T := T_api_Tree) (c := true) rfl (by kernel_rfl) rfl (Nat.le_of_ble_eq_true rfl) (by simp [Value.cells, Value.oneCell'])) ?_
  rintro _ _ _ ⟨rfl, rfl⟩
  refine ⟨fun p hp => by simp at hp; subst hp; exact List.mem_cons_self .., ?_⟩
  refine at_loc (loc_st (L1 := [_, _]) (T := T_int) (c := false) rfl (by kernel_rfl) rfl (Nat.le_of_ble_eq_true rfl) (by simp [Value.cells, Value.oneCell'])) ?_
  rintro _ _ _ ⟨rfl, rfl⟩
  refine at_loc (loc_st (L1 := [_, _, _]) (T := T_bool) (c := false) rfl (by kernel_rfl) rfl (Nat.le_of_ble_eq_true rfl) (by simp [Value.cells, Value.oneCell'])) ?_
  rintro _ _ _ ⟨rfl, rfl⟩
  exact at_drop (L' := cells3 b1 b2 b3 (none, 0, 0) y false ++ L) (List.sublist_cons_self ..) (at_end fun F hF => rfl)
theorem wp_join {P : Program} {l : Nat} {ts : List C} {m : T} {k : HC ts → T} {S : World → Prop} {Φ : Outs} {R : Ending → World → Prop} {w : World}
    (h : m.wp P S (Φ.set l fun vs w' => ∃ x, vs = HC.enc ts x ∧ (k x).wp P S Φ R w') R w) : (T.join l ts m k).wp P S Φ R w := by simp only [T.wp]; exact h
theorem wp_op {P : Program} {s : Sem Next} {t : Ty} {k : t.den → T} {S : World → Prop} {Φ : Outs} {R : Ending → World → Prop} {w : World}
    (h : upon P (fun v w' => ∃ x : t.den, v = t.enc x ∧ (k x).wp P S Φ R w') (fun c w' => R (.panicked c) w') (s.run P w)) : (T.op s t k).wp P S Φ R w := by simp only [T.wp]; exact h
theorem wp_ite {P : Program} {b : Bool} {x y : T} {S : World → Prop} {Φ : Outs} {R : Ending → World → Prop} {w : World} (h1 : b = true → x.wp P S Φ R w) (h2 : b = false → y.wp P S Φ R w) : (T.ite b x y).wp P S Φ R w := by simp only [T.wp]; exact ⟨h1, h2⟩
theorem wp_out {P : Program} {l : Nat} {vs : List Value} {S : World → Prop} {Φ : Outs} {R : Ending → World → Prop} {w : World} (h : Φ l vs w) : (T.out l vs).wp P S Φ R w := by simp only [T.wp]; exact h
theorem run_res3 {w : World} {b1 b2 b3 : Nat} {x : SlD} {y : Int} {c : Bool} (h1 : w.heap[b1]? = some (blk T_api_Tree [.slice x.1 x.2.1 x.2.2])) (h2 : w.heap[b2]? = some (blk T_int [.int .i64 y])) (h3 : w.heap[b3]? = some (blk T_bool [.bool c])) :
    (resR #[.c (.pointer (some (pAt b1))) T_api_Tree, .c (.pointer (some (pAt b2))) T_int, .c (.pointer (some (pAt b3))) T_bool]).run PG w = .ok (tRun.enc ((x, ()), y, c, ())) w := by
  have e1 : (loadVar T_api_Tree (pAt b1)).run PG w = .ok (.agg #[.slice x.1 x.2.1 x.2.2]) w := loadVar_A (vs := [.slice x.1 x.2.1 x.2.2]) (by kernel_rfl) h1 rfl rfl
  obtain ⟨n2, hs2⟩ := isOne_spec (P := PG) (t := T_int) (by kernel_rfl)
  obtain ⟨n3, hs3⟩ := isOne_spec (P := PG) (t := T_bool) (by kernel_rfl)
  have e2 : (loadVar T_int (pAt b2)).run PG w = .ok (.int .i64 y) w := loadVar_1 hs2 h2 rfl rfl
  have e3 : (loadVar T_bool (pAt b3)).run PG w = .ok (.bool c) w := loadVar_1 hs3 h3 rfl rfl
  have : (resR #[.c (.pointer (some (pAt b1))) T_api_Tree, .c (.pointer (some (pAt b2))) T_int, .c (.pointer (some (pAt b3))) T_bool]).run PG w = .ok (.tuple #[.agg #[.slice x.1 x.2.1 x.2.2], .int .i64 y, .bool c]) w := by
    simp [resR, RV.sem, asAddr, e1, e2, e3]
  exact this
def runTop {ε σ : Type} (fuel : Nat) (l : List Tok) (whole : Int) : Sp ε σ (Sum Int (List FN)) := fun st => match runV fuel l whole with
  | none => none
  | some v => some (.ok v st)
theorem run_m (hnum : NumM) {ε σ : Type} (I : Ifc ε σ) (fuel : Nat) (hfuel : fuel ≤ 549755813888) (sl : SlD) (l : List Tok) (hl : (st0 l).ok) (whole : Int) (hw : whole = 0 ∨ whole = 1 ∨ whole = 2) :
    MeetsO PG I (callS F_syntax_Run #[.slice sl.1 sl.2.1 sl.2.2, .int .i64 whole]) tRun (runTop fuel l whole) TreeR [Sl 4 encTok sl l] := by
  intro r w F H st res hs hΓ hi hsp
  have hR := parse_ok hnum fuel hfuel
  have hsl := hΓ _ (List.mem_cons_self ..)
  rw [run_callS Tryz.func53 rfl rfl]
  refine Calls.mono (cD_syntax_Run sl whole (Mid := fun vs w' => ∃ b1 b2 b3 b4 F', F.le F' ∧ vs = [.int .i64 whole, .pointer (some (pAt b1)), .pointer (some (pAt b2)), .pointer (some (pAt b3)), .pointer (some (pAt b4))] ∧ Split r w' ([(b4, blk T_syntax_parser (parCells sl (st0 l)))] ++ (cells3 b1 b2 b3 (none, 0, 0) 0 false ++ H)) F')
    (R := fun e w' => match e with | .returned v => Ends I tRun TreeR r F res (.returned v) w' | .panicked c => Ends I tRun TreeR r F res (.panicked c) w' | .outgrown => False) ?_ ?_ ?_) (fun e w' h => by cases e <;> exact h)
  · rintro vs w' ⟨b1, b2, b3, b4, F', _, rfl, _⟩; exact ⟨_, _, _, _, _, rfl⟩
  · unfold t1_syntax_Run
    refine wp_of_at (J := fun vs L' => Fact.ex fun b1 : Nat => Fact.ex fun b2 : Nat => Fact.ex fun b3 : Nat => Fact.ex fun b4 : Nat => Fact.prop (vs = [.int .i64 whole, .pointer (some (pAt b1)), .pointer (some (pAt b2)), .pointer (some (pAt b3)), .pointer (some (pAt b4))] ∧ L'.Perm ([(b4, blk T_syntax_parser (parCells sl (st0 l)))] ++ (cells3 b1 b2 b3 (none, 0, 0) 0 false ++ H)))) (Γ := []) (L := H) ?_ (fun _ h => nomatch h) hsp ?_
    · refine at_loc (loc_alloc (z := [.slice none 0 0]) (by kernel_rfl)) ?_
      rintro _ _ _ ⟨b1, rfl, rfl, rfl⟩
      refine at_loc (loc_alloc (z := [.int .i64 0]) (by kernel_rfl)) ?_
      rintro _ _ _ ⟨b2, rfl, rfl, rfl⟩
      refine at_loc (loc_alloc (z := [.bool false]) (by kernel_rfl)) ?_
      rintro _ _ _ ⟨b3, rfl, rfl, rfl⟩
      refine at_loc (loc_box _) ?_
      rintro _ _ _ ⟨b4, rfl, rfl, rfl⟩
      refine at_end fun F hF => ⟨b1, b2, b3, b4, rfl, ?_⟩
      refine List.Perm.cons _ ?_
      show ((b3, _) :: (b2, _) :: (b1, _) :: H).Perm ((b1, _) :: (b2, _) :: (b3, _) :: H)
      exact (List.Perm.swap _ _ _).trans (((List.Perm.swap _ _ _).cons _).trans (List.Perm.swap _ _ _)) |>.trans (by exact List.Perm.refl _) 
    · rintro vs L' F' w' hle ⟨b1, b2, b3, b4, rfl, hp⟩ hS
      exact ⟨b1, b2, b3, b4, F', hle, rfl, hS.perm hp.symm⟩
  · rintro s1 s4 s5 s6 s7 w1 ⟨b1, b2, b3, b4, F1, hle1, hv, hS⟩
    obtain rfl : s1 = whole := by have := (List.cons.inj hv).1; cases this; rfl
    obtain rfl : s4 = pAt b1 := by have := (List.cons.inj (List.cons.inj hv).2).1; cases this; rfl
    obtain rfl : s5 = pAt b2 := by have := (List.cons.inj (List.cons.inj (List.cons.inj hv).2).2).1; cases this; rfl
    obtain rfl : s6 = pAt b3 := by have := (List.cons.inj (List.cons.inj (List.cons.inj (List.cons.inj hv).2).2).2).1; cases this; rfl
    obtain rfl : s7 = some (pAt b4) := by have := (List.cons.inj (List.cons.inj (List.cons.inj (List.cons.inj (List.cons.inj hv).2).2).2).2).1; cases this; rfl
    have hinv1 : ((PI b4).inv (st0 l) [(b4, blk T_syntax_parser (parCells sl (st0 l)))]).p F1 := ⟨sl, T_syntax_parser, ⟨rfl, hl⟩, (Sl 4 encTok sl l).mono _ _ hle1 hsl⟩
    -- the end: the results are read
    have fin : ∀ (v : Sum Int (List FN)) (x : SlD) (y : Int) (c : Bool) (K : Own) (w2 : World) (F2 : Heap), res = .ok v st → F.le F2 → Split r w2 (K ++ (cells3 b1 b2 b3 x y c ++ H)) F2 → (TreeR v ((x, ()), y, c, ()) K).p F2 →
        ∃ u, (resR #[.c (.pointer (some (pAt b1))) T_api_Tree, .c (.pointer (some (pAt b2))) T_int, .c (.pointer (some (pAt b3))) T_bool]).run PG w2 = .ok u w2 ∧ Ends I tRun TreeR r F res (.returned u) w2 := by
      intro v x y c K w2 F2 hres hle2 hS2 hv2
      have ho : ∀ b o, (b, o) ∈ cells3 b1 b2 b3 x y c → w2.heap[b]? = some o := fun b o hm => hS2.own b o (List.mem_append_right _ (List.mem_append_left _ hm))
      refine ⟨_, run_res3 (x := x) (y := y) (c := c) (ho _ _ (by simp [cells3])) (ho _ _ (by simp [cells3])) (ho _ _ (by simp [cells3])), F2, hle2, ?_⟩
      subst hres
      refine ⟨H, K, ((x, ()), y, c, ()), rfl, (I.inv st H).mono _ _ hle2 hi, ?_, hv2⟩
      exact (hS2.sub ((List.sublist_append_right _ _).append_left K)).perm List.perm_append_comm
    have caught : ∀ (y : Int) (w2 : World) (F2 : Heap), res = .ok (.inl y) st → F.le F2 → Split r w2 (cells3 b1 b2 b3 (none, 0, 0) 0 false ++ H) F2 →
        LeaveD PG 83 #[.pointer (some (pAt b1)), .pointer (some (pAt b2)), .pointer (some (pAt b3))] #[.c (.pointer (some (pAt b1))) T_api_Tree, .c (.pointer (some (pAt b2))) T_int, .c (.pointer (some (pAt b3))) T_bool]
          (fun e w' => match e with | .returned v => Ends I tRun TreeR r F res (.returned v) w' | .panicked c => Ends I tRun TreeR r F res (.panicked c) w' | .outgrown => False) (.panicking [{ v := .iface T_syntax_refused (.agg #[.int .i64 y]), recovered := false }]) w2 := by
      intro y w2 F2 hres hle2 hS2
      refine CallsD.mono (run_caught b1 b2 b3 y (none, 0, 0) 0 false hS2) ?_
      rintro e u' w4 ⟨rfl, rfl, F4, hle4, hS4⟩
      exact ⟨_, rfl, fin (.inl y) (none, 0, 0) y false [] w4 F4 hres (hle2.trans hle4) hS4 ⟨rfl, rfl⟩⟩
    have hfst : runV fuel l s1 = (match runS (parseR fuel) s1 (st0 l) with
      | none => none
      | some (.err y) => some (.inl y)
      | some (.ok n _) => if n.size ≤ 549755813888 then some (.inr (laidGo n.size [(n, -1)] [])) else none) := rfl
    have hsV : ∀ v, runV fuel l s1 = some v → res = .ok v st := fun v h => by
      have e : (runTop fuel l s1 : Sp ε σ _) st = some (.ok v st) := by unfold runTop; rw [h]
      rw [e] at hs; cases hs; rfl
    unfold t3_syntax_Run
    refine wp_join ?_
    cases hres1 : headS (parseR fuel) s1 (st0 l) with
    | none =>
      have e : runS (parseR fuel) s1 (st0 l) = none := by show Sp.bind _ _ _ = none; simp only [Sp.bind, hres1]
      have e2 : runV fuel l s1 = none := by rw [hfst, e]
      have e3 : (runTop fuel l s1 : Sp ε σ _) st = none := by unfold runTop; rw [e2]
      rw [e3] at hs; cases hs
    | some res1 =>
      have hh := head_sim hR b4 s1 hw (Δ := noLabel) (t := tP) (Rel := fun _ _ _ => Fact.prop False) (Split.give r (cells3 b1 b2 b3 (none, 0, 0) 0 false ++ H)) w1 F1 _ (st0 l) res1 (fun _ => True) hres1 (fun _ h => nomatch h) hinv1 (split_app hS.out) trivial
      refine T.wp_mono _ ?_ ?_ hh
      · intro lb vs w2 ho
        by_cases hlb : lb = 1
        · subst hlb
          obtain ⟨n, L2, F2, H2, st2, hle2, hsp2, ⟨p, ⟨rfl, rfl⟩, hn2⟩, hinv2, hS2⟩ := ho
          have hr1 : res1 = .ok n st2 := by
            have : (some (Res.ok n st2) : Option (Res Int PSt N)) = some res1 := hsp2
            cases this; rfl
          subst hr1
          refine ⟨(p, ()), rfl, ?_⟩
          rw [List.append_nil] at hS2
          refine wp_op (upon_mono ?_ ?_ _ (now_m b4 (Split.give r (cells3 b1 b2 b3 (none, 0, 0) 0 false ++ H)) w2 F2 H2 st2 (.ok st2.now st2) rfl (fun _ h => nomatch h) hinv2 hS2))
          · rintro v w3 ⟨F3, hle3, H3, K3, x3, hx3, hinv3, hS3, hK3, hR3⟩
            cases hx3
            have hK3' : K3 = [] := hK3
            have hR3' : x3 = st2.now := hR3
            subst hK3'; subst hR3'
            rw [List.append_nil] at hS3
            refine ⟨_, rfl, wp_join (wp_ite (fun h10 => ?_) (fun h10 => ?_))⟩
            · -- something is left over
              have e : runS (parseR fuel) s1 (st0 l) = some (.err st2.now.pos) := by
                show Sp.bind _ _ _ = _
                simp only [Sp.bind, hres1]
                show (cond (st2.now.kind != 10) failS (Pure.pure n) : PM N) st2 = _
                rw [show (st2.now.kind != 10) = true from h10]; rfl
              have hres := hsV (.inl st2.now.pos) (by rw [hfst, e])
              refine wp_op (upon_mono ?_ ?_ _ (fail_m (β := Unit) (t := tU) (Rel := fun _ _ _ => Fact.prop False) b4 (Split.give r (cells3 b1 b2 b3 (none, 0, 0) 0 false ++ H)) w3 F3 H3 st2 (.err st2.now.pos) rfl (fun _ h => nomatch h) hinv3 hS3))
              · rintro v w4 ⟨F4, _, c, hc, _⟩; cases hc
              · rintro c w4 ⟨F4, hle4, c', hc, hy, hS4⟩
                cases hc
                have hy' : c = [{ v := .iface T_syntax_refused (.agg #[.int .i64 st2.now.pos]), recovered := false }] := hy
                subst hy'
                exact caught _ w4 F4 hres (hle1.trans (hle2.trans (hle3.trans hle4))) (Split.back (L := cells3 b1 b2 b3 (none, 0, 0) 0 false ++ H) hS hS4)
            · refine wp_out ⟨(), rfl, ?_⟩
              have e : runS (parseR fuel) s1 (st0 l) = some (.ok n st2) := by
                show Sp.bind _ _ _ = _
                simp only [Sp.bind, hres1]
                show (cond (st2.now.kind != 10) failS (Pure.pure n) : PM N) st2 = _
                rw [show (st2.now.kind != 10) = false from h10]; rfl
              by_cases hsz : n.size ≤ 549755813888
              case neg =>
                have e2 : runV fuel l s1 = none := by rw [hfst, e]; simp only [if_neg hsz]
                have e3 : (runTop fuel l s1 : Sp ε σ _) st = none := by unfold runTop; rw [e2]
                rw [e3] at hs; cases hs
              have hres := hsV (.inr (laidGo n.size [(n, -1)] [])) (by rw [hfst, e]; simp only [if_pos hsz])
              have hS4 : Split r w3 ([] ++ (H3 ++ (cells3 b1 b2 b3 (none, 0, 0) 0 false ++ H))) F3 := Split.back (L := cells3 b1 b2 b3 (none, 0, 0) 0 false ++ H) hS hS3
              refine wp_op (upon_mono ?_ ?_ _ (laid_m (I0 : Ifc Unit Unit) n p (Split.give r (H3 ++ (cells3 b1 b2 b3 (none, 0, 0) 0 false ++ H))) w3 F3 [] () (.ok (laidGo n.size [(n, -1)] []) ()) (by unfold laidS; rw [if_pos hsz]; rfl) (fun A hA => by obtain rfl := List.mem_singleton.1 hA; exact (NodeF n p).mono _ _ hle3 hn2) rfl hS4.out))
              · rintro v w5 ⟨F5, hle5, H5, K5, x5, hx5, hinv5, hS5, hT5⟩
                cases hx5
                have hH5 : H5 = [] := hinv5
                subst hH5
                refine ⟨_, rfl, ?_⟩
                have hS6 : Split r w5 (K5 ++ (H3 ++ (cells3 b1 b2 b3 (none, 0, 0) 0 false ++ H))) F5 := Split.back hS4 hS5
                obtain ⟨x5, ⟨⟩⟩ := x5
                refine T.wp_mono _ ?_ (fun _ _ h => h.elim) (wp_of_at (r := r) (F := F5) (Γ := []) (J := fun vs L' => Fact.prop (L' = K5 ++ (H3 ++ (cells3 b1 b2 b3 x5 0 true ++ H)))) (Post := fun vs w' => ∃ F6, F5.le F6 ∧ Split r w' (K5 ++ (H3 ++ (cells3 b1 b2 b3 x5 0 true ++ H))) F6) ?_ (fun _ h => nomatch h) hS6 ?_)
                · rintro lb vs w6 ⟨F6, hle6, hS7⟩
                  refine CallsD.mono (run_idle b1 b2 b3 w6) ?_
                  rintro e u' w7 ⟨rfl, rfl, rfl⟩
                  exact ⟨_, rfl, fin (.inr _) x5 0 true K5 w7 F6 hres (hle1.trans (hle2.trans (hle3.trans (hle5.trans hle6)))) (hS7.sub ((List.sublist_append_right _ _).append_left K5)) ⟨rfl, (TreeO _ _ _).mono _ _ hle6 hT5⟩⟩
                · refine at_loc (loc_st (L1 := K5 ++ H3) (L2 := (b2, blk T_int [.int .i64 0]) :: (b3, blk T_bool [.bool false]) :: H) (l := [.slice none 0 0]) (T0 := T_api_Tree) (T := T_api_Tree) (c := true) (by simp [cells3]) (by kernel_rfl) rfl (Nat.le_of_ble_eq_true rfl) (by simp [Value.cells, Value.oneCell'])) ?_
                  rintro _ _ _ ⟨rfl, rfl⟩
                  refine at_loc (loc_st (L1 := K5 ++ H3 ++ [(b1, blk T_api_Tree [.slice x5.1 x5.2.1 x5.2.2])]) (L2 := (b3, blk T_bool [.bool false]) :: H) (l := [.int .i64 0]) (T0 := T_int) (T := T_int) (c := false) (by simp [splice, Value.cells]) (by kernel_rfl) rfl (Nat.le_of_ble_eq_true rfl) (by simp [Value.cells, Value.oneCell'])) ?_
                  rintro _ _ _ ⟨rfl, rfl⟩
                  refine at_loc (loc_st (L1 := K5 ++ H3 ++ [(b1, blk T_api_Tree [.slice x5.1 x5.2.1 x5.2.2]), (b2, blk T_int [.int .i64 0])]) (L2 := H) (l := [.bool false]) (T0 := T_bool) (T := T_bool) (c := false) (by simp [splice, Value.cells]) (by kernel_rfl) rfl (Nat.le_of_ble_eq_true rfl) (by simp [Value.cells, Value.oneCell'])) ?_
                  rintro _ _ _ ⟨rfl, rfl⟩
                  exact at_end fun F hF => by show _ = _; simp [cells3, splice, Value.cells]
                · intro vs L' F' w' hle' hJ hS'
                  exact ⟨F', hle', (show L' = _ from hJ) ▸ hS'⟩
              · rintro c w5 ⟨F5, hle5, H5, K5, x5, hx5, _⟩; cases hx5
          · rintro c w3 ⟨F3, hle3, H3, K3, x3, hx3, _⟩; cases hx3
        · simp only [Labels.set, if_neg hlb, noLabel] at ho
          obtain ⟨i, _⟩ := ho
          exact i.elim
      · rintro e w2 ⟨F2, hle2, h⟩
        cases res1 with
        | ok n st2 => obtain ⟨_, _, _, _, _, _, h⟩ := h; exact (show False from h).elim
        | err y =>
          obtain ⟨c, rfl, hy, hS2⟩ := h
          have hy' : c = [{ v := .iface T_syntax_refused (.agg #[.int .i64 y]), recovered := false }] := hy
          subst hy'
          have e : runS (parseR fuel) s1 (st0 l) = some (.err y) := by show Sp.bind _ _ _ = _; simp only [Sp.bind, hres1]
          exact caught y w2 F2 (hsV (.inl y) (by rw [hfst, e])) (hle1.trans hle2) (Split.back (L := cells3 b1 b2 b3 (none, 0, 0) 0 false ++ H) hS hS2)
end Go.Proofs.YtjlgcpgjdgeejaaGreatDoor
end

/- lex.Tokens: the consumer of the iterator, and all tokens of a text. Conditions: none. -/
section
namespace Go.Proofs.YtjlgcpgjdgeejaaGreatDoor
open Go
set_option linter.unusedSimpArgs false
set_option linter.unusedVariables false
set_option linter.constructorNameAsVariable false
set_option maxRecDepth 100000

noncomputable abbrev asTk : Code := (bodyOf Tryz.f26).rgt.rgt.lft.rgt.inB.rAs
noncomputable abbrev bdTk : Code := (bodyOf Tryz.f26).rgt.rgt.lft.rgt.inB.rBd
noncomputable def recTk (fid : Nat) (tmps : Array Value) (D : Nat) (s : LoopState) (p : Option Code) : Loop := { state := s, pending := p, fn := fid, tmps := tmps, params := #[10, 11], assign := asTk, body := bdTk, defers := D }
noncomputable def loopTk (fid : Nat) (tmps : Array Value) (D : Nat) (fin : Option (Int × Int)) : Obj := .loop (recTk fid tmps D (if fin.isSome then .done else .ready) (fin.map fun _ => .ret))
def tkCells (b2 b3 b4 b5 : Nat) (fin : Option (Int × Int)) (sl : SlD) : Own :=
  [(b2, blk T_Sapi_Token [.slice none 0 0]), (b3, blk T_int [.int .i64 (fin.getD (0, 0)).1]), (b4, blk T_api_Errno [.int .i64 (fin.getD (0, 0)).2]), (b5, blk T_Sapi_Token [.slice sl.1 sl.2.1 sl.2.2])]
noncomputable def YI (l D b2 b3 b4 b5 fid : Nat) (tmps : Array Value) : Ifc Empty YSt where
  inv s H := Fact.ex fun sl : SlD => Fact.ex fun K : Own => Fact.prop (H = (l, loopTk fid tmps D s.fin) :: ((D, .deferred (some [])) :: tkCells b2 b3 b4 b5 s.fin sl ++ K) ∧ Buf T_api_Token 4 sl (rows encTok s.acc) K ∧ s.acc.length ≤ 65537)
  err _ _ := False
theorem yield_m {l D b2 b3 b4 b5 fid : Nat} {s9 : Value} {tmps : Array Value} (hsz : tmps.size = 22)
    (hag : ∀ s v, (Env.puts (fun _ => none) [2, 3, 4, 5, 9] [.pointer (some ⟨b2, 0, none⟩), .pointer (some ⟨b3, 0, none⟩), .pointer (some ⟨b4, 0, none⟩), .pointer (some ⟨b5, 0, none⟩), s9]) s = some v → tmps.getD s undef = v.val) (t : Tok) (e : Int) :
    Meets PG (YI l D b2 b3 b4 b5 fid tmps) (callvS (.func (.yield l) #[] #[]) #[.agg #[.int .i64 t.1, .string t.2.1, .int .i64 t.2.2.1, .int .i64 t.2.2.2.1], .int .i64 e]) tB (yieldS t e) RelEq [] := by
  rintro r w F H ⟨acc, fin⟩ res hs hΓ ⟨sl, K, rfl, hB, hlen⟩ hsp
  cases fin with
  | some x => simp [yieldS] at hs
  | none =>
  have hB : Buf T_api_Token 4 sl (rows encTok acc) K := hB
  have hlen : acc.length ≤ 65537 := hlen
  have hl : w.heap[l]? = some (.loop (recTk fid tmps D .ready none)) := hsp.own _ _ (List.mem_cons_self ..)
  have hrun : (callvS (.func (.yield l) #[] #[]) #[.agg #[.int .i64 t.1, .string t.2.1, .int .i64 t.2.2.1, .int .i64 t.2.2.2.1], .int .i64 e]).run PG w =
      .ok (.round l fid ((#[10, 11].zip #[.agg #[.int .i64 t.1, .string t.2.1, .int .i64 t.2.2.1, .int .i64 t.2.2.2.1], .int .i64 e]).foldl (fun t (p, v) => t.setIfInBounds p v) tmps) asTk bdTk) w := by
    have h1 := run_yield (P := PG) (args := #[.agg #[.int .i64 t.1, .string t.2.1, .int .i64 t.2.2.1, .int .i64 t.2.2.2.1], .int .i64 e]) hl rfl
    have h2 : (callvS (.func (.yield l) #[] #[]) #[.agg #[.int .i64 t.1, .string t.2.1, .int .i64 t.2.2.1, .int .i64 t.2.2.2.1], .int .i64 e]).run PG w = (Instr.yield l #[.agg #[.int .i64 t.1, .string t.2.1, .int .i64 t.2.2.1, .int .i64 t.2.2.2.1], .int .i64 e]).run PG w := by
      simp [callvS, Deferred.ofValue, invoke]
    rw [h2, h1]; rfl
  rw [hrun]
  show RoundIn Fence.wide 0 PG l fid _ asTk bdTk w _
  refine rR_lex_Tokens ⟨b2, 0, none⟩ ⟨b3, 0, none⟩ ⟨b4, 0, none⟩ ⟨b5, 0, none⟩ s9 t e hsz hag ?_
  unfold tA_lex_Tokens
  -- the loop's left sides
  refine wp_of_at (J := fun vs L' => Fact.ex fun b6 : Nat => Fact.prop (vs = [.pointer (some ⟨b2, 0, none⟩), .pointer (some ⟨b3, 0, none⟩), .pointer (some ⟨b4, 0, none⟩), .pointer (some ⟨b5, 0, none⟩), .pointer (some ⟨b6, 0, none⟩), .int .i64 e] ∧ L' = (b6, blk T_api_Token (encTok t)) :: ((l, loopTk fid tmps D none) :: ((D, .deferred (some [])) :: tkCells b2 b3 b4 b5 none sl ++ K)))) (Γ := []) ?_ (fun _ h => nomatch h) hsp ?_
  · refine at_loc (loc_alloc (z := [.int .i64 0, .string kE, .int .i64 0, .int .i64 0]) (by kernel_rfl)) ?_
    rintro _ _ _ ⟨b6, rfl, rfl, rfl⟩
    refine at_loc (loc_st (L1 := []) (l := [.int .i64 0, .string kE, .int .i64 0, .int .i64 0]) (T := T_api_Token) (T0 := T_api_Token) (c := true) rfl (by kernel_rfl) rfl (Nat.le_of_ble_eq_true rfl) (by simp [Value.cells, Value.oneCell'])) ?_
    rintro _ _ _ ⟨rfl, rfl⟩
    exact at_end fun F hF => ⟨b6, rfl, rfl⟩
  rintro vs L' F1 w1 hle1 ⟨b6, rfl, rfl⟩ hS1
  refine ⟨recTk fid tmps D .ready none, hS1.own _ _ (List.mem_cons_of_mem _ (List.mem_cons_self ..)), rfl, ⟨b2, 0, none⟩, ⟨b3, 0, none⟩, ⟨b4, 0, none⟩, ⟨b5, 0, none⟩, ⟨b6, 0, none⟩, e, rfl, ?_⟩
  have hS2 := Split.putObj (L1 := [(b6, blk T_api_Token (encTok t))]) hS1 (.loop { recTk fid tmps D .ready none with state := .busy })
  unfold tB_lex_Tokens
  refine wp_ite (fun he => ?_) (fun he => ?_)
  · -- an error
    have he' : (e != 0) = true := he
    have hres : res = .ok false { acc := acc, fin := some (t.pos, e) } := by
      have : yieldS t e ⟨acc, none⟩ = some (.ok false { acc := acc, fin := some (t.pos, e) }) := by simp only [yieldS]; rw [if_neg (by decide), if_pos he']
      rw [this] at hs; exact (Option.some.inj hs).symm
    subst hres
    refine wp_of_at2 (J := fun i vs L' => Fact.prop (i = 1 ∧ L' = (b6, blk T_api_Token (encTok t)) :: (l, .loop { recTk fid tmps D .ready none with state := .busy }) :: ((D, .deferred (some [])) :: tkCells b2 b3 b4 b5 (some (t.pos, e)) sl ++ K))) (Γ := []) ?_ (fun _ h => nomatch h) hS2 ?_
    · refine at_draw [(b6, blk T_api_Token (encTok t))] (fun p hp => by simp at hp; simp [hp]) ?_
      refine at_opq (t1 := tI) t.pos (qval_ld1 (T0 := T_api_Token) (l := encTok t) (QRd.own (List.mem_cons_self ..)) (by kernel_rfl) rfl rfl) ?_
      refine at_locl (loc_st (L1 := [(b6, blk T_api_Token (encTok t)), (l, .loop { recTk fid tmps D .ready none with state := .busy }), (D, .deferred (some []))]) (L2 := [(b3, blk T_int [.int .i64 0]), (b4, blk T_api_Errno [.int .i64 0]), (b5, blk T_Sapi_Token [.slice sl.1 sl.2.1 sl.2.2])] ++ K) (l := [.slice none 0 0]) (T := T_Sapi_Token) (T0 := T_Sapi_Token) (c := false) rfl (by kernel_rfl) rfl (Nat.le_of_ble_eq_true rfl) (by simp [Value.cells, Value.oneCell'])) ?_
      rintro _ _ _ ⟨rfl, rfl⟩
      refine ⟨fun p hp => by simp at hp; simp [hp], ?_⟩
      refine at_locl (loc_st (L1 := [(b6, blk T_api_Token (encTok t)), (l, .loop { recTk fid tmps D .ready none with state := .busy }), (D, .deferred (some [])), (b2, blk T_Sapi_Token [.slice none 0 0])]) (L2 := [(b4, blk T_api_Errno [.int .i64 0]), (b5, blk T_Sapi_Token [.slice sl.1 sl.2.1 sl.2.2])] ++ K) (l := [.int .i64 0]) (T := T_int) (T0 := T_int) (c := false) rfl (by kernel_rfl) rfl (Nat.le_of_ble_eq_true rfl) (by simp [Value.cells, Value.oneCell'])) ?_
      rintro _ _ _ ⟨rfl, rfl⟩
      refine ⟨fun p hp => by simp at hp; simp [hp], ?_⟩
      refine at_loc (loc_st (L1 := [(b6, blk T_api_Token (encTok t)), (l, .loop { recTk fid tmps D .ready none with state := .busy }), (D, .deferred (some [])), (b2, blk T_Sapi_Token [.slice none 0 0]), (b3, blk T_int [.int .i64 t.pos])]) (L2 := [(b5, blk T_Sapi_Token [.slice sl.1 sl.2.1 sl.2.2])] ++ K) (l := [.int .i64 0]) (T := T_api_Errno) (T0 := T_api_Errno) (c := false) rfl (by kernel_rfl) rfl (Nat.le_of_ble_eq_true rfl) (by simp [Value.cells, Value.oneCell'])) ?_
      rintro _ _ _ ⟨rfl, rfl⟩
      exact at_end2 fun F hF => ⟨rfl, rfl⟩
    · rintro i vs L' F2 w2 hle2 ⟨rfl, rfl⟩ hS3
      refine ⟨{ recTk fid tmps D .ready none with state := .busy }, hS3.own _ _ (List.mem_cons_of_mem _ (List.mem_cons_self ..)), ?_⟩
      rw [if_neg (by decide)]
      have hS4 := Split.putObj (L1 := [(b6, blk T_api_Token (encTok t))]) hS3 (loopTk fid tmps D (some (t.pos, e)))
      refine ⟨F2, hle1.trans hle2, _, [], false, rfl, ⟨sl, K, rfl, hB, hlen⟩, ?_, rfl, rfl⟩
      rw [List.append_nil]
      exact hS4.sub (List.sublist_cons_self ..)
  · -- a token more
    have he' : (e != 0) = false := he
    by_cases hacc : acc.length ≤ 65536
    case neg =>
      have : yieldS t e ⟨acc, none⟩ = none := by simp only [yieldS]; rw [if_neg (by decide), if_neg (by rw [he']; decide), if_neg hacc]
      rw [this] at hs; cases hs
    have hres : res = .ok true { acc := acc ++ [t], fin := none } := by
      have : yieldS t e ⟨acc, none⟩ = some (.ok true { acc := acc ++ [t], fin := none }) := by simp only [yieldS]; rw [if_neg (by decide), if_neg (by rw [he']; decide), if_pos hacc]
      rw [this] at hs; exact (Option.some.inj hs).symm
    subst hres
    have hsl : sl.2.1 = acc.length := by have h1 := hB.len; rw [rows_length encTok_len] at h1; omega
    let HT : Own := [(b2, blk T_Sapi_Token [.slice none 0 0]), (b3, blk T_int [.int .i64 0]), (b4, blk T_api_Errno [.int .i64 0])]
    let LB : Own := (b6, blk T_api_Token (encTok t)) :: (l, .loop { recTk fid tmps D .ready none with state := .busy }) :: (D, .deferred (some [])) :: HT
    refine wp_of_at2 (J := fun i vs L' => Fact.ex fun sl' : SlD => Fact.ex fun K' : Own => Fact.prop (i = 0 ∧ Buf T_api_Token 4 sl' (rows encTok (acc ++ [t])) K' ∧ L'.Perm (LB ++ (b5, blk T_Sapi_Token [.slice sl'.1 sl'.2.1 sl'.2.2]) :: K'))) (Γ := []) ?_ (fun _ h => nomatch h) hS2 ?_
    · refine at_loc (loc_ld1 (b1 := .slice) sl (Rd.own (show (b5, blk T_Sapi_Token [.slice sl.1 sl.2.1 sl.2.2]) ∈ _ by simp [tkCells])) (by kernel_rfl) rfl rfl) ?_
      rintro _ _ _ ⟨rfl, rfl, rfl⟩
      refine at_loc (loc_ldA (bs := bsTok) t (Rd.own (List.mem_cons_self ..)) (by kernel_rfl) rfl rfl) ?_
      rintro _ _ _ ⟨rfl, rfl, rfl⟩
      refine at_loc (loc_oneV (e := T_api_Token) (size := 4) (z := .agg #[.int .i64 0, .string kE, .int .i64 0, .int .i64 0]) (encTok t) (by kernel_rfl) (by kernel_rfl) (by decide) (by decide) (by kernel_rfl)) ?_
      rintro _ _ _ ⟨bn, rfl, rfl, rfl⟩
      refine at_perm (L' := K ++ (LB ++ [(b5, blk T_Sapi_Token [.slice sl.1 sl.2.1 sl.2.2])])) ?_ ?_
      · show (K ++ (LB ++ [(b5, blk T_Sapi_Token [.slice sl.1 sl.2.1 sl.2.2])])).Perm ((LB ++ [(b5, blk T_Sapi_Token [.slice sl.1 sl.2.1 sl.2.2])]) ++ K)
        exact List.perm_append_comm
      refine at_loc (loc_append (L0 := LB ++ [(b5, blk T_Sapi_Token [.slice sl.1 sl.2.1 sl.2.2])]) (K := K) (size := 4) (bytes := 40) (e := T_api_Token) (m := 1) (news := encTok t) (by kernel_rfl) rfl hB (Rd.at (List.mem_cons_self ..)) rfl rfl rfl (by decide) (by simp [encTok, HB.enc, B.enc, Value.oneCell']) (by omega) (by omega)) ?_
      rintro x _ _ ⟨K', rfl, rfl, hx, hb'⟩
      refine at_loc (loc_st (L1 := K' ++ LB) (L2 := []) (l := [.slice sl.1 sl.2.1 sl.2.2]) (T := T_Sapi_Token) (T0 := T_Sapi_Token) (c := false) (by simp) (by kernel_rfl) rfl (Nat.le_of_ble_eq_true rfl) (by simp [Value.cells, Value.oneCell'])) ?_
      rintro _ _ _ ⟨rfl, rfl⟩
      refine at_end2 fun F hF => ⟨x, K', rfl, ?_, ?_⟩
      · rw [rows_append]
        have : rows encTok [t] = encTok t := by simp [rows]
        rw [this]; exact hb'
      · show ((K' ++ LB) ++ [(b5, blk T_Sapi_Token [.slice x.1 x.2.1 x.2.2])]).Perm (LB ++ (b5, blk T_Sapi_Token [.slice x.1 x.2.1 x.2.2]) :: K')
        have h1 : ((K' ++ LB) ++ [(b5, blk T_Sapi_Token [.slice x.1 x.2.1 x.2.2])]).Perm ((LB ++ [(b5, blk T_Sapi_Token [.slice x.1 x.2.1 x.2.2])]) ++ K') := by
          rw [List.append_assoc]; exact List.perm_append_comm
        simpa [List.append_assoc] using h1
    · rintro i vs L' F2 w2 hle2 ⟨sl', K', rfl, hB', hp⟩ hS3
      have hS3' := hS3.perm hp.symm
      refine ⟨{ recTk fid tmps D .ready none with state := .busy }, hS3'.own _ _ (List.mem_cons_of_mem _ (List.mem_cons_self ..)), ?_⟩
      rw [if_pos rfl]
      have hS4 := Split.putObj (L1 := [(b6, blk T_api_Token (encTok t))]) (L2 := (D, .deferred (some [])) :: HT ++ (b5, blk T_Sapi_Token [.slice sl'.1 sl'.2.1 sl'.2.2]) :: K') (o := .loop { recTk fid tmps D .ready none with state := .busy }) hS3' (loopTk fid tmps D none)
      refine ⟨F2, hle1.trans hle2, (l, loopTk fid tmps D none) :: ((D, .deferred (some [])) :: tkCells b2 b3 b4 b5 none sl' ++ K'), [], true, rfl, ⟨sl', K', rfl, hB', by simp; omega⟩, ?_, rfl, rfl⟩
      rw [List.append_nil]
      exact hS4.sub (List.sublist_cons_self ..)
abbrev tTok3 : Ty := .tup [.b .slice, .b (.int .i64), .b (.int .i64)]
def TokR (v : Sum (Int × Int) (List Tok)) (x : HC [.b .slice, .b (.int .i64), .b (.int .i64)]) : Fact := match v with
  | .inl p => Fact.prop (x = ((none, 0, 0), p.1, p.2, ()))
  | .inr l => Fact.ex fun sl : SlD => (Fact.prop (x = (sl, 0, 0, ()))).both (Sl 4 encTok sl l)
def tokensS (b : ByteArray) {ε σ : Type} : Sp ε σ (Sum (Int × Int) (List Tok)) := fun st => (tokensV b).map fun v => .ok v st
theorem run_resTk {w : World} {b1 b2 b3 : Nat} {x : SlD} {y z : Int} (h1 : w.heap[b1]? = some (blk T_Sapi_Token [.slice x.1 x.2.1 x.2.2])) (h2 : w.heap[b2]? = some (blk T_int [.int .i64 y])) (h3 : w.heap[b3]? = some (blk T_api_Errno [.int .i64 z])) :
    (resR #[.c (.pointer (some ⟨b1, 0, none⟩)) T_Sapi_Token, .c (.pointer (some ⟨b2, 0, none⟩)) T_int, .c (.pointer (some ⟨b3, 0, none⟩)) T_api_Errno]).run PG w = .ok (tTok3.enc (x, y, z, ())) w := by
  obtain ⟨n1, hs1⟩ := isOne_spec (P := PG) (t := T_Sapi_Token) (by kernel_rfl)
  obtain ⟨n2, hs2⟩ := isOne_spec (P := PG) (t := T_int) (by kernel_rfl)
  obtain ⟨n3, hs3⟩ := isOne_spec (P := PG) (t := T_api_Errno) (by kernel_rfl)
  have e1 : (loadVar T_Sapi_Token ⟨b1, 0, none⟩).run PG w = .ok (.slice x.1 x.2.1 x.2.2) w := loadVar_1 hs1 h1 rfl rfl
  have e2 : (loadVar T_int ⟨b2, 0, none⟩).run PG w = .ok (.int .i64 y) w := loadVar_1 hs2 h2 rfl rfl
  have e3 : (loadVar T_api_Errno ⟨b3, 0, none⟩).run PG w = .ok (.int .i64 z) w := loadVar_1 hs3 h3 rfl rfl
  have : (resR #[.c (.pointer (some ⟨b1, 0, none⟩)) T_Sapi_Token, .c (.pointer (some ⟨b2, 0, none⟩)) T_int, .c (.pointer (some ⟨b3, 0, none⟩)) T_api_Errno]).run PG w = .ok (.tuple #[.slice x.1 x.2.1 x.2.2, .int .i64 y, .int .i64 z]) w := by
    simp [resR, RV.sem, asAddr, e1, e2, e3]
  exact this
theorem tokens_m {ε σ : Type} (I : Ifc ε σ) (sl : SlD) (b : ByteArray) (hb : b.size ≤ 17179869184) : Meets PG I (callS F_lex_Tokens #[.slice sl.1 sl.2.1 sl.2.2]) tTok3 (tokensS b) TokR [ByF sl b, MxF] := by
  intro r w F H st res hs hΓ hi hsp
  have hbF := hΓ (ByF sl b) (List.mem_cons_self ..)
  have hmF := hΓ MxF (List.mem_cons_of_mem _ (List.mem_cons_self ..))
  rw [run_callS Tryz.func26 rfl rfl]
  refine Calls.mono (cR_lex_Tokens sl (Mid := fun vs w' => ∃ b2 b3 b4 b5 bb sl2 F', F.le F' ∧ vs = [.pointer (some ⟨b2, 0, none⟩), .pointer (some ⟨b3, 0, none⟩), .pointer (some ⟨b4, 0, none⟩), .pointer (some ⟨b5, 0, none⟩), .func (.func F_lex_Scan_1) #[] #[.pointer (some ⟨bb, 0, none⟩)]] ∧
      F' bb = some (blk T_Suint8 [.slice sl2.1 sl2.2.1 sl2.2.2]) ∧ (ByF sl2 b).p F' ∧ Split r w' (tkCells b2 b3 b4 b5 none (none, 0, 0) ++ H) F')
    (R := fun e w' => match e with | .returned v => Ends I tTok3 (pl TokR) r F res (.returned v) w' | _ => False) ?_ ?_ ?_) (fun e w' h => by cases e <;> first | exact h | exact h.elim)
  · rintro vs w' ⟨b2, b3, b4, b5, bb, sl2, F', _, rfl, _⟩; exact ⟨_, _, _, _, _, rfl⟩
  · unfold t1_lex_Tokens
    refine wp_of_at (J := fun vs L' => Fact.ex fun b2 : Nat => Fact.ex fun b3 : Nat => Fact.ex fun b4 : Nat => Fact.ex fun b5 : Nat => Fact.ex fun v : Value => (Fact.prop (vs = [.pointer (some ⟨b2, 0, none⟩), .pointer (some ⟨b3, 0, none⟩), .pointer (some ⟨b4, 0, none⟩), .pointer (some ⟨b5, 0, none⟩), v] ∧ L'.Perm (tkCells b2 b3 b4 b5 none (none, 0, 0) ++ H))).both (ScanR b v)) (Γ := [ByF sl b, MxF]) (L := H) ?_ hΓ hsp ?_
    · refine at_loc (loc_alloc (z := [.slice none 0 0]) (by kernel_rfl)) ?_
      rintro _ _ _ ⟨b2, rfl, rfl, rfl⟩
      refine at_loc (loc_alloc (z := [.int .i64 0]) (by kernel_rfl)) ?_
      rintro _ _ _ ⟨b3, rfl, rfl, rfl⟩
      refine at_loc (loc_alloc (z := [.int .i64 0]) (by kernel_rfl)) ?_
      rintro _ _ _ ⟨b4, rfl, rfl, rfl⟩
      refine at_loc (loc_alloc (z := [.slice none 0 0]) (by kernel_rfl)) ?_
      rintro _ _ _ ⟨b5, rfl, rfl, rfl⟩
      refine at_valR (lexScan_m sl b hb) (by simp) fun v K => at_both (at_prop fun hK => ?_)
      have hK' : K = [] := hK
      subst hK'
      refine at_end fun F hF => ⟨b2, b3, b4, b5, v, ⟨rfl, ?_⟩, hF _ (List.mem_cons_self ..)⟩
      show ((b5, _) :: (b4, _) :: (b3, _) :: (b2, _) :: H).Perm ((b2, _) :: (b3, _) :: (b4, _) :: (b5, _) :: H)
      have h4 : ∀ (x1 x2 x3 x4 : Nat × Obj), ([x4, x3, x2, x1] ++ H).Perm ([x1, x2, x3, x4] ++ H) := fun x1 x2 x3 x4 => (List.reverse_perm [x1, x2, x3, x4]).append_right H
      exact h4 _ _ _ _
    · rintro vs L' F' w' hle ⟨b2, b3, b4, b5, v, ⟨rfl, hp⟩, bb, sl2, rfl, hat, hby⟩ hS
      exact ⟨b2, b3, b4, b5, bb, sl2, F', hle, rfl, hat, hby, hS.perm hp.symm⟩
  · rintro s2 s3 s4 s5 s9 w1 ⟨b2, b3, b4, b5, bb, sl2, F1, hle1, hv, hat, hby, hS⟩
    simp only [List.cons.injEq, Value.pointer.injEq, Option.some.injEq, and_true] at hv
    obtain ⟨rfl, rfl, rfl, rfl, rfl⟩ := hv
    refine ⟨F_lex_Scan_1, #[.pointer (some ⟨bb, 0, none⟩)], rfl, fun args w => run_callFunc' Tryz.func70 rfl rfl, fun tmps fid hsz hag => ?_⟩
    have hD : Split r (w1.alloc (.deferred (some []))) ((w1.heap.size, .deferred (some [])) :: (tkCells b2 b3 b4 b5 none (none, 0, 0) ++ H)) F1 := hS.new _
    have hL := hD.new (.loop (recTk fid tmps w1.heap.size .ready none))
    rw [World.size_alloc] at hL
    have hS1 : Split r ((w1.alloc (.deferred (some []))).alloc (.loop (recTk fid tmps w1.heap.size .ready none))) (((w1.heap.size + 1, loopTk fid tmps w1.heap.size none) :: ((w1.heap.size, .deferred (some [])) :: tkCells b2 b3 b4 b5 none (none, 0, 0) ++ [])) ++ H) F1 := by
      rw [List.append_nil]; exact hL
    have hm := scan1_m (YI (w1.heap.size + 1) w1.heap.size b2 b3 b4 b5 fid tmps) b sl2 bb (.func (.yield (w1.heap.size + 1)) #[] #[]) yieldS [] (yield_m hsz hag)
    cases hall : scanAll yieldS b ⟨[], none⟩ with
    | none =>
      have : tokensV b = none := by simp only [tokensV, hall]
      simp only [tokensS, this] at hs; cases hs
    | some res2 =>
    cases res2 with
    | err e => exact e.elim
    | ok u st2 =>
    have h2 := hm (Split.give r H) _ F1 _ ⟨[], none⟩ _ hall (fun A hA => by
      simp only [List.mem_cons, List.not_mem_nil, or_false] at hA
      rcases hA with rfl | rfl | rfl
      · exact hat
      · exact hby
      · exact MxF.mono _ _ hle1 hmF) ⟨(none, 0, 0), [], rfl, Buf.nil _ _, Nat.zero_le _⟩ hS1.out
    · rw [run_callS Tryz.func70 rfl rfl] at h2
      refine Calls.mono h2 fun e w3 he => ?_
      cases e with
      | panicked c => obtain ⟨F', hle, H', K1, x, hv, _⟩ := he; cases hv
      | outgrown => exact he.elim
      | returned v =>
      obtain ⟨F3, hle3, H', K1, x, hv, ⟨sl3, K3, rfl, hB3, hlen3⟩, hS3, hK1, _⟩ := he
      have hK1' : K1 = [] := hK1
      subst hK1'
      rw [List.append_nil] at hS3
      obtain ⟨acc, fin⟩ := st2
      have hS4 : Split r w3 ((w1.heap.size + 1, loopTk fid tmps w1.heap.size fin) :: ((w1.heap.size, .deferred (some [])) :: tkCells b2 b3 b4 b5 fin sl3 ++ K3) ++ H) F3 := Split.back hS1 hS3
      have hl3 : w3.heap[w1.heap.size + 1]? = some (loopTk fid tmps w1.heap.size fin) := hS4.own _ _ (List.mem_cons_self ..)
      have hS5 : ∀ o, Split r (w3.putObj (w1.heap.size + 1) o) ((w1.heap.size + 1, o) :: ((w1.heap.size, .deferred (some [])) :: tkCells b2 b3 b4 b5 fin sl3 ++ K3) ++ H) F3 := fun o =>
        Split.putObj (L1 := []) (L2 := ((w1.heap.size, .deferred (some [])) :: tkCells b2 b3 b4 b5 fin sl3 ++ K3) ++ H) hS4 o
      have hres : ∀ v, tokensV b = some v → res = .ok v st := fun v hv => by
        simp only [tokensS, hv] at hs; exact (Option.some.inj hs).symm
      -- the results are read
      have fin3 : ∀ (v : Sum (Int × Int) (List Tok)) (o : Obj) (w5 : World) (F5 : Heap) (x : SlD) (y z : Int), tokensV b = some v → F3.le F5 →
          Split r w5 ((w1.heap.size + 1, o) :: ((w1.heap.size, .deferred (some [])) :: ([(b2, blk T_Sapi_Token [.slice x.1 x.2.1 x.2.2]), (b3, blk T_int [.int .i64 y]), (b4, blk T_api_Errno [.int .i64 z]), (b5, blk T_Sapi_Token [.slice sl3.1 sl3.2.1 sl3.2.2])] ++ K3)) ++ H) F5 →
          (∀ F6, F5.le F6 → (∀ p ∈ K3, F6 p.1 = some p.2) → (TokR v (x, y, z, ())).p F6) →
          EndR PG #[.c (.pointer (some ⟨b2, 0, none⟩)) T_Sapi_Token, .c (.pointer (some ⟨b3, 0, none⟩)) T_int, .c (.pointer (some ⟨b4, 0, none⟩)) T_api_Errno] w1.heap.size
            (fun e w' => match e with | .returned v => Ends I tTok3 (pl TokR) r F res (.returned v) w' | _ => False) w5 := by
        intro v o w5 F5 x y z hv hle5 hS6 hR
        refine ⟨hS6.own _ _ (List.mem_cons_of_mem _ (List.mem_cons_self ..)), ?_⟩
        have hS7 := Split.putObj (L1 := [(w1.heap.size + 1, o)]) hS6 (.deferred none)
        refine ⟨_, run_resTk (x := x) (y := y) (z := z) (hS7.own _ _ (by simp)) (hS7.own _ _ (by simp)) (hS7.own _ _ (by simp)), ?_⟩
        have hS8 : Split r _ (K3 ++ H) F5 := hS7.sub (H' := K3 ++ H) (by
          show (K3 ++ H).Sublist ([(w1.heap.size + 1, o), (w1.heap.size, Obj.deferred none), (b2, blk T_Sapi_Token [.slice x.1 x.2.1 x.2.2]), (b3, blk T_int [.int .i64 y]), (b4, blk T_api_Errno [.int .i64 z]), (b5, blk T_Sapi_Token [.slice sl3.1 sl3.2.1 sl3.2.2])] ++ K3 ++ H)
          rw [List.append_assoc]
          exact List.sublist_append_right _ _)
        obtain ⟨F6, hle6, hK6, hS9⟩ := Split.freezeL K3 hS8
        refine ⟨F6, hle1.trans (hle3.trans (hle5.trans hle6)), ?_⟩
        rw [hres v hv]
        refine ⟨H, [], (x, y, z, ()), rfl, (I.inv st H).mono _ _ (hle1.trans (hle3.trans (hle5.trans hle6))) hi, by rw [List.append_nil]; exact hS9, rfl, hR F6 hle6 hK6⟩
      cases fin with
      | some pe =>
        have hval : tokensV b = some (.inl pe) := by simp only [tokensV, hall]
        refine ⟨v, recTk fid tmps w1.heap.size .done (some .ret), rfl, hl3, fun h => (by cases h), .inr ⟨rfl, ?_⟩⟩
        exact fin3 (.inl pe) _ _ F3 (none, 0, 0) pe.1 pe.2 hval (Heap.le.refl _) (hS5 _) fun F6 _ _ => rfl
      | none =>
        have hval : tokensV b = some (.inr acc) := by simp only [tokensV, hall]
        refine ⟨v, recTk fid tmps w1.heap.size .ready none, rfl, hl3, fun h => (by cases h), .inl ⟨rfl, ?_⟩⟩
        unfold t4_lex_Tokens
        refine wp_of_at (J := fun vs L' => Fact.prop (L' = (w1.heap.size + 1, .loop { recTk fid tmps w1.heap.size .ready none with state := .exhausted }) :: ((w1.heap.size, .deferred (some [])) :: ([(b2, blk T_Sapi_Token [.slice sl3.1 sl3.2.1 sl3.2.2]), (b3, blk T_int [.int .i64 0]), (b4, blk T_api_Errno [.int .i64 0]), (b5, blk T_Sapi_Token [.slice sl3.1 sl3.2.1 sl3.2.2])] ++ K3)) ++ H)) (Γ := []) ?_ (fun _ h => nomatch h) (hS5 (.loop { recTk fid tmps w1.heap.size .ready none with state := .exhausted })) ?_
        · refine at_loc (loc_ld1 (b1 := .slice) sl3 (Rd.own (show (b5, blk T_Sapi_Token [.slice sl3.1 sl3.2.1 sl3.2.2]) ∈ _ by simp [tkCells])) (by kernel_rfl) rfl rfl) ?_
          rintro _ _ _ ⟨rfl, rfl, rfl⟩
          refine at_loc (loc_st (L1 := [(w1.heap.size + 1, .loop { recTk fid tmps w1.heap.size .ready none with state := .exhausted }), (w1.heap.size, .deferred (some []))]) (L2 := [(b3, blk T_int [.int .i64 0]), (b4, blk T_api_Errno [.int .i64 0]), (b5, blk T_Sapi_Token [.slice sl3.1 sl3.2.1 sl3.2.2])] ++ K3 ++ H) (l := [.slice none 0 0]) (T := T_Sapi_Token) (T0 := T_Sapi_Token) (c := false) rfl (by kernel_rfl) rfl (Nat.le_of_ble_eq_true rfl) (by simp [Value.cells, Value.oneCell'])) ?_
          rintro _ _ _ ⟨rfl, rfl⟩
          refine at_loc (loc_st (L1 := [(w1.heap.size + 1, .loop { recTk fid tmps w1.heap.size .ready none with state := .exhausted }), (w1.heap.size, .deferred (some [])), (b2, blk T_Sapi_Token [.slice sl3.1 sl3.2.1 sl3.2.2])]) (L2 := [(b4, blk T_api_Errno [.int .i64 0]), (b5, blk T_Sapi_Token [.slice sl3.1 sl3.2.1 sl3.2.2])] ++ K3 ++ H) (l := [.int .i64 0]) (T := T_int) (T0 := T_int) (c := false) rfl (by kernel_rfl) rfl (Nat.le_of_ble_eq_true rfl) (by simp [Value.cells, Value.oneCell'])) ?_
          rintro _ _ _ ⟨rfl, rfl⟩
          refine at_loc (loc_st (L1 := [(w1.heap.size + 1, .loop { recTk fid tmps w1.heap.size .ready none with state := .exhausted }), (w1.heap.size, .deferred (some [])), (b2, blk T_Sapi_Token [.slice sl3.1 sl3.2.1 sl3.2.2]), (b3, blk T_int [.int .i64 0])]) (L2 := [(b5, blk T_Sapi_Token [.slice sl3.1 sl3.2.1 sl3.2.2])] ++ K3 ++ H) (l := [.int .i64 0]) (T := T_api_Errno) (T0 := T_api_Errno) (c := false) rfl (by kernel_rfl) rfl (Nat.le_of_ble_eq_true rfl) (by simp [Value.cells, Value.oneCell'])) ?_
          rintro _ _ _ ⟨rfl, rfl⟩
          exact at_end fun F hF => rfl
        · rintro vs L' F5 w5 hle5 hL5 hS6
          obtain rfl : L' = _ := hL5
          exact fin3 (.inr acc) _ w5 F5 sl3 0 0 hval hle5 hS6 fun F6 hle6 hK6 => ⟨sl3, rfl, Buf.sl hB3 (by decide) rfl encTok_len hK6⟩
end Go.Proofs.YtjlgcpgjdgeejaaGreatDoor
end

/- package parse: the tree of a text, or an error's place and number. Conditions: none. -/
section
namespace Go.Proofs.YtjlgcpgjdgeejaaGreatDoor
open Go
set_option linter.unusedSimpArgs false
set_option linter.unusedVariables false
set_option linter.constructorNameAsVariable false
set_option maxRecDepth 100000

theorem k_meets {ε σ : Type} {I : Ifc ε σ} {s0 : Sem Next} {t : Ty} {x : t.den} (hm : Meets PG (I0 : Ifc ε Unit) s0 t (Pure.pure x : Sp ε Unit t.den) RelEq []) : Meets PG I s0 t (Pure.pure x) RelEq [] := by
  intro r w F H st res hs hΓ hi hsp
  have h0 : Split r w ([] ++ H) F := hsp
  have hres : res = .ok x st := (Option.some.inj hs).symm
  subst hres
  refine upon_mono ?_ ?_ _ (hm (Split.give r H) w F [] () (.ok x ()) rfl (fun _ h => nomatch h) rfl h0.out)
  · rintro v w' ⟨F', hle, H', K1, y, hv, hinv, hS, hK, hR⟩
    have hH : H' = [] := hinv
    have hK' : K1 = [] := hK
    subst hH; subst hK'
    have hS' : Split r w' H F' := Split.back (L := H) h0 hS
    exact ⟨F', hle, H, [], y, hv, (I.inv st H).mono _ _ hle hi, by rw [List.append_nil]; exact hS', rfl, hR⟩
  · rintro c w' ⟨F', hle, H', K1, y, hv, _⟩; cases hv
theorem number_m : NumM := by
  intro ε σ I s hl h
  refine k_meets ?_
  obtain ⟨n, hn⟩ := Option.isSome_iff_exists.1 h
  refine c_syntax_number s (k_open fun st => ?_)
  unfold t_syntax_number
  refine k_val (atoi_m s n hl hn) (fun _ h => nomatch h) ?_
  have : numI s = n := by simp [numI, hn]
  exact k_ret1 (t := tI) (numI s) (by rw [this]; rfl) rfl
def depthGo (most : Int) : List Tok → Nat → Int → Int → Int → Int × Int
  | [], _, _, d, f => (d, f)
  | t :: l, i, n, d, f =>
    let m := if n + turnI t > 0 then n + turnI t else 0
    depthGo most l (i + 1) m (if m > d then m else d) (if m > most ∧ f < 0 then (i : Int) else f)
theorem turn_le (t : Tok) : -1 ≤ turnI t ∧ turnI t ≤ 1 := by
  unfold turnI
  repeat' split
  all_goals decide
abbrev tII : Ty := .tup [.b (.int .i64), .b (.int .i64)]
def depthL (most : Int) (l : List Tok) (k : Nat) (n d f i : Int) {ε σ : Type} : Sp ε σ (HC [.b (.int .i64), .b (.int .i64)]) := fun st =>
  if 0 ≤ n ∧ n ≤ i ∧ 0 ≤ i ∧ i ≤ l.length ∧ l.length - i.toNat + 1 = k then some (.ok ((depthGo most (l.drop i.toNat) i.toNat n d f).1, (depthGo most (l.drop i.toNat) i.toNat n d f).2, ()) st) else none
theorem depth_m {ε : Type} (sl : SlD) (l : List Tok) (hl : l.length ≤ 1099511627776) (most : Int) : Meets PG (I0 : Ifc ε Unit) (callS F_lex_Depth #[.slice sl.1 sl.2.1 sl.2.2, .int .i64 most]) tII (Pure.pure ((depthGo most l 0 0 0 (-1)).1, (depthGo most l 0 0 0 (-1)).2, ())) RelEq [Sl 4 encTok sl l] := by
  refine c_lex_Depth sl most (k_open fun st => ?_)
  unfold t_lex_Depth
  refine k_loop (fun k (y : HC [.b (.int .i64), .b (.int .i64), .b (.int .i64), .b (.int .i64)]) => depthL most l k y.1 y.2.1 y.2.2.1 y.2.2.2.1) (l.length + 1) ((0 : Int), (0 : Int), (-1 : Int), (0 : Int), ()) rfl ?_ (fun y st => ?_) fun k y st => ?_
  · show _ = depthL most l (l.length + 1) 0 0 (-1) 0 st
    simp only [depthL]
    rw [if_pos (by omega)]; rfl
  · show depthL most l 0 y.1 y.2.1 y.2.2.1 y.2.2.2.1 st = none
    simp only [depthL]
    rw [if_neg (by omega)]
  · obtain ⟨(n : Int), (d : Int), (f : Int), (i : Int), ⟨⟩⟩ := y
    show SimK _ _ _ _ _ _ _ _ (depthL most l (k + 1) n d f i st) _ _
    by_cases hg : 0 ≤ n ∧ n ≤ i ∧ 0 ≤ i ∧ i ≤ l.length ∧ l.length - i.toNat + 1 = k + 1
    case neg => exact k_none (by simp only [depthL]; rw [if_neg hg])
    obtain ⟨i, rfl⟩ := Int.eq_ofNat_of_zero_le hg.2.2.1
    have hdef : (depthL most l (k + 1) n d f (i : Int) : Sp ε Unit _) st = some (.ok ((depthGo most (l.drop i) i n d f).1, (depthGo most (l.drop i) i n d f).2, ()) st) := by
      simp only [depthL]; rw [if_pos hg]; rfl
    rw [hdef]
    refine k_note (φ := sl.2.1 = l.length) (fun F hF => (hF (Sl 4 encTok sl l) (by repeat (first | exact List.mem_cons_self .. | apply List.mem_cons_of_mem))).1) fun hlen => k_ite (fun h => ?_) (fun h => ?_)
    · have hi : i < l.length := lt_of_dec hlen h
      refine k_note (φ := ∃ a, sl.1 = some a ∧ a.spot = none) (fun F hF => Sl.addr (hF (Sl 4 encTok sl l) (by repeat (first | exact List.mem_cons_self .. | apply List.mem_cons_of_mem))) (by omega)) fun ⟨a, ha, hsp⟩ => ?_
      have hget : l[i]? = some l[i] := List.getElem?_eq_getElem hi
      refine k_loc (loc_idx (n := 4) (f := encTok) ha (fun F hF => hF (Sl 4 encTok sl l) (by repeat (first | exact List.mem_cons_self .. | apply List.mem_cons_of_mem))) (by kernel_rfl) i rfl hi) ?_
      rintro _ _ _ ⟨rfl, rfl, rfl⟩
      refine k_loc (loc_elemA (bs := bsTok) (f := encTok) encTok_len ha (fun F hF => hF (Sl 4 encTok sl l) (by repeat (first | exact List.mem_cons_self .. | apply List.mem_cons_of_mem))) hget (by kernel_rfl) l[i] rfl) ?_
      rintro _ _ _ ⟨rfl, rfl, rfl⟩
      refine k_varT l[i] fun b4 => k_ldT l[i] (List.mem_cons_self ..) ?_
      refine k_val (turn_m _ l[i]) (fun _ h => nomatch h) ?_
      have ht := turn_le l[i]
      have hnl : n ≤ (i : Int) := hg.2.1
      rw [wrap_id (n := n + turnI l[i]) (by omega) (by omega), wrap_id (n := (i : Int) + 1) (by omega) (by omega)]
      have hdrop : l.drop i = l[i] :: l.drop (i + 1) := List.drop_eq_getElem_cons hi
      have next : ∀ m d' f', m = (if n + turnI l[i] > 0 then n + turnI l[i] else 0) → d' = (if m > d then m else d) → f' = (if m > most ∧ f < 0 then (i : Int) else f) →
          some (Res.ok ((depthGo most (l.drop i) i n d f).1, (depthGo most (l.drop i) i n d f).2, ()) st) = (depthL most l k m d' f' ((i : Int) + 1) : Sp ε Unit _) st := by
        intro m d' f' hm hd hf
        have e1 : depthGo most (l.drop i) i n d f = depthGo most (l.drop (i + 1)) (i + 1) m d' f' := by
          rw [hdrop]
          show depthGo most (l.drop (i + 1)) (i + 1) (if n + turnI l[i] > 0 then n + turnI l[i] else 0) _ _ = _
          rw [← hm, ← hd, ← hf]
        simp only [depthL]
        rw [show ((i : Int) + 1).toNat = i + 1 by omega, e1, if_pos ?_]
        refine ⟨?_, ?_, by omega, by omega, by have := hg.2.2.2.2; simp only [Int.toNat_natCast] at this; omega⟩
        · rw [hm]; split <;> omega
        · rw [hm]; split <;> omega
      let M : Int := if n + turnI l[i] > 0 then n + turnI l[i] else 0
      let D : Int := if M > d then M else d
      refine k_drop (L' := []) (List.nil_sublist _) (k_ite (fun h1 => ?_) (fun h1 => ?_))
      · have h1' : M > most := of_decide_eq_true h1
        refine k_ite (fun h2 => ?_) (fun h2 => ?_)
        · have h2' : f < 0 := of_decide_eq_true h2
          refine k_outR (sp := fun k (y : HC [.b (.int .i64), .b (.int .i64), .b (.int .i64), .b (.int .i64)]) => depthL most l k y.1 y.2.1 y.2.2.1 y.2.2.2.1) (M, D, (i : Int), (i : Int) + 1, ()) lbR0 rfl ?_
          exact next M D i rfl rfl (if_pos (c := M > most ∧ f < 0) ⟨h1', h2'⟩).symm
        · have h2' : ¬ f < 0 := of_decide_eq_false h2
          refine k_outR (sp := fun k (y : HC [.b (.int .i64), .b (.int .i64), .b (.int .i64), .b (.int .i64)]) => depthL most l k y.1 y.2.1 y.2.2.1 y.2.2.2.1) (M, D, f, (i : Int) + 1, ()) lbR0 rfl ?_
          exact next M D f rfl rfl (if_neg (c := M > most ∧ f < 0) (fun h => h2' h.2)).symm
      · have h1' : ¬ M > most := of_decide_eq_false h1
        refine k_outR (sp := fun k (y : HC [.b (.int .i64), .b (.int .i64), .b (.int .i64), .b (.int .i64)]) => depthL most l k y.1 y.2.1 y.2.2.1 y.2.2.2.1) (M, D, f, (i : Int) + 1, ()) lbR0 rfl ?_
        exact next M D f rfl rfl (if_neg (c := M > most ∧ f < 0) (fun h => h1' h.1)).symm
    · have hi : ¬ i < l.length := ge_of_dec hlen h
      have hd : l.drop i = [] := List.drop_eq_nil_of_le (by omega)
      rw [hd]
      exact k_ret (t := tII) (d, f, ()) (d, f, ()) rfl (fun r w F H _ _ => by rw [run_resR2]; rfl) fun F hF => rfl
def numOkB (t : Tok) : Bool := (t.kind != 3 || (decide (t.text.size ≤ 18) && (Lib.atoi t.text.data.toList).isSome)) && decide (t.text.size ≤ 4194304)
def okB (l : List Tok) : Bool := decide (0 < l.length) && decide (l.length ≤ 1099511627776) && l.all numOkB
theorem numOkB_spec {t : Tok} (h : numOkB t = true) : numOk t := by
  simp only [numOkB, Bool.and_eq_true, Bool.or_eq_true, decide_eq_true_eq] at h
  refine ⟨fun hk => ?_, h.2⟩
  rcases h.1 with h1 | h1
  · rw [hk] at h1; exact absurd h1 (by decide)
  · exact h1
theorem okB_spec {l : List Tok} (h : okB l = true) : (st0 l).ok := by
  simp only [okB, Bool.and_eq_true, decide_eq_true_eq] at h
  exact ⟨h.1.1, h.1.2, ⟨fun h => absurd (show (0 : Int) = 3 from h) (by decide), show (0 : Nat) ≤ 4194304 by decide⟩, fun t ht => numOkB_spec (List.all_eq_true.1 h.2 t ht)⟩
def wholeV (fuel : Nat) (b : ByteArray) (kind : Int) : Option (Sum (Int × Int) (List FN)) := match tokensV b with
  | none => none
  | some (.inl p) => if p.2 != 0 then some (.inl p) else none
  | some (.inr l) =>
    if okB l then
      if decide ((depthGo 64 l 0 0 0 (-1)).2 ≥ 0) then (match l[(depthGo 64 l 0 0 0 (-1)).2.toNat]? with
        | some t => some (.inl (t.pos, 5))
        | none => none)
      else match runV fuel l kind with
        | none => none
        | some (.inl at_) => some (.inl (at_, 6))
        | some (.inr ns) => some (.inr ns)
    else none
abbrev tWhole : Ty := .tup [.agg [.slice], .b (.int .i64), .b (.int .i64)]
def WholeR (v : Sum (Int × Int) (List FN)) (x : tWhole.den) (K : Own) : Fact := match v with
  | .inl p => Fact.prop (x = (((none, 0, 0), ()), p.1, p.2, ()) ∧ K = [])
  | .inr ns => (Fact.prop (x.2 = (0, 0, ()))).both (TreeO ns x.1 K)
def wholeS (fuel : Nat) (b : ByteArray) (kind : Int) {ε σ : Type} : Sp ε σ (Sum (Int × Int) (List FN)) := fun st => (wholeV fuel b kind).map fun v => .ok v st
theorem qfield {q : Quiet} {sl : SlD} {l : List Tok} {a : Addr} {i : Nat} {t : Tok} (ha : sl.1 = some a) (hs : a.spot = none) (hF : ∀ F, Holds q.Γ F → (Sl 4 encTok sl l).p F) (hg : l[i]? = some t) :
    QVal PG q (ldS T_int (.pointer (some ⟨(a.add (i * 4)).block, (a.add (i * 4)).off + 2, none⟩))) (.int .i64 t.pos) := by
  intro K hK _ w hw
  obtain ⟨a', cs, T0, h1, h2, h3, h4⟩ := Sl.elem encTok_len (hF K hK) hg
  rw [ha] at h1; cases h1
  obtain ⟨x1, x2, x3⟩ := addr_add a hs (i * 4)
  refine run_ld1 (T0 := T0) (l := cs) (by kernel_rfl) (by rw [show (⟨(a.add (i * 4)).block, (a.add (i * 4)).off + 2, none⟩ : Addr).block = a.block from x1]; exact hw _ _ h3) rfl ?_
  show cs[(a.add (i * 4)).off + 2]? = _
  rw [x2]
  have e : ((cs.drop (a.off + i * 4)).take 4)[2]? = (encTok t)[2]? := by rw [h4]
  rw [List.getElem?_take, if_pos (by decide), List.getElem?_drop] at e
  exact e
theorem k_retW {ε σ β : Type} {I : Ifc ε σ} {Rel : β → tWhole.den → Own → Fact} {Δ : Labels ε σ β} {md : Mode} {L1 L2 : Own} {L : Own} {Γ : List Fact} {st : σ} {run : Option (Res ε σ β)} {b1 : Nat} {x0 x : SlD} {y z : Int} (v : β) (K : Own)
    (hL : L = L1 ++ (b1, blk T_api_Tree [.slice x0.1 x0.2.1 x0.2.2]) :: L2) (hK : K.Sublist (L1 ++ (b1, blk T_api_Tree [.slice x.1 x.2.1 x.2.2]) :: L2)) (hrun : run = some (.ok v st)) (h : ∀ F, Holds Γ F → (Rel v ((x, ()), y, z, ()) K).p F) :
    SimK PG I tWhole Rel Δ md st (.op (stS T_api_Tree (.pointer (some ⟨b1, 0, none⟩)) (.agg #[.slice x.1 x.2.1 x.2.2])) tU fun _ => .ret #[.c (.pointer (some ⟨b1, 0, none⟩)) T_api_Tree, .v (.int .i64 y), .v (.int .i64 z)]) run L Γ := by
  refine k_loc (loc_st (L1 := L1) (L2 := L2) (l := [.slice x0.1 x0.2.1 x0.2.2]) (T := T_api_Tree) (T0 := T_api_Tree) (c := true) hL (by kernel_rfl) rfl (Nat.le_of_ble_eq_true rfl) (by simp [Value.cells, Value.oneCell'])) ?_
  rintro _ _ _ ⟨rfl, rfl⟩
  refine k_retO v K ((x, ()), y, z, ()) hK hrun (fun r w F H hF hsp => ?_) h
  exact run_resRcA2 (a := ⟨b1, 0, none⟩) (T0 := T_api_Tree) (l := [.slice x.1 x.2.1 x.2.2]) (vs := [.slice x.1 x.2.1 x.2.2]) (by kernel_rfl) (hsp.own _ _ (List.mem_append_right _ (List.mem_append_right _ (List.mem_cons_self ..)))) rfl rfl
theorem whole_m {ε σ : Type} (I : Ifc ε σ) (fuel : Nat) (hfuel : fuel ≤ 549755813888) (sl : SlD) (b : ByteArray) (hb : b.size ≤ 17179869184) (kind : Int) (hk : kind = 0 ∨ kind = 1 ∨ kind = 2) :
    MeetsO PG I (callS F_parse_whole #[.slice sl.1 sl.2.1 sl.2.2, .int .i64 kind]) tWhole (wholeS fuel b kind) WholeR [ByF sl b, MxF] := by
  refine c_parse_whole sl kind (k_open fun st => ?_)
  unfold t_parse_whole
  refine k_loc (loc_alloc (z := [.slice none 0 0]) (by kernel_rfl)) ?_
  rintro _ _ _ ⟨b1, rfl, rfl, rfl⟩
  cases htok : tokensV b with
  | none => exact k_none (by simp only [wholeS, wholeV, htok]; rfl)
  | some v =>
  refine k_call (tokens_m I sl b hb) (fun A h => h) (fun h => by simp only [tokensS, htok] at h; cases h) (fun e h => by simp only [tokensS, htok] at h; cases h) fun x v' st' h => ?_
  simp only [tokensS, htok, Option.map_some, Option.some.injEq, Res.ok.injEq] at h
  obtain ⟨rfl, rfl⟩ := h
  cases v with
  | inl p =>
    refine k_fact fun F0 hx => ?_
    obtain rfl : x = ((none, 0, 0), p.1, p.2, ()) := hx
    cases hp : (p.2 != 0) with
    | false => exact k_none (by simp only [wholeS, wholeV, htok, hp]; rfl)
    | true =>
    refine k_ite (fun _ => ?_) (fun h => by cases h)
    exact k_retW (L1 := []) (L2 := []) (x0 := (none, 0, 0)) (x := (none, 0, 0)) (.inl p) [] rfl (List.nil_sublist _) (by simp only [wholeS, wholeV, htok, hp]; rfl) fun F hF => ⟨rfl, rfl⟩
  | inr l =>
    refine k_ex fun sl2 => k_both (k_fact fun F0 hx => ?_)
    obtain rfl : x = (sl2, 0, 0, ()) := hx
    refine k_ite (fun h => by cases h) (fun _ => ?_)
    cases hok : okB l with
    | false => exact k_none (by simp only [wholeS, wholeV, htok, hok]; rfl)
    | true =>
    have hst := okB_spec hok
    refine k_val (depth_m sl2 l hst.2.1 64) (by simp) ?_
    have hW : (wholeS fuel b kind : Sp ε σ _) st = (if decide ((depthGo 64 l 0 0 0 (-1)).2 ≥ 0) then (match l[(depthGo 64 l 0 0 0 (-1)).2.toNat]? with
        | some t => some (Sum.inl (t.pos, (5 : Int)))
        | none => none)
      else match runV fuel l kind with
        | none => none
        | some (.inl at_) => some (.inl (at_, 6))
        | some (.inr ns) => some (.inr ns)).map fun v => .ok v st := by simp only [wholeS, wholeV, htok, hok, if_true]
    rw [hW]
    refine k_ite (fun h => ?_) (fun h => ?_)
    · have h' : decide ((depthGo 64 l 0 0 0 (-1)).2 ≥ 0) = true := h
      have h0 : (0 : Int) ≤ (depthGo 64 l 0 0 0 (-1)).2 := of_decide_eq_true h'
      rw [if_pos h']
      obtain ⟨i, hi⟩ := Int.eq_ofNat_of_zero_le h0
      rw [hi, Int.toNat_natCast]
      cases hg : l[i]? with
      | none => exact k_none rfl
      | some t =>
      have hlt : i < l.length := (List.getElem?_eq_some_iff.1 hg).1
      refine k_note (φ := ∃ a, sl2.1 = some a ∧ a.spot = none) (fun F hF => Sl.addr (hF (Sl 4 encTok sl2 l) (by repeat (first | exact List.mem_cons_self .. | apply List.mem_cons_of_mem))) (by omega)) fun ⟨a, ha, hsp⟩ => ?_
      refine k_draw [] (fun _ h => nomatch h) ?_
      refine k_opq (t1 := tA) (a.add (i * 4)) (qidx (n := 4) (f := encTok) encTok_len ha (fun F hF => hF (Sl 4 encTok sl2 l) (by repeat (first | exact List.mem_cons_self .. | apply List.mem_cons_of_mem))) (by kernel_rfl) i rfl hlt) ?_
      refine k_opq (t1 := tI) t.pos (qfield ha hsp (fun F hF => hF (Sl 4 encTok sl2 l) (by repeat (first | exact List.mem_cons_self .. | apply List.mem_cons_of_mem))) hg) ?_
      refine k_locl (loc_st (L1 := []) (L2 := []) (l := [.slice none 0 0]) (T := T_api_Tree) (T0 := T_api_Tree) (c := true) rfl (by kernel_rfl) rfl (Nat.le_of_ble_eq_true rfl) (by simp [Value.cells, Value.oneCell'])) ?_
      rintro _ _ _ ⟨rfl, rfl⟩
      refine ⟨(fun _ h => nomatch h), ?_⟩
      refine k_retO (.inl (t.pos, 5)) [] (((none, 0, 0), ()), t.pos, 5, ()) (List.nil_sublist _) rfl (fun r w F H hF hsp => ?_) fun F hF => ⟨rfl, rfl⟩
      exact run_resRcA2 (a := ⟨b1, 0, none⟩) (T0 := T_api_Tree) (l := [.slice none 0 0]) (vs := [.slice none 0 0]) (by kernel_rfl) (hsp.own _ _ (List.mem_append_right _ (List.mem_cons_self ..))) rfl rfl
    · have h' : decide ((depthGo 64 l 0 0 0 (-1)).2 ≥ 0) = false := h
      rw [if_neg (by rw [h']; decide)]
      refine k_callO (run_m number_m I fuel hfuel sl2 l hst kind hk) (by simp) (fun h => ?_) (fun e h => ?_) fun x v K st' h => ?_
      · cases hr : runV fuel l kind with
        | none => rfl
        | some v => simp only [runTop, hr] at h; cases h
      · simp only [runTop] at h
        split at h <;> cases h
      cases hr : runV fuel l kind with
      | none => simp only [runTop, hr] at h; cases h
      | some v2 =>
      simp only [runTop, hr, Option.some.injEq, Res.ok.injEq] at h
      obtain ⟨rfl, rfl⟩ := h
      cases v2 with
      | inl y =>
        refine k_fact fun F0 hx => ?_
        obtain ⟨rfl, rfl⟩ := hx
        refine k_loc (loc_alloc (z := [.slice none 0 0]) (by kernel_rfl)) ?_
        rintro _ _ _ ⟨b9, rfl, rfl, rfl⟩
        refine k_loc (loc_st (L1 := []) (l := [.slice none 0 0]) (T := T_api_Tree) (T0 := T_api_Tree) (c := true) rfl (by kernel_rfl) rfl (Nat.le_of_ble_eq_true rfl) (by simp [Value.cells, Value.oneCell'])) ?_
        rintro _ _ _ ⟨rfl, rfl⟩
        refine k_ite (fun _ => ?_) (fun h => by cases h)
        exact k_retW (L1 := [_]) (L2 := []) (x0 := (none, 0, 0)) (x := (none, 0, 0)) (.inl (y, 6)) [] rfl (List.nil_sublist _) rfl fun F hF => ⟨rfl, rfl⟩
      | inr ns =>
        obtain ⟨⟨x, ⟨⟩⟩, x2⟩ := x
        refine k_both (k_fact fun F0 hx => ?_)
        obtain rfl : x2 = (0, true, ()) := hx
        refine k_loc (loc_alloc (z := [.slice none 0 0]) (by kernel_rfl)) ?_
        rintro _ _ _ ⟨b9, rfl, rfl, rfl⟩
        refine k_loc (loc_st (L1 := []) (l := [.slice none 0 0]) (T := T_api_Tree) (T0 := T_api_Tree) (c := true) rfl (by kernel_rfl) rfl (Nat.le_of_ble_eq_true rfl) (by simp [Value.cells, Value.oneCell'])) ?_
        rintro _ _ _ ⟨rfl, rfl⟩
        refine k_ite (fun h => by cases h) (fun _ => ?_)
        refine k_loc (loc_ldA (bs := [.slice]) (l := [.slice x.1 x.2.1 x.2.2]) (T0 := T_api_Tree) (x, ()) (Rd.own (List.mem_cons_self ..)) (by kernel_rfl) rfl rfl) ?_
        rintro _ _ _ ⟨rfl, rfl, rfl⟩
        refine k_retW (L1 := (b9, blk T_api_Tree [.slice x.1 x.2.1 x.2.2]) :: K) (L2 := []) (x0 := (none, 0, 0)) (x := x) (.inr ns) K rfl ?_ rfl fun F hF => ⟨rfl, hF (TreeO ns (x, ()) K) (by repeat (first | exact List.mem_cons_self .. | apply List.mem_cons_of_mem))⟩
        exact ((List.sublist_append_left K _).cons _)
theorem wholeS_st {ε σ : Type} {fuel : Nat} {b : ByteArray} {kind : Int} {st st' : σ} {v : Sum (Int × Int) (List FN)} (h : (wholeS fuel b kind : Sp ε σ _) st = some (.ok v st')) : st' = st := by
  simp only [wholeS, Option.map_eq_some_iff] at h
  obtain ⟨_, _, h⟩ := h
  cases h; rfl
theorem pProgram_m {ε σ : Type} (I : Ifc ε σ) (fuel : Nat) (hfuel : fuel ≤ 549755813888) (sl : SlD) (b : ByteArray) (hb : b.size ≤ 17179869184) : MeetsO PG I (callS F_parse_Program #[.slice sl.1 sl.2.1 sl.2.2]) tWhole (wholeS fuel b 0) WholeR [ByF sl b, MxF] := by
  refine c_parse_Program sl (k_open fun st => ?_)
  unfold t_parse_Program
  refine k_loc (loc_alloc (z := [.slice none 0 0]) (by kernel_rfl)) ?_
  rintro _ _ _ ⟨b1, rfl, rfl, rfl⟩
  refine k_callO (whole_m I fuel hfuel sl b hb 0 (.inl rfl)) (fun A h => h) (fun h => h) (fun e h => h) fun x v K st' h => ?_
  obtain ⟨⟨x, ⟨⟩⟩, y, z, ⟨⟩⟩ := x
  rw [h]
  exact k_retW (L1 := K) (L2 := []) (x0 := (none, 0, 0)) (x := x) v K rfl (List.sublist_append_left _ _) (by rw [wholeS_st h]) fun F hF => hF _ (List.mem_cons_self ..)
theorem pExpr_m {ε σ : Type} (I : Ifc ε σ) (fuel : Nat) (hfuel : fuel ≤ 549755813888) (sl : SlD) (b : ByteArray) (hb : b.size ≤ 17179869184) : MeetsO PG I (callS F_parse_Expr #[.slice sl.1 sl.2.1 sl.2.2]) tWhole (wholeS fuel b 1) WholeR [ByF sl b, MxF] := by
  refine c_parse_Expr sl (k_open fun st => ?_)
  unfold t_parse_Expr
  refine k_loc (loc_alloc (z := [.slice none 0 0]) (by kernel_rfl)) ?_
  rintro _ _ _ ⟨b1, rfl, rfl, rfl⟩
  refine k_callO (whole_m I fuel hfuel sl b hb 1 (.inr (.inl rfl))) (fun A h => h) (fun h => h) (fun e h => h) fun x v K st' h => ?_
  obtain ⟨⟨x, ⟨⟩⟩, y, z, ⟨⟩⟩ := x
  rw [h]
  exact k_retW (L1 := K) (L2 := []) (x0 := (none, 0, 0)) (x := x) v K rfl (List.sublist_append_left _ _) (by rw [wholeS_st h]) fun F hF => hF _ (List.mem_cons_self ..)
end Go.Proofs.YtjlgcpgjdgeejaaGreatDoor
end

/- The trees of functions of the program, each with the proof that it is the tree of the translated code. Conditions: none. By program. -/
section
namespace Go.Proofs.YtjlgcpgjdgeejaaGreatDoor
open Go
set_option linter.unusedVariables false
set_option maxRecDepth 100000
noncomputable section
def an_law4_known : An :=
  .s (.r [none]) (.s (.r [some tSl, some tSl, some (.tup [.agg [.slice], .b (.int .i64), .b (.int .i64)]), none, none, none, none, some tA, some tU, none, none]) (.s (.r [none, none, none, none, some tSl, none, none, none, none, none, some tSl, some tA, none, some tI, none, none, none, none, some tSl, some tA, none, some tI, none, none, none, none, some tSl, some tA, none, some tI, none, none, none]) (.x)))
def t_law4_known  : T :=
  .op (sliceS T_Suint8 5 #[(0, .int .u8 102), (1, .int .u8 40), (2, .int .u8 49), (3, .int .u8 41), (4, .int .u8 59)]) tSl fun r1 =>
  .op (cvS T_Suint8 T_Suint8 (.slice r1.1 r1.2.1 r1.2.2)) tSl fun r2 =>
  .op (callS F_parse_Program #[.slice r2.1 r2.2.1 r2.2.2]) (.tup [.agg [.slice], .b (.int .i64), .b (.int .i64)]) fun r3 =>
  .op (allocS T_api_Tree) tA fun r4 =>
  .op (stS T_api_Tree (.pointer (some r4)) (.agg #[.slice r3.1.1.1 r3.1.1.2.1 r3.1.1.2.2])) tU fun _ =>
  .ite ((r3.2.2.1 : Int) == 0) (
    .op (ldS T_Sapi_Node (.pointer (some r4))) tSl fun r6 =>
    .ite (((r6.2.1 : Int) : Int) == 7) (
      .op (ldS T_Sapi_Node (.pointer (some r4))) tSl fun r7 =>
      .op (idxAS T_Sapi_Node (.slice r7.1 r7.2.1 r7.2.2) (.int .i64 1)) tA fun r8 =>
      .op (ldS T_int (.pointer (some r8))) tI fun r9 =>
      .ite ((r9 : Int) == 64) (
        .op (ldS T_Sapi_Node (.pointer (some r4))) tSl fun r10 =>
        .op (idxAS T_Sapi_Node (.slice r10.1 r10.2.1 r10.2.2) (.int .i64 2)) tA fun r11 =>
        .op (ldS T_int (.pointer (some r11))) tI fun r12 =>
        .ite ((r12 : Int) == 27) (
          .op (ldS T_Sapi_Node (.pointer (some r4))) tSl fun r13 =>
          .op (idxAS T_Sapi_Node (.slice r13.1 r13.2.1 r13.2.2) (.int .i64 6)) tA fun r14 =>
          .op (ldS T_int (.pointer (some ⟨r14.block, r14.off + 2, none⟩))) tI fun r15 =>
          .ret #[.v (.bool ((r15 : Int) == 1))]) (
          .ret #[.v (.bool false)])) (
        .ret #[.v (.bool false)])) (
      .ret #[.v (.bool false)])) (
    .ret #[.v (.bool false)])
theorem d_law4_known  : fnT Tryz.prog Tryz.f21 an_law4_known [] = t_law4_known  := by kernel_rfl
theorem c_law4_known {ε σ β : Type} {I : Ifc ε σ} {t : Ty} {s : Sp ε σ β} {Rel : β → t.den → Own → Fact} {Γ : List Fact}  (h : Sim Tryz.prog I t Rel noLabel none (t_law4_known ) s [] Γ) : MeetsO Tryz.prog I (callS F_law4_known #[]) t s Rel Γ :=
  meets_of_sim (args := []) Tryz.func21 rfl rfl (Nat.le_of_ble_eq_true rfl) (by rw [d_law4_known]; exact h)

def an_law4_ParseLeft : An :=
  .s (.r [none]) (.s (.r [some tSl, none]) (.s (.r [some tSl, none]) (.s (.r [none, none, none, some tI, none]) (.s (.r [none, none, none, some tI, none]) (.s (.s (.r [none, none]) (.j [(7, .b (.int .i64))] (.c (.r [none, none, none, none, none]) (.x)))) (.s (.s (.r [none, none]) (.j [(8, .b (.int .i64))] (.c (.r [none, none, none, none, none]) (.x)))) (.s (.j [(9, .b .addr), (11, .b (.int .i64))] (.d (.q 0 none (.q 1 none (.q 2 (some tA) (.q 3 (some tS) (.q 4 (some tS) (.q 5 (some tS) (.q 6 none (.q 7 none (.q 8 (some tA) (.q 9 (some tS) (.q 10 (some tS) (.q 11 (some tS) (.l2 12 (some tSl) (.l2 13 (some (.tup [.agg [.slice], .b (.int .i64), .b (.int .i64)])) (.q 14 none (.q 15 none (.q 16 none (.q 17 none (.l 18 (some tA) (.l 19 (some tU) (.q 20 none (.q 21 none (.e))))))))) 18 (some tA) (.l 13 (some (.tup [.agg [.slice], .b (.int .i64), .b (.int .i64)])) (.q 14 none (.q 15 none (.q 16 none (.q 17 none (.l 19 (some tU) (.q 20 none (.q 21 none (.e)))))))))) 18 (some tA) (.l 12 (some tSl) (.l 13 (some (.tup [.agg [.slice], .b (.int .i64), .b (.int .i64)])) (.q 14 none (.q 15 none (.q 16 none (.q 17 none (.l 19 (some tU) (.q 20 none (.q 21 none (.e))))))))))))))))))))))))) (.s (.s (.j [(59, .b .bool)] (.r [none, none, none, none, some tSl, none, none, none])) (.c (.s (.r [none]) (.x)) (.x))) (.s (.s (.d (.q 0 none (.q 1 none (.q 2 (some tA) (.q 3 (some tI) (.q 4 none (.q 5 none (.q 6 (some tA) (.q 7 (some tI) (.q 8 none (.e))))))))))) (.c (.s (.d (.q 0 none (.q 1 (some tSl) (.q 2 (some tA) (.q 3 none (.q 4 (some tS) (.q 5 none (.q 6 none (.q 7 (some tA) (.q 8 (some tS) (.q 9 none (.q 10 none (.q 11 none (.q 12 (some tSl) (.q 13 (some tA) (.q 14 none (.q 15 (some tI) (.q 16 none (.q 17 none (.q 18 none (.q 19 none (.q 20 (some tSl) (.q 21 (some tA) (.q 22 none (.q 23 (some tS) (.q 24 none (.q 25 none (.q 26 (some tA) (.q 27 (some tS) (.q 28 none (.q 29 none (.q 30 none (.l 31 (some tB) (.q 32 none (.q 33 none (.e)))))))))))))))))))))))))))))))))))) (.x)) (.x))) (.s (.d (.q 0 none (.q 1 (some tSl) (.q 2 (some tA) (.q 3 none (.q 4 (some tS) (.q 5 none (.q 6 none (.q 7 (some tA) (.q 8 (some tS) (.q 9 none (.q 10 none (.q 11 none (.q 12 (some tSl) (.q 13 (some tA) (.q 14 none (.q 15 (some tS) (.q 16 none (.q 17 none (.q 18 (some tA) (.q 19 (some tS) (.q 20 none (.q 21 none (.q 22 none (.q 23 none (.q 24 (some tSl) (.q 25 (some tA) (.q 26 none (.q 27 (some tS) (.q 28 none (.q 29 none (.q 30 none (.l 31 (some tB) (.q 32 none (.q 33 none (.e)))))))))))))))))))))))))))))))))))) (.x)))))))))))
def t_law4_ParseLeft (a0_a0 : Int) (a1_a1 : Int) : T :=
  .op (sliceS T_Sstring 19 #[(0, .string k_bar_bar), (1, .string k_amp_amp), (2, .string k_bar), (3, .string k_caret), (4, .string k_amp), (5, .string k_eq_eq_eq), (6, .string k_bang_eq_eq), (7, .string k_lt), (8, .string k_lt_eq), (9, .string k_gt), (10, .string k_gt_eq), (11, .string kin), (12, .string k_lt_lt), (13, .string k_gt_gt), (14, .string k_gt_gt_gt), (15, .string k_plus), (16, .string k_minus), (17, .string k_star), (18, .string k_pct)]) tSl fun r1 =>
  .op (sliceS T_Sint 19 #[(0, .int .i64 2), (1, .int .i64 3), (2, .int .i64 4), (3, .int .i64 5), (4, .int .i64 6), (5, .int .i64 7), (6, .int .i64 7), (7, .int .i64 8), (8, .int .i64 8), (9, .int .i64 8), (10, .int .i64 8), (11, .int .i64 8), (12, .int .i64 9), (13, .int .i64 9), (14, .int .i64 9), (15, .int .i64 10), (16, .int .i64 10), (17, .int .i64 11), (18, .int .i64 11)]) tSl fun r2 =>
  .op (binS .rem T_int (.int .i64 a0_a0) (.int .i64 (r1.2.1 : Int))) tI fun r3 =>
  .op (binS .rem T_int (.int .i64 a1_a1) (.int .i64 (r1.2.1 : Int))) tI fun r4 =>
  .join 0 [.b (.int .i64)] (
    .ite (decide ((r3 : Int) < 0)) (
      .out 0 [.int .i64 (IntKind.i64.wrap (r3 + (r1.2.1 : Int)))]) (
      .out 0 [.int .i64 r3])) fun x5 =>
  .join 0 [.b (.int .i64)] (
    .ite (decide ((r4 : Int) < 0)) (
      .out 0 [.int .i64 (IntKind.i64.wrap (r4 + (r1.2.1 : Int)))]) (
      .out 0 [.int .i64 r4])) fun x6 =>
  .join 0 [.b .addr, .b (.int .i64)] (
    .draw <|
    .opq (idxAS T_Sstring (.slice r1.1 r1.2.1 r1.2.2) (.int .i64 x5.1)) tA fun r7 =>
    .opq (ldS T_string (.pointer (some r7))) tS fun r8 =>
    .opq (binS .add T_string (.string kx_sp) (.string r8)) tS fun r9 =>
    .opq (binS .add T_string (.string r9) (.string k_sp_y_sp)) tS fun r10 =>
    .opq (idxAS T_Sstring (.slice r1.1 r1.2.1 r1.2.2) (.int .i64 x6.1)) tA fun r11 =>
    .opq (ldS T_string (.pointer (some r11))) tS fun r12 =>
    .opq (binS .add T_string (.string r10) (.string r12)) tS fun r13 =>
    .opq (binS .add T_string (.string r13) (.string k_sp_z)) tS fun r14 =>
    .both (
      .opl (cvS T_string T_Suint8 (.string r14)) tSl fun r15 =>
      .both (
        .opl (callS F_parse_Expr #[.slice r15.1 r15.2.1 r15.2.2]) (.tup [.agg [.slice], .b (.int .i64), .b (.int .i64)]) fun r16 =>
        .opl (allocS T_api_Tree) tA fun r17 =>
        .opl (stS T_api_Tree (.pointer (some r17)) (.agg #[.slice r16.1.1.1 r16.1.1.2.1 r16.1.1.2.2])) tU fun _ =>
        .out 0 [.pointer (some r17), .int .i64 r16.2.2.1]) (
        .opl (allocS T_api_Tree) tA fun r19 =>
        .opl (callS F_parse_Expr #[.slice r15.1 r15.2.1 r15.2.2]) (.tup [.agg [.slice], .b (.int .i64), .b (.int .i64)]) fun r20 =>
        .opl (stS T_api_Tree (.pointer (some r19)) (.agg #[.slice r20.1.1.1 r20.1.1.2.1 r20.1.1.2.2])) tU fun _ =>
        .out 0 [.pointer (some r19), .int .i64 r20.2.2.1])) (
      .opl (allocS T_api_Tree) tA fun r22 =>
      .opl (cvS T_string T_Suint8 (.string r14)) tSl fun r23 =>
      .opl (callS F_parse_Expr #[.slice r23.1 r23.2.1 r23.2.2]) (.tup [.agg [.slice], .b (.int .i64), .b (.int .i64)]) fun r24 =>
      .opl (stS T_api_Tree (.pointer (some r22)) (.agg #[.slice r24.1.1.1 r24.1.1.2.1 r24.1.1.2.2])) tU fun _ =>
      .out 0 [.pointer (some r22), .int .i64 r24.2.2.1])) fun x26 =>
  .join 0 [.b .bool] (
    .ite ((x26.2.1 : Int) != 0) (
      .out 0 [.bool true]) (
      .op (ldS T_Sapi_Node (.pointer (some x26.1))) tSl fun r27 =>
      .out 0 [.bool (((r27.2.1 : Int) : Int) != 5)])) fun x28 =>
  .ite x28.1 (
    .ret #[.v (.bool false)]) (
    .draw <|
    .opq (idxAS T_Sint (.slice r2.1 r2.2.1 r2.2.2) (.int .i64 x6.1)) tA fun r29 =>
    .opq (ldS T_int (.pointer (some r29))) tI fun r30 =>
    .opq (idxAS T_Sint (.slice r2.1 r2.2.1 r2.2.2) (.int .i64 x5.1)) tA fun r31 =>
    .opq (ldS T_int (.pointer (some r31))) tI fun r32 =>
    .ite (decide ((r30 : Int) > r32)) (
      .draw <|
      .opq (ldS T_Sapi_Node (.pointer (some x26.1))) tSl fun r33 =>
      .opq (idxAS T_Sapi_Node (.slice r33.1 r33.2.1 r33.2.2) (.int .i64 0)) tA fun r34 =>
      .opq (ldS T_string (.pointer (some ⟨r34.block, r34.off + 1, none⟩))) tS fun r35 =>
      .opq (idxAS T_Sstring (.slice r1.1 r1.2.1 r1.2.2) (.int .i64 x5.1)) tA fun r36 =>
      .opq (ldS T_string (.pointer (some r36))) tS fun r37 =>
      .ite (r35.toList == r37.toList) (
        .opq (ldS T_Sapi_Node (.pointer (some x26.1))) tSl fun r38 =>
        .opq (idxAS T_Sapi_Node (.slice r38.1 r38.2.1 r38.2.2) (.int .i64 1)) tA fun r39 =>
        .opq (ldS T_int (.pointer (some r39))) tI fun r40 =>
        .ite ((r40 : Int) == 17) (
          .opq (ldS T_Sapi_Node (.pointer (some x26.1))) tSl fun r41 =>
          .opq (idxAS T_Sapi_Node (.slice r41.1 r41.2.1 r41.2.2) (.int .i64 2)) tA fun r42 =>
          .opq (ldS T_string (.pointer (some ⟨r42.block, r42.off + 1, none⟩))) tS fun r43 =>
          .opq (idxAS T_Sstring (.slice r1.1 r1.2.1 r1.2.2) (.int .i64 x6.1)) tA fun r44 =>
          .opq (ldS T_string (.pointer (some r44))) tS fun r45 =>
          .ite (r43.toList == r45.toList) (
            .opl (callS F_law4_known #[]) tB fun r46 =>
            .ret #[.v (.bool r46)]) (
            .ret #[.v (.bool false)])) (
          .ret #[.v (.bool false)])) (
        .ret #[.v (.bool false)])) (
      .draw <|
      .opq (ldS T_Sapi_Node (.pointer (some x26.1))) tSl fun r47 =>
      .opq (idxAS T_Sapi_Node (.slice r47.1 r47.2.1 r47.2.2) (.int .i64 0)) tA fun r48 =>
      .opq (ldS T_string (.pointer (some ⟨r48.block, r48.off + 1, none⟩))) tS fun r49 =>
      .opq (idxAS T_Sstring (.slice r1.1 r1.2.1 r1.2.2) (.int .i64 x6.1)) tA fun r50 =>
      .opq (ldS T_string (.pointer (some r50))) tS fun r51 =>
      .ite (r49.toList == r51.toList) (
        .opq (ldS T_Sapi_Node (.pointer (some x26.1))) tSl fun r52 =>
        .opq (idxAS T_Sapi_Node (.slice r52.1 r52.2.1 r52.2.2) (.int .i64 1)) tA fun r53 =>
        .opq (ldS T_string (.pointer (some ⟨r53.block, r53.off + 1, none⟩))) tS fun r54 =>
        .opq (idxAS T_Sstring (.slice r1.1 r1.2.1 r1.2.2) (.int .i64 x5.1)) tA fun r55 =>
        .opq (ldS T_string (.pointer (some r55))) tS fun r56 =>
        .ite (r54.toList == r56.toList) (
          .opq (ldS T_Sapi_Node (.pointer (some x26.1))) tSl fun r57 =>
          .opq (idxAS T_Sapi_Node (.slice r57.1 r57.2.1 r57.2.2) (.int .i64 4)) tA fun r58 =>
          .opq (ldS T_string (.pointer (some ⟨r58.block, r58.off + 1, none⟩))) tS fun r59 =>
          .ite (r59.toList == kz.toList) (
            .opl (callS F_law4_known #[]) tB fun r60 =>
            .ret #[.v (.bool r60)]) (
            .ret #[.v (.bool false)])) (
          .ret #[.v (.bool false)])) (
        .ret #[.v (.bool false)])))
theorem d_law4_ParseLeft (a0_a0 : Int) (a1_a1 : Int) : fnT Tryz.prog Tryz.f7 an_law4_ParseLeft [.int .i64 a0_a0, .int .i64 a1_a1] = t_law4_ParseLeft a0_a0 a1_a1 := by kernel_rfl
theorem c_law4_ParseLeft {ε σ β : Type} {I : Ifc ε σ} {t : Ty} {s : Sp ε σ β} {Rel : β → t.den → Own → Fact} {Γ : List Fact} (a0_a0 : Int) (a1_a1 : Int) (h : Sim Tryz.prog I t Rel noLabel none (t_law4_ParseLeft a0_a0 a1_a1) s [] Γ) : MeetsO Tryz.prog I (callS F_law4_ParseLeft #[.int .i64 a0_a0, .int .i64 a1_a1]) t s Rel Γ :=
  meets_of_sim (args := [.int .i64 a0_a0, .int .i64 a1_a1]) Tryz.func7 rfl rfl (Nat.le_of_ble_eq_true rfl) (by rw [d_law4_ParseLeft]; exact h)

end
end Go.Proofs.YtjlgcpgjdgeejaaGreatDoor
end

/- What the laws' own code does: texts made bytes, lists written out, trees read. Conditions: none. -/
section
namespace Go.Proofs.YtjlgcpgjdgeejaaGreatDoor
open Go
set_option linter.unusedSimpArgs false
set_option linter.unusedVariables false
set_option linter.constructorNameAsVariable false
set_option maxRecDepth 100000

section
variable {ε σ β : Type} {P : Program} {I : Ifc ε σ} {t : Ty} {Rel : β → t.den → Own → Fact} {Δ : Labels ε σ β} {md : Mode} {L Lq : Own} {Γ Γq : List Fact} {st : σ} {run : Option (Res ε σ β)}
def lbJ (ts : List C) {δ : Type} (f : δ → HC ts) (J : δ → Own → Fact) (sp : δ → Sp ε σ β) : Label ε σ β := { ι := δ, sp := sp, J := fun d vs L' => (Fact.prop (vs = HC.enc ts (f d))).both (J d L') }
theorem k_joinJ {δ : Type} {l : Nat} {ts : List C} {m : T} {k : HC ts → T} (f : δ → HC ts) (J : δ → Own → Fact) (s' : δ → Sp ε σ β) (hm : SimK P I t Rel (Δ.set l (lbJ ts f J s')) md st m run L Γ)
    (hk : ∀ d L' st, SimK P I t Rel Δ none st (k (f d)) (s' d st) L' (J d L' :: Γ)) : SimK P I t Rel Δ md st (.join l ts m k) run L Γ := by
  intro H r w F res S hs hΓ hsp hq
  simp only [T.wp]
  refine T.wp_mono m ?_ (fun e w h => h) (hm H r w F res S hs hΓ hsp hq)
  intro l' vs w' h
  unfold Labels.set at h
  unfold Outs.set
  split
  · rename_i hl
    rw [if_pos hl] at h
    obtain ⟨i, L', F', H', st', hle, hsp', ⟨hv, hJ⟩, hi', hS'⟩ := h
    have hv' : vs = HC.enc ts (f i) := hv
    subst hv'
    exact ⟨f i, rfl, wp_le hle (hk i L' st' H' r w' F' res S hsp' (Holds.cons hi' (Holds.cons hJ (Holds.mono (fun A hA => hΓ A (List.mem_cons_of_mem _ hA)) hle))) hS' trivial)⟩
  · rename_i hl; rw [if_neg hl] at h; exact h
theorem k_outJ {δ : Type} {l : Nat} {vs : List Value} {ts : List C} {f : δ → HC ts} {J : δ → Own → Fact} {s' : δ → Sp ε σ β} (d : δ) (hx : Δ l = lbJ ts f J s') (hv : vs = HC.enc ts (f d)) (hrun : run = s' d st) (hJ : ∀ F, Holds Γ F → (J d L).p F) : SimK P I t Rel Δ md st (.out l vs) run L Γ :=
  k_outX (x := lbJ ts f J s') d hx hrun fun F hF => ⟨hv, hJ F hF⟩
theorem k_both2 {x y : T} (h1 : SimK P I t Rel Δ md st x run L Γ) (h2 : SimK P I t Rel Δ md st y run L Γ) : SimK P I t Rel Δ md st (.both x y) run L Γ := fun H r w F res S hs hF hsp hq => by
  simp only [T.wp]
  exact ⟨h1 H r w F res S hs hF hsp hq, h2 H r w F res S hs hF hsp hq⟩
theorem k_valRl {β1 : Type} {t1 : Ty} {s0 : Sem Next} {k : t1.den → T} {b0 : β1} {Rel1 : β1 → t1.den → Own → Fact} {Γ1 : List Fact} (hm : MeetsO P (I0 : Ifc ε Unit) s0 t1 (Pure.pure b0 : Sp ε Unit β1) Rel1 Γ1) (hΓ1 : ∀ A ∈ Γ1, A ∈ Γ) (hL : ∀ p ∈ Lq, p ∈ L)
    (hk : ∀ x K, SimK P I t Rel Δ (some (Γq, Lq)) st (k x) run (K ++ L) (Rel1 b0 x K :: Γ)) : SimK P I t Rel Δ (some (Γq, Lq)) st (.opl s0 t1 k) run L Γ := by
  intro H r w F res S hs hF hsp hq
  simp only [T.wp]
  have hΓ' : Holds Γ F := fun A hA => hF A (List.mem_cons_of_mem _ hA)
  have h0 : Split r w ([] ++ (H ++ L)) F := hsp
  refine upon_mono ?_ ?_ _ (hm (Split.give r (H ++ L)) w F [] () (.ok b0 ()) rfl (fun A hA => hΓ' A (hΓ1 A hA)) rfl h0.out)
  · rintro v w' ⟨F', hle, H', K1, x, hv, hinv, hS, hR⟩
    cases hv
    have hH : H' = [] := hinv
    subst hH
    have hS' : Split r w' (H ++ (K1 ++ L)) F' := (Split.back h0 hS).perm (by
      simp only [List.nil_append]
      rw [← List.append_assoc, ← List.append_assoc]
      exact List.perm_append_comm.append_right L)
    obtain ⟨hw, hq'⟩ := Stab.keep (H' := []) (L' := H ++ (K1 ++ L)) hq hle hS' (fun p hp => by
      rcases List.mem_append.1 hp with hp | hp
      · exact List.mem_append_left _ hp
      · exact List.mem_append_right _ (List.mem_append_right _ (hL p hp)))
    exact ⟨hw, x, rfl, wp_le hle (hk x K1 H r w' F' res S hs (Holds.cons ((I.inv st H).mono _ _ hle (hF _ (List.mem_cons_self ..))) (Holds.cons hR (hΓ'.mono hle))) hS' hq')⟩
  · rintro c w' ⟨F', hle, H', K1, x, hv, _⟩; cases hv
end
theorem bytesWorld_heap (w : World) (e : TypeId) (s : ByteArray) : (Lib.bytesWorld w e s).heap = (w.drew.alloc (.cells (Lib.bytesCells w e s) e ((Lib.bytesCells w e s).size, (Lib.bytesCells w e s).size + 1))).heap := by
  have h1 : (w.drew.alloc (.cells (Lib.bytesCells w e s) e)).heap = w.heap.push (.cells (Lib.bytesCells w e s) e) := rfl
  have h2 : (w.drew.alloc (.cells (Lib.bytesCells w e s) e ((Lib.bytesCells w e s).size, (Lib.bytesCells w e s).size + 1))).heap = w.heap.push (.cells (Lib.bytesCells w e s) e ((Lib.bytesCells w e s).size, (Lib.bytesCells w e s).size + 1)) := rfl
  rw [h2]
  apply Array.ext_getElem?
  intro i
  simp only [Lib.bytesWorld, World.freeze]
  rw [if_neg (by decide)]
  simp only [h1, Array.getElem?_modify, Array.getElem?_push]
  by_cases hi : i = w.heap.size
  · subst hi; simp
  · rw [if_neg hi]
    simp [hi, Ne.symm hi]
theorem bytesCells_at (w : World) (e : TypeId) (s : ByteArray) (i : Nat) (h : i < s.size) : (Lib.bytesCells w e s)[0 + i]? = some (.int .u8 (s[i].toNat : Int)) := by
  have h' : i < s.data.size := h
  simp only [Lib.bytesCells, Nat.zero_add]
  rw [Array.getElem?_append_left (by simpa using h'), Array.getElem?_map, Array.getElem?_eq_getElem h']
  rfl
theorem loc_bytes {L : Own} {Γ : List Fact} (s : ByteArray) : Loc PG (cvS T_string T_Suint8 (.string s)) tSl L Γ fun y L' Γ' => L' = L ∧ Γ' = ByF y s :: Γ :=
  Loc.val fun r w F H hF hsp => by
    have hrun := Lib.run_convert_string_bytes (P := PG) w T_string T_Suint8 T_uint8 s (u := .string) (by kernel_rfl) (by kernel_rfl) (by kernel_rfl)
    have hs1 : Split r w.drew (H ++ L) F := hsp.drewn _ rfl rfl rfl rfl
    have hs2 := hs1.newF (.cells (Lib.bytesCells w T_uint8 s) T_uint8 ((Lib.bytesCells w T_uint8 s).size, (Lib.bytesCells w T_uint8 s).size + 1))
    refine ⟨(some ⟨w.heap.size, 0, none⟩, s.size, grownCap w s.size 0 T_uint8), Lib.bytesWorld w T_uint8 s, L, _, F.ins w.heap.size _, .inl ?_, hs1.new_le (.cells (Lib.bytesCells w T_uint8 s) T_uint8 ((Lib.bytesCells w T_uint8 s).size, (Lib.bytesCells w T_uint8 s).size + 1)), Holds.cons ?_ (hF.mono (hs1.new_le _)), ?_, rfl, rfl⟩
    · simp only [cvS, valS, Sem.run_bind, hrun, Result.andThen_ok, Sem.run_pure]; rfl
    · refine ⟨rfl, grownCap_ge w s.size 0 T_uint8, ?_⟩
      rcases Nat.eq_zero_or_pos s.size with h | h
      · exact .inl h
      · exact .inr ⟨⟨w.heap.size, 0, none⟩, Lib.bytesCells w T_uint8 s, T_uint8, ((Lib.bytesCells w T_uint8 s).size, (Lib.bytesCells w T_uint8 s).size + 1), rfl, rfl, by simp [Heap.ins], fun i hi => bytesCells_at w T_uint8 s i hi⟩
    · exact hs2.drewn _ (bytesWorld_heap w T_uint8 s) rfl rfl rfl
def encI (i : Int) : List Value := [.int .i64 i]
theorem encSt_len (s : ByteArray) : (encStr s).length = 1 := rfl
theorem encI_len (i : Int) : (encI i).length = 1 := rfl
theorem loc_litF {α : Type} {f : α → List Value} (l : List α) {L : Own} {Γ : List Fact} {t e : TypeId} {n size : Nat} {ps : Array (Nat × Value)} {z : Value} (ht : slOf PG t = some (e, size)) (hz : (PG.info? e).bind (·.zero) = some z) (h0 : 0 < size) (h1 : n * size ≤ 10000) (hn : 0 < n)
    (hf : Instr.fill (fun i => some (i * size, size)) ((Array.range (n * size)).map (z.cells[· % z.cells.size]!)) ps.toList = some (rows f l).toArray) (hl : l.length = n) (hfl : ∀ x, (f x).length = size) :
    Loc PG (sliceS t n ps) tSl L Γ fun y L' Γ' => y.2.1 = n ∧ L' = L ∧ Γ' = Sl size f y l :: Γ :=
  Loc.val fun r w F H hF hsp => by
    have hp : 0 < n * size := Nat.mul_pos hn h0
    have hrun := run_sliceS (P := PG) (w := w) (t := t) (e := e) (n := n) (size := size) (ps := ps) (cells := (rows f l).toArray) (zero := z) ht (by omega) hz hf (by omega)
    refine ⟨(some ⟨w.heap.size, 0, none⟩, n, n), w.alloc (blk e (rows f l)), L, _, F.ins w.heap.size (blk e (rows f l)), .inl ?_, hsp.new_le _, Holds.cons ?_ (hF.mono (hsp.new_le _)), hsp.newF _, rfl, rfl, rfl⟩
    · have h3 : (sliceS t n ps).run PG w = .ok (.value (.slice (some ⟨w.heap.size, 0, none⟩) n n)) (w.alloc (blk e (rows f l))) := by simpa using hrun
      exact h3
    · refine ⟨hl.symm, .inr ⟨⟨w.heap.size, 0, none⟩, rows f l, e, rfl, rfl, by simp [Heap.ins], ?_⟩⟩
      have := rows_length hfl l
      rw [List.drop_zero, List.take_of_length_le (by omega)]
theorem pv_ix {α : Type} {n : Nat} {f : α → List Value} {Γ : List Fact} {x : SlD} {l : List α} {a : Addr} (hm : Sl n f x l ∈ Γ) (ha : x.1 = some a) {t : TypeId} (ht : slN PG t = some n) {i : Int} (k : Nat) (hi : i = k) (hk : k < l.length) :
    PVal PG Γ (idxAS t (.slice x.1 x.2.1 x.2.2) (.int .i64 i)) (.pointer (some (a.add (k * n)))) := fun F hF w hw => by
  have hl := (hF _ hm).1
  rw [ha, run_idxA ht (by omega) (by omega)]
  rw [hi]; rfl
theorem pv_fl {α : Type} {n : Nat} {f : α → List Value} (hf : ∀ x, (f x).length = n) {Γ : List Fact} {x : SlD} {l : List α} {a : Addr} (hm : Sl n f x l ∈ Γ) (ha : x.1 = some a) {k : Nat} {y : α} (hy : l[k]? = some y) {T : TypeId} (hT : isOne PG T = some true) {j : Nat} {v : Value} (hv : (f y)[j]? = some v) {b : Addr} (hb : b.block = (a.add (k * n)).block ∧ b.off = (a.add (k * n)).off + j ∧ b.spot = none) :
    PVal PG Γ (ldS T (.pointer (some b))) v := fun F hF w hw => by
  obtain ⟨a', cs, T0, h1, h2, h3, h4⟩ := Sl.elem hf (hF _ hm) hy
  rw [ha] at h1; cases h1
  obtain ⟨x1, x2, x3⟩ := addr_add a h2 (k * n)
  have hj : j < n := by
    rcases Nat.lt_or_ge j n with h | h
    · exact h
    · rw [List.getElem?_eq_none (by rw [hf]; exact h)] at hv; cases hv
  refine run_ld1 (T0 := T0) (l := cs) hT (by rw [hb.1, x1]; exact hw _ _ h3) hb.2.2 ?_
  rw [hb.2.1, x2]
  have e : ((cs.drop (a.off + k * n)).take n)[j]? = (f y)[j]? := by rw [h4]
  rw [List.getElem?_take, if_pos hj, List.getElem?_drop] at e
  rw [e, hv]
section
variable {ε σ β : Type} {I : Ifc ε σ} {t : Ty} {Rel : β → t.den → Own → Fact} {Δ : Labels ε σ β} {md : Mode} {L Lq : Own} {Γ Γq : List Fact} {st : σ} {run : Option (Res ε σ β)}
theorem k_sl {α : Type} {n : Nat} {f : α → List Value} {x : SlD} {l : List α} {m : T} (hm : Sl n f x l ∈ Γ) (hk : 0 < l.length) (h : ∀ a, x.1 = some a → a.spot = none → SimK PG I t Rel Δ md st m run L Γ) : SimK PG I t Rel Δ md st m run L Γ :=
  k_note (φ := ∃ a, x.1 = some a ∧ a.spot = none) (fun F hF => Sl.addr (hF _ hm) hk) fun ⟨a, h1, h2⟩ => h a h1 h2
theorem addr_self {a : Addr} (h : a.spot = none) (i : Nat) : (a.add i).block = (a.add i).block ∧ (a.add i).off = (a.add i).off + 0 ∧ (a.add i).spot = none := ⟨rfl, rfl, (addr_add a h i).2.2⟩
theorem k_el {α : Type} {n : Nat} {f : α → List Value} (hf : ∀ x, (f x).length = n) {x : SlD} {l : List α} (hm : Sl n f x l ∈ Γ) {T1 T2 : TypeId} (ht : slN PG T1 = some n) (hT : isOne PG T2 = some true) {i : Int} (j : Nat) (hi : i = j) {y : α} (hy : l[j]? = some y) {b1 : B} (v : b1.den) (hv : (f y)[0]? = some (b1.enc v)) {k : b1.den → T}
    (hk : SimK PG I t Rel Δ none st (k v) run L Γ) : SimK PG I t Rel Δ md st (.op (idxAS T1 (.slice x.1 x.2.1 x.2.2) (.int .i64 i)) tA fun r => .op (ldS T2 (.pointer (some r))) (.c (.b b1)) k) run L Γ := by
  have hj : j < l.length := (List.getElem?_eq_some_iff.1 hy).1
  refine k_sl hm (by omega) fun a ha hs => k_pv (t1 := tA) (a.add (j * n)) (pv_ix hm ha ht j hi hj) (k_pv (t1 := .c (.b b1)) v (pv_fl hf hm ha hy hT hv (addr_self hs _)) hk)
theorem k_elq {α : Type} {n : Nat} {f : α → List Value} (hf : ∀ x, (f x).length = n) {x : SlD} {l : List α} (hm : Sl n f x l ∈ Γ) (hq : Sl n f x l ∈ Γq) {T1 T2 : TypeId} (ht : slN PG T1 = some n) (hT : isOne PG T2 = some true) {i : Int} (j : Nat) (hi : i = j) {y : α} (hy : l[j]? = some y) {b1 : B} (v : b1.den) (hv : (f y)[0]? = some (b1.enc v)) {k : b1.den → T}
    (hk : SimK PG I t Rel Δ (some (Γq, Lq)) st (k v) run L Γ) : SimK PG I t Rel Δ (some (Γq, Lq)) st (.opq (idxAS T1 (.slice x.1 x.2.1 x.2.2) (.int .i64 i)) tA fun r => .opq (ldS T2 (.pointer (some r))) (.c (.b b1)) k) run L Γ := by
  have hj : j < l.length := (List.getElem?_eq_some_iff.1 hy).1
  refine k_sl hm (by omega) fun a ha hs => k_pvq (t1 := tA) (a.add (j * n)) (pv_ix hq ha ht j hi hj) (k_pvq (t1 := .c (.b b1)) v (pv_fl hf hq ha hy hT hv (addr_self hs _)) hk)
theorem k_fl {α : Type} {n : Nat} {f : α → List Value} (hf : ∀ x, (f x).length = n) {x : SlD} {l : List α} (hm : Sl n f x l ∈ Γ) {T1 T2 : TypeId} (ht : slN PG T1 = some n) (hT : isOne PG T2 = some true) {i : Int} (j : Nat) (hi : i = j) {y : α} (hy : l[j]? = some y) {d : Nat} {b1 : B} (v : b1.den) (hv : (f y)[d]? = some (b1.enc v)) {k : b1.den → T}
    (hk : SimK PG I t Rel Δ none st (k v) run L Γ) : SimK PG I t Rel Δ md st (.op (idxAS T1 (.slice x.1 x.2.1 x.2.2) (.int .i64 i)) tA fun r => .op (ldS T2 (.pointer (some ⟨r.block, r.off + d, none⟩))) (.c (.b b1)) k) run L Γ := by
  have hj : j < l.length := (List.getElem?_eq_some_iff.1 hy).1
  refine k_sl hm (by omega) fun a ha hs => k_pv (t1 := tA) (a.add (j * n)) (pv_ix hm ha ht j hi hj) (k_pv (t1 := .c (.b b1)) v (pv_fl hf hm ha hy hT hv ⟨rfl, rfl, rfl⟩) hk)
theorem k_flq {α : Type} {n : Nat} {f : α → List Value} (hf : ∀ x, (f x).length = n) {x : SlD} {l : List α} (hm : Sl n f x l ∈ Γ) (hq : Sl n f x l ∈ Γq) {T1 T2 : TypeId} (ht : slN PG T1 = some n) (hT : isOne PG T2 = some true) {i : Int} (j : Nat) (hi : i = j) {y : α} (hy : l[j]? = some y) {d : Nat} {b1 : B} (v : b1.den) (hv : (f y)[d]? = some (b1.enc v)) {k : b1.den → T}
    (hk : SimK PG I t Rel Δ (some (Γq, Lq)) st (k v) run L Γ) : SimK PG I t Rel Δ (some (Γq, Lq)) st (.opq (idxAS T1 (.slice x.1 x.2.1 x.2.2) (.int .i64 i)) tA fun r => .opq (ldS T2 (.pointer (some ⟨r.block, r.off + d, none⟩))) (.c (.b b1)) k) run L Γ := by
  have hj : j < l.length := (List.getElem?_eq_some_iff.1 hy).1
  refine k_sl hm (by omega) fun a ha hs => k_pvq (t1 := tA) (a.add (j * n)) (pv_ix hq ha ht j hi hj) (k_pvq (t1 := .c (.b b1)) v (pv_fl hf hq ha hy hT hv ⟨rfl, rfl, rfl⟩) hk)
def KidsF (es : List E) : Fact := ⟨fun F => ∀ e ∈ es, (Sl 1 encI e.ks e.f.kids).p F, fun F F' hl h e he => (Sl 1 encI e.ks e.f.kids).mono F F' hl (h e he)⟩
theorem rows_ints (l : List Int) : l.map (Value.int .i64) = rows encI l := by
  induction l with
  | nil => rfl
  | cons x l ih => rw [List.map_cons, rows_cons, ih]; rfl
theorem TreeP.facts {es : List E} {x : SlD} {K : Own} {F : Heap} (h : TreeP es x K) (hK : ∀ p ∈ K, F p.1 = some p.2) : (Sl 5 encE x es).p F ∧ (KidsF es).p F := by
  obtain ⟨K0, rfl, hB, hE⟩ := h
  refine ⟨Buf.sl hB (by decide) rfl encE_len fun p hp => hK p (List.mem_append_left _ hp), fun e he => ?_⟩
  exact Buf.sl (hE e he) (by decide) (rows_ints _) encI_len fun p hp => hK p (List.mem_append_right _ (List.mem_flatMap.2 ⟨e, he, hp⟩))
theorem k_tree {m : T} {ns : List FN} {x : SlD} {K : Own} (h : ∀ es, es.map (·.f) = ns → SimK PG I t Rel Δ none st m run L (Sl 5 encE x es :: KidsF es :: Γ)) : SimK PG I t Rel Δ md st m run (K ++ L) (TreeO ns (x, ()) K :: Γ) := by
  refine k_lift (k_ex fun es => k_fact fun F0 hx => ?_)
  obtain ⟨hns, hT⟩ := hx
  have hT' : TreeP es x K := hT
  refine k_freezeL K fun Γ' h1 h2 => ?_
  refine k_know (A := KidsF es) (fun F hF => (hT'.facts fun p hp => hF _ (h2 p hp)).2) (k_know (A := Sl 5 encE x es) (fun F hF => (hT'.facts fun p hp => hF _ (List.mem_cons_of_mem _ (h2 p hp))).1) (k_weak (h es hns) fun A hA => ?_))
  rcases List.mem_cons.1 hA with rfl | hA
  · exact List.mem_cons_self ..
  · rcases List.mem_cons.1 hA with rfl | hA
    · exact List.mem_cons_of_mem _ (List.mem_cons_self ..)
    · exact List.mem_cons_of_mem _ (List.mem_cons_of_mem _ (h1 A hA))
end
theorem run_rem {t : TypeId} (x y : Int) (hy : y ≠ 0) (w : World) : (binS .rem t (.int .i64 x) (.int .i64 y)).run PG w = .ok (.value (.int .i64 (x.tmod y))) w := by
  simp [binS, valS, eqGuard, binOp, Op.intDiv, hy]
def knownB (x : Option (Sum (Int × Int) (List FN))) : Bool := match x with
  | some (.inr ns) => ns.length == 7 && ((ns[1]?.map fun n => n.kind == 64).getD false) && ((ns[2]?.map fun n => n.kind == 27).getD false) && ((ns[6]?.map fun n => n.num == 1).getD false)
  | _ => false
abbrev kKnown : ByteArray := ⟨#[102, 40, 49, 41, 59]⟩
theorem known_ok : knownB (wholeV 8 kKnown 0) = true := by kernel_rfl
theorem k_bytesLit {ε σ β : Type} {I : Ifc ε σ} {t : Ty} {Rel : β → t.den → Own → Fact} {Δ : Labels ε σ β} {md : Mode} {L : Own} {Γ : List Fact} {st : σ} {run : Option (Res ε σ β)} {n : Nat} {ps : Array (Nat × Value)} {k : SlD → T} (b : ByteArray) (hn : b.size = n) (h0 : 0 < n) (h1 : n ≤ 10000)
    (hf : Instr.fill (fun i => some (i * 1, 1)) ((Array.range (n * 1)).map ((Value.int .u8 0).cells[· % (Value.int .u8 0).cells.size]!)) ps.toList = some (rows encU8 b.data.toList).toArray)
    (hk : ∀ y, SimK PG I t Rel Δ none st (k y) run L (ByF y b :: Γ)) : SimK PG I t Rel Δ md st (.op (sliceS T_Suint8 n ps) tSl fun r1 => .op (cvS T_Suint8 T_Suint8 (.slice r1.1 r1.2.1 r1.2.2)) tSl k) run L Γ := by
  intro H r w F res S hs hΓ hsp hq
  have hrun := run_sliceS (P := PG) (w := w) (t := T_Suint8) (e := T_uint8) (n := n) (size := 1) (ps := ps) (cells := (rows encU8 b.data.toList).toArray) (zero := .int .u8 0) (by kernel_rfl) (by omega) (by kernel_rfl) hf (by omega)
  have e1 : PG.underlying T_Suint8 = some (.slice T_uint8) := by kernel_rfl
  have e2 : PG.underlying T_uint8 = some (.int .u8) := by kernel_rfl
  have hrun1 : (sliceS T_Suint8 n ps).run PG w = .ok (.value (.slice (some ⟨w.heap.size, 0, none⟩) n n)) (w.alloc (blk T_uint8 (rows encU8 b.data.toList))) := by simpa using hrun
  let C : Array Value := (rows encU8 b.data.toList).toArray
  have hC : C.size = n := by show (rows encU8 b.data.toList).toArray.size = n; rw [List.size_toArray, rows_u8, hn]
  have hrun2 : (cvS T_Suint8 T_Suint8 (.slice (some ⟨w.heap.size, 0, none⟩) n n)).run PG (w.alloc (blk T_uint8 (rows encU8 b.data.toList))) = .ok (.value (.slice (some ⟨w.heap.size, 0, none⟩) n n)) (w.alloc (.cells C T_uint8 (C.size, C.size + 1))) := by
    have h3 := Lib.run_convert_bytes_const (P := PG) w T_Suint8 T_uint8 C n n e1 e2
    simp only [cvS, valS, Sem.run_bind]
    have h4 : (w.alloc (blk T_uint8 (rows encU8 b.data.toList))) = w.alloc (.cells C T_uint8) := rfl
    rw [h4, h3]; rfl
  simp only [T.wp, hrun1]
  refine ⟨(some ⟨w.heap.size, 0, none⟩, n, n), rfl, ?_⟩
  show upon _ _ _ ((cvS T_Suint8 T_Suint8 (.slice (some ⟨w.heap.size, 0, none⟩) n n)).run PG (w.alloc (blk T_uint8 (rows encU8 b.data.toList))))
  rw [hrun2]
  refine ⟨(some ⟨w.heap.size, 0, none⟩, n, n), rfl, ?_⟩
  have hle := hsp.new_le (.cells C T_uint8 (C.size, C.size + 1))
  refine wp_le hle (hk _ H r _ _ res S hs (Holds.cons ((I.inv st H).mono _ _ hle (hΓ _ (List.mem_cons_self ..))) (Holds.cons ?_ (Holds.mono (fun A hA => hΓ A (List.mem_cons_of_mem _ hA)) hle))) (hsp.newF _) trivial)
  refine ⟨hn.symm, Nat.le_refl _, .inr ⟨⟨w.heap.size, 0, none⟩, C, T_uint8, (C.size, C.size + 1), rfl, rfl, by simp [Heap.ins], fun i hi => ?_⟩⟩
  have h8 := rows_at encU8_len b.data.toList i b[i] (ba_at b i hi)
  have h9 : (((rows encU8 b.data.toList).drop (i * 1)).take 1)[0]? = (encU8 b[i])[0]? := by rw [h8]
  rw [List.getElem?_take, if_pos (by decide), List.getElem?_drop, Nat.mul_one, Nat.add_zero] at h9
  show (rows encU8 b.data.toList).toArray[0 + i]? = _
  rw [Nat.zero_add, List.getElem?_toArray, h9]
  rfl
theorem es_at {es : List E} {ns : List FN} (h : es.map (·.f) = ns) {i : Nat} {f : FN} (hi : ns[i]? = some f) : ∃ e, es[i]? = some e ∧ e.f = f := by
  rw [← h, List.getElem?_map, Option.map_eq_some_iff] at hi
  exact hi
theorem known_m {ε : Type} : Meets PG (I0 : Ifc ε Unit) (callS F_law4_known #[]) tB (Pure.pure true) RelEq [MxF] := by
  refine c_law4_known (k_open fun st => ?_)
  unfold t_law4_known
  refine k_bytesLit kKnown rfl (by decide) (by decide) (by kernel_rfl) fun y => ?_
  have hk := known_ok
  cases hw : wholeV 8 kKnown 0 with
  | none => rw [hw] at hk; cases hk
  | some v =>
  cases v with
  | inl p => rw [hw] at hk; cases hk
  | inr ns =>
  rw [hw] at hk
  simp only [knownB, Bool.and_eq_true] at hk
  obtain ⟨⟨⟨h7, h1⟩, h2⟩, h6⟩ := hk
  have hlen : ns.length = 7 := eq_of_beq h7
  have hP : (wholeS 8 kKnown 0 : Sp ε Unit _) () = some (.ok (.inr ns) ()) := by simp only [wholeS, hw]; rfl
  refine k_callO (pProgram_m I0 8 (by decide) y kKnown (by decide)) (by simp) (fun h => by rw [hP] at h; cases h) (fun e h => by rw [hP] at h; cases h) fun x v K st' h => ?_
  rw [hP] at h
  obtain rfl : v = .inr ns := by cases h; rfl
  obtain ⟨⟨sl, ⟨⟩⟩, x2⟩ := x
  refine k_both (k_fact fun F0 hx => ?_)
  obtain rfl : x2 = (0, 0, ()) := hx
  refine k_tree fun es hes => ?_
  have hle : es.length = 7 := by rw [← hlen, ← hes, List.length_map]
  refine k_loc (loc_alloc (z := [.slice none 0 0]) (by kernel_rfl)) ?_
  rintro _ _ _ ⟨b4, rfl, rfl, rfl⟩
  refine k_loc (loc_st (L1 := []) (l := [.slice none 0 0]) (T := T_api_Tree) (T0 := T_api_Tree) (c := true) rfl (by kernel_rfl) rfl (Nat.le_of_ble_eq_true rfl) (by simp [Value.cells, Value.oneCell'])) ?_
  rintro _ _ _ ⟨rfl, rfl⟩
  have hl : ∀ F, Holds (Sl 5 encE sl es :: KidsF es :: [ByF y kKnown, MxF]) F → sl.2.1 = 7 := fun F hF => by rw [(hF (Sl 5 encE sl es) (List.mem_cons_self ..)).1, hle]
  have hfin : ∀ (st' : Unit), (Pure.pure true : Sp ε Unit Bool) st = some (.ok true st') := fun _ => rfl
  refine k_ite (fun _ => ?_) (fun h => by cases h)
  refine k_ldO (b1 := .slice) sl (List.mem_cons_self ..) (by kernel_rfl) rfl rfl ?_
  refine k_note hl fun hl => k_ite (fun _ => ?_) (fun h => by have h' : ((sl.2.1 : Int) == 7) = false := h; rw [hl] at h'; cases h')
  have get : ∀ (i : Nat) (p : FN → Bool), ((ns[i]?.map p).getD false) = true → ∃ e, es[i]? = some e ∧ p e.f = true := fun i p h => by
    cases hn : ns[i]? with
    | none => rw [hn] at h; cases h
    | some f =>
      rw [hn] at h
      obtain ⟨e, h3, h4⟩ := es_at hes hn
      exact ⟨e, h3, by rw [h4]; exact h⟩
  obtain ⟨e1, g1, p1⟩ := get 1 _ h1
  obtain ⟨e2, g2, p2⟩ := get 2 _ h2
  obtain ⟨e6, g6, p6⟩ := get 6 _ h6
  refine k_ldO (b1 := .slice) sl (List.mem_cons_self ..) (by kernel_rfl) rfl rfl ?_
  refine k_el (b1 := .int .i64) encE_len (List.mem_cons_self ..) (by kernel_rfl) (by kernel_rfl) 1 rfl g1 e1.f.kind rfl (k_ite (fun _ => ?_) (fun h => by have h' : (e1.f.kind == 64) = false := h; rw [h'] at p1; cases p1))
  refine k_ldO (b1 := .slice) sl (List.mem_cons_self ..) (by kernel_rfl) rfl rfl ?_
  refine k_el (b1 := .int .i64) encE_len (List.mem_cons_self ..) (by kernel_rfl) (by kernel_rfl) 2 rfl g2 e2.f.kind rfl (k_ite (fun _ => ?_) (fun h => by have h' : (e2.f.kind == 27) = false := h; rw [h'] at p2; cases p2))
  refine k_ldO (b1 := .slice) sl (List.mem_cons_self ..) (by kernel_rfl) rfl rfl ?_
  refine k_fl (b1 := .int .i64) encE_len (List.mem_cons_self ..) (by kernel_rfl) (by kernel_rfl) 6 rfl g6 e6.f.num rfl ?_
  exact k_ret1 (t := tB) true (by rw [show ((e6.f.num : Int) == 1) = true from p6]; rfl) rfl
end Go.Proofs.YtjlgcpgjdgeejaaGreatDoor
end

/- shucklaw4.ParseLeft answers true for any two numbers. Conditions: block 0 holds the library's number (MxF). -/
section
namespace Go.Proofs.YtjlgcpgjdgeejaaGreatDoor
open Go
set_option linter.unusedSimpArgs false
set_option linter.unusedVariables false
set_option linter.constructorNameAsVariable false
set_option maxRecDepth 1000000

def lsg : List ByteArray := [k_bar_bar, k_amp_amp, k_bar, k_caret, k_amp, k_eq_eq_eq, k_bang_eq_eq, k_lt, k_lt_eq, k_gt, k_gt_eq, kin, k_lt_lt, k_gt_gt, k_gt_gt_gt, k_plus, k_minus, k_star, k_pct]
def lvl : List Int := [2, 3, 4, 5, 6, 7, 7, 8, 8, 8, 8, 8, 9, 9, 9, 10, 10, 11, 11]
def leftT (a b : ByteArray) : ByteArray := kx_sp ++ a ++ k_sp_y_sp ++ b ++ k_sp_z
def nodeB (ns : List FN) (i : Nat) (p : FN → Bool) : Bool := (ns[i]?.map p).getD false
def leftOk (i k : Nat) : Bool := match wholeV 8 (leftT (lsg.getD i kE) (lsg.getD k kE)) 1 with
  | some (.inr ns) => ns.length == 5 && bif decide (lvl.getD k 0 > lvl.getD i 0) then
      nodeB ns 0 (fun n => n.text.toList == (lsg.getD i kE).toList) && nodeB ns 1 (fun n => n.kind == 17) && nodeB ns 2 (fun n => n.text.toList == (lsg.getD k kE).toList)
    else nodeB ns 0 (fun n => n.text.toList == (lsg.getD k kE).toList) && nodeB ns 1 (fun n => n.text.toList == (lsg.getD i kE).toList) && nodeB ns 4 (fun n => n.text.toList == kz.toList)
  | _ => false
theorem left_0 : ((List.range 19).all fun k => leftOk 0 k) = true := by kernel_rfl
theorem left_1 : ((List.range 19).all fun k => leftOk 1 k) = true := by kernel_rfl
theorem left_2 : ((List.range 19).all fun k => leftOk 2 k) = true := by kernel_rfl
theorem left_3 : ((List.range 19).all fun k => leftOk 3 k) = true := by kernel_rfl
theorem left_4 : ((List.range 19).all fun k => leftOk 4 k) = true := by kernel_rfl
theorem left_5 : ((List.range 19).all fun k => leftOk 5 k) = true := by kernel_rfl
theorem left_6 : ((List.range 19).all fun k => leftOk 6 k) = true := by kernel_rfl
theorem left_7 : ((List.range 19).all fun k => leftOk 7 k) = true := by kernel_rfl
theorem left_8 : ((List.range 19).all fun k => leftOk 8 k) = true := by kernel_rfl
theorem left_9 : ((List.range 19).all fun k => leftOk 9 k) = true := by kernel_rfl
theorem left_10 : ((List.range 19).all fun k => leftOk 10 k) = true := by kernel_rfl
theorem left_11 : ((List.range 19).all fun k => leftOk 11 k) = true := by kernel_rfl
theorem left_12 : ((List.range 19).all fun k => leftOk 12 k) = true := by kernel_rfl
theorem left_13 : ((List.range 19).all fun k => leftOk 13 k) = true := by kernel_rfl
theorem left_14 : ((List.range 19).all fun k => leftOk 14 k) = true := by kernel_rfl
theorem left_15 : ((List.range 19).all fun k => leftOk 15 k) = true := by kernel_rfl
theorem left_16 : ((List.range 19).all fun k => leftOk 16 k) = true := by kernel_rfl
theorem left_17 : ((List.range 19).all fun k => leftOk 17 k) = true := by kernel_rfl
theorem left_18 : ((List.range 19).all fun k => leftOk 18 k) = true := by kernel_rfl
theorem left_ok {i k : Nat} (hi : i < 19) (hk : k < 19) : leftOk i k = true := by
  have h : ((List.range 19).all fun k => leftOk i k) = true := by
    match i, hi with
    | 0, _ => exact left_0
    | 1, _ => exact left_1
    | 2, _ => exact left_2
    | 3, _ => exact left_3
    | 4, _ => exact left_4
    | 5, _ => exact left_5
    | 6, _ => exact left_6
    | 7, _ => exact left_7
    | 8, _ => exact left_8
    | 9, _ => exact left_9
    | 10, _ => exact left_10
    | 11, _ => exact left_11
    | 12, _ => exact left_12
    | 13, _ => exact left_13
    | 14, _ => exact left_14
    | 15, _ => exact left_15
    | 16, _ => exact left_16
    | 17, _ => exact left_17
    | 18, _ => exact left_18
    | n + 19, h => exact absurd h (by omega)
  exact List.all_eq_true.1 h k (List.mem_range.2 hk)
theorem node_get {es : List E} {ns : List FN} (hes : es.map (·.f) = ns) {i : Nat} {p : FN → Bool} (h : nodeB ns i p = true) : ∃ e, es[i]? = some e ∧ p e.f = true := by
  unfold nodeB at h
  cases hn : ns[i]? with
  | none => rw [hn] at h; cases h
  | some f =>
    rw [hn] at h
    obtain ⟨e, h3, h4⟩ := es_at hes hn
    exact ⟨e, h3, by rw [h4]; exact h⟩
theorem tmod19 (a : Int) : -19 < a.tmod 19 ∧ a.tmod 19 < 19 := by
  have h1 := Int.tmod_lt_of_pos a (by decide : (0 : Int) < 19)
  refine ⟨?_, h1⟩
  have h2 := Int.tmod_lt_of_pos (-a) (by decide : (0 : Int) < 19)
  rw [Int.neg_tmod] at h2
  omega
end Go.Proofs.YtjlgcpgjdgeejaaGreatDoor
end

/- shucklaw4.ParseLeft answers true for any two numbers. Conditions: block 0 holds the library's number (MxF). -/
section
namespace Go.Proofs.YtjlgcpgjdgeejaaGreatDoor
open Go
set_option linter.unusedSimpArgs false
set_option linter.unusedVariables false
set_option linter.constructorNameAsVariable false
set_option maxRecDepth 1000000

theorem lsg_at {i : Nat} (h : i < 19) : lsg[i]? = some (lsg.getD i kE) := by
  have : i < lsg.length := h
  rw [List.getD_eq_getElem?_getD, List.getElem?_eq_getElem this]; rfl
theorem lvl_at {i : Nat} (h : i < 19) : lvl[i]? = some (lvl.getD i 0) := by
  have : i < lvl.length := h
  rw [List.getD_eq_getElem?_getD, List.getElem?_eq_getElem this]; rfl
theorem lsg_size (i : Nat) : (lsg.getD i kE).size ≤ 3 := by
  rw [List.getD_eq_getElem?_getD]
  cases h : lsg[i]? with
  | none => decide
  | some x =>
    have hm := List.mem_of_getElem? h
    have hall : (lsg.all fun x => decide (x.size ≤ 3)) = true := by decide
    simpa using List.all_eq_true.1 hall x hm
theorem k_ldqO {ε σ β : Type} {P : Program} {I : Ifc ε σ} {t : Ty} {Rel : β → t.den → Own → Fact} {Δ : Labels ε σ β} {L Lq : Own} {Γ Γq : List Fact} {st : σ} {run : Option (Res ε σ β)} {T1 T0 : TypeId} {a : Addr} {b1 : B} {l : List Value} {k : b1.den → T} (x : b1.den) (hr : (a.block, blk T0 l) ∈ Lq) (hs : isOne P T1 = some true) (ha : a.spot = none) (hv : l[a.off]? = some (b1.enc x))
    (hk : SimK P I t Rel Δ (some (Γq, Lq)) st (k x) run L Γ) : SimK P I t Rel Δ (some (Γq, Lq)) st (.opq (ldS T1 (.pointer (some a))) (.c (.b b1)) k) run L Γ := k_opq (t1 := .c (.b b1)) x (qval_ld1 (QRd.own hr) hs ha hv) hk
theorem k_mod {β : Type} {t : Ty} {Rel : β → t.den → Own → Fact} {Δ : Labels Empty Unit β} {L : Own} {Γ : List Fact} {run : Option (Res Empty Unit β)} {a : Int} {k : HC [.b (.int .i64)] → T}
    (hk : ∀ i : Nat, i < 19 → SimK PG (I0 : Ifc Empty Unit) t Rel Δ none () (k ((i : Int), ())) run L Γ) :
    SimK PG (I0 : Ifc Empty Unit) t Rel Δ none () (.join 0 [.b (.int .i64)] (.ite (decide ((a.tmod 19 : Int) < 0)) (.out 0 [.int .i64 (IntKind.i64.wrap (a.tmod 19 + 19))]) (.out 0 [.int .i64 (a.tmod 19)])) k) run L Γ := by
  have h := tmod19 a
  refine k_joinJ (δ := Nat) (fun i => ((i : Int), ())) (fun i L' => Fact.prop (i < 19 ∧ L' = L)) (fun _ _ => run) (k_ite (fun h1 => ?_) (fun h1 => ?_)) fun i L' st => ?_
  · have h2 : a.tmod 19 < 0 := of_decide_eq_true h1
    obtain ⟨i, hi⟩ := Int.eq_ofNat_of_zero_le (show (0 : Int) ≤ a.tmod 19 + 19 by omega)
    exact k_outJ i lbR0 (by rw [wrap_id (by omega) (by omega), hi]; rfl) rfl fun F hF => ⟨by omega, rfl⟩
  · have h2 : ¬ a.tmod 19 < 0 := of_decide_eq_false h1
    obtain ⟨i, hi⟩ := Int.eq_ofNat_of_zero_le (show (0 : Int) ≤ a.tmod 19 by omega)
    exact k_outJ i lbR0 (by rw [hi]; rfl) rfl fun F hF => ⟨by omega, rfl⟩
  · refine k_fact fun F0 hx => ?_
    obtain ⟨h1, rfl⟩ := hx
    exact hk i h1
theorem left_m (a b : Int) : Meets PG (I0 : Ifc Empty Unit) (callS F_law4_ParseLeft #[.int .i64 a, .int .i64 b]) tB (Pure.pure true) RelEq [MxF] := by
  refine c_law4_ParseLeft a b (k_open fun st => ?_)
  have hrun : (Pure.pure true : Sp Empty Unit Bool) st = some (.ok true ()) := rfl
  rw [hrun]
  obtain rfl : st = () := rfl
  unfold t_law4_ParseLeft
  refine k_loc (loc_litF (f := encStr) lsg (e := T_string) (size := 1) (z := .string kE) (by kernel_rfl) (by kernel_rfl) (by decide) (by decide) (by decide) (by kernel_rfl) rfl encSt_len) ?_
  rintro ⟨p1, n1, c1⟩ _ _ ⟨h1, rfl, rfl⟩
  obtain rfl : n1 = 19 := h1
  refine k_loc (loc_litF (f := encI) lvl (e := T_int) (size := 1) (z := .int .i64 0) (by kernel_rfl) (by kernel_rfl) (by decide) (by decide) (by decide) (by kernel_rfl) rfl encI_len) ?_
  rintro r2 _ _ ⟨h2, rfl, rfl⟩
  refine k_pv (t1 := tI) (a.tmod 19) (PVal.pure fun w => run_rem a 19 (by decide) w) ?_
  refine k_pv (t1 := tI) (b.tmod 19) (PVal.pure fun w => run_rem b 19 (by decide) w) ?_
  refine k_mod fun i hi => k_mod fun k hk => ?_
  -- what the text's tree is
  have hok := left_ok hi hk
  unfold leftOk at hok
  have hli := lsg_at hi
  have hlk := lsg_at hk
  have hvi := lvl_at hi
  have hvk := lvl_at hk
  have hsi := lsg_size i
  have hsk := lsg_size k
  generalize lsg.getD i kE = li at hok hli hsi
  generalize lsg.getD k kE = lk at hok hlk hsk
  generalize lvl.getD i 0 = vi at hok hvi
  generalize lvl.getD k 0 = vk at hok hvk
  cases hw : wholeV 8 (leftT li lk) 1 with
  | none => rw [hw] at hok; cases hok
  | some v =>
  cases v with
  | inl p => rw [hw] at hok; cases hok
  | inr ns =>
  rw [hw] at hok
  simp only [Bool.and_eq_true] at hok
  obtain ⟨h5, hcond⟩ := hok
  have h5 : ns.length = 5 := eq_of_beq h5
  have hE : ∀ y, MeetsO PG (I0 : Ifc Empty Unit) (callS F_parse_Expr #[.slice y.1 y.2.1 y.2.2]) tWhole (Pure.pure (.inr ns)) WholeR [ByF y (leftT li lk), MxF] := fun y => by
    have hm := pExpr_m (I0 : Ifc Empty Unit) 8 (by decide) y (leftT li lk) (by
      have e1 : kx_sp.size = 2 := rfl
      have e2 : k_sp_y_sp.size = 3 := rfl
      have e3 : k_sp_z.size = 2 := rfl
      simp only [leftT, ByteArray.size_append]; omega)
    have e : (wholeS 8 (leftT li lk) 1 : Sp Empty Unit _) = Pure.pure (.inr ns) := by funext st; simp only [wholeS, hw]; rfl
    rw [e] at hm; exact hm
  have cat : ∀ (x y : ByteArray) (w : World), x.size + y.size ≤ 1000 → (binS .add T_string (.string x) (.string y)).run PG w = .ok (.value (.string (x ++ y))) w := fun x y w h => run_cat x y (by omega)
  have e1 : kx_sp.size = 2 := rfl
  have e2 : k_sp_y_sp.size = 3 := rfl
  have e3 : k_sp_z.size = 2 := rfl
  have m1 : Sl 1 encStr (p1, 19, c1) lsg ∈ [Sl 1 encI r2 lvl, Sl 1 encStr (p1, 19, c1) lsg, MxF] := (by repeat (first | exact List.mem_cons_self .. | apply List.mem_cons_of_mem))
  have m2 : Sl 1 encI r2 lvl ∈ [Sl 1 encI r2 lvl, Sl 1 encStr (p1, 19, c1) lsg, MxF] := (by repeat (first | exact List.mem_cons_self .. | apply List.mem_cons_of_mem))
  refine k_joinJ (δ := Nat × List E × SlD) (ts := [.b .addr, .b (.int .i64)]) (fun d => ((⟨d.1, 0, none⟩ : Addr), (0 : Int), ())) (fun d L' => (Fact.prop (L' = [(d.1, blk T_api_Tree [.slice d.2.2.1 d.2.2.2.1 d.2.2.2.2])] ∧ d.2.1.map (·.f) = ns)).both (Sl 5 encE d.2.2 d.2.1)) (fun _ _ => some (.ok true ())) ?_ ?_
  · -- the text is made, and read
    refine k_draw [] (fun _ h => nomatch h) ?_
    refine k_elq (b1 := .str) encSt_len m1 m1 (by kernel_rfl) (by kernel_rfl) i rfl hli li rfl ?_
    refine k_pvq (t1 := tS) (kx_sp ++ li) (PVal.pure fun w => cat _ _ w (by omega)) ?_
    refine k_pvq (t1 := tS) (kx_sp ++ li ++ k_sp_y_sp) (PVal.pure fun w => cat _ _ w (by simp only [ByteArray.size_append]; omega)) ?_
    refine k_elq (b1 := .str) encSt_len m1 m1 (by kernel_rfl) (by kernel_rfl) k rfl hlk lk rfl ?_
    refine k_pvq (t1 := tS) (kx_sp ++ li ++ k_sp_y_sp ++ lk) (PVal.pure fun w => cat _ _ w (by simp only [ByteArray.size_append]; omega)) ?_
    refine k_pvq (t1 := tS) (leftT li lk) (PVal.pure fun w => cat _ _ w (by simp only [ByteArray.size_append]; omega)) ?_
    have fin : ∀ (md : Mode) (Γ : List Fact) (b17 : Nat) (x : SlD) (K : Own), SimK PG (I0 : Ifc Empty Unit) tB (pl RelEq) (noLabel.set 0 (lbJ [.b .addr, .b (.int .i64)] (fun d : Nat × List E × SlD => ((⟨d.1, 0, none⟩ : Addr), (0 : Int), ())) (fun d L' => (Fact.prop (L' = [(d.1, blk T_api_Tree [.slice d.2.2.1 d.2.2.2.1 d.2.2.2.2])] ∧ d.2.1.map (·.f) = ns)).both (Sl 5 encE d.2.2 d.2.1)) (fun _ _ => some (.ok true ())))) md () (.out 0 [.pointer (some ⟨b17, 0, none⟩), .int .i64 0]) (some (.ok true ())) (K ++ [(b17, blk T_api_Tree [.slice x.1 x.2.1 x.2.2])]) (TreeO ns (x, ()) K :: Γ) := fun md Γ b17 x K => by
      refine k_lift (k_tree fun es hes => ?_)
      exact k_outJ (b17, es, x) lbR0 rfl rfl fun F hF => ⟨⟨rfl, hes⟩, hF (Sl 5 encE x es) (List.mem_cons_self ..)⟩
    have call : ∀ (L : Own) (Γ : List Fact) (y : SlD) (kk : tWhole.den → T) {Δ : Labels Empty Unit Bool}, ByF y (leftT li lk) ∈ Γ → MxF ∈ Γ →
        (∀ (x : SlD) (K : Own), SimK PG (I0 : Ifc Empty Unit) tB (pl RelEq) Δ (some ([Sl 1 encI r2 lvl, Sl 1 encStr (p1, 19, c1) lsg, MxF], [])) () (kk ((x, ()), 0, 0, ())) (some (.ok true ())) (K ++ L) (TreeO ns (x, ()) K :: Γ)) →
        SimK PG (I0 : Ifc Empty Unit) tB (pl RelEq) Δ (some ([Sl 1 encI r2 lvl, Sl 1 encStr (p1, 19, c1) lsg, MxF], [])) () (.opl (callS F_parse_Expr #[.slice y.1 y.2.1 y.2.2]) tWhole kk) (some (.ok true ())) L Γ := fun L Γ y kk Δ hy hM hk => by
      refine k_valRl (hE y) (fun A hA => ?_) (fun _ h => nomatch h) fun x K => ?_
      · rcases List.mem_cons.1 hA with rfl | hA
        · exact hy
        · obtain rfl := List.mem_singleton.1 hA; exact hM
      · obtain ⟨⟨x, ⟨⟩⟩, x2⟩ := x
        intro H r w F res S h1 hF
        obtain ⟨hx, hT⟩ := hF _ (List.mem_cons_of_mem _ (List.mem_cons_self ..))
        obtain rfl : x2 = (0, 0, ()) := hx
        exact hk x K H r w F res S h1 (Holds.cons (hF _ (List.mem_cons_self ..)) (Holds.cons hT fun A hA => hF A (List.mem_cons_of_mem _ (List.mem_cons_of_mem _ hA))))
    refine k_both2 ?_ ?_
    · refine k_locl (loc_bytes (leftT li lk)) ?_
      rintro y _ _ ⟨rfl, rfl⟩
      refine ⟨(fun _ h => nomatch h), k_both2 ?_ ?_⟩
      · refine call _ _ y _ (by repeat (first | exact List.mem_cons_self .. | apply List.mem_cons_of_mem)) (by repeat (first | exact List.mem_cons_self .. | apply List.mem_cons_of_mem)) fun x K => ?_
        refine k_locl (loc_alloc (z := [.slice none 0 0]) (by kernel_rfl)) ?_
        rintro _ _ _ ⟨b17, rfl, rfl, rfl⟩
        refine ⟨(fun _ h => nomatch h), ?_⟩
        refine k_locl (loc_st (L1 := []) (l := [.slice none 0 0]) (T := T_api_Tree) (T0 := T_api_Tree) (c := true) rfl (by kernel_rfl) rfl (Nat.le_of_ble_eq_true rfl) (by simp [Value.cells, Value.oneCell'])) ?_
        rintro _ _ _ ⟨rfl, rfl⟩
        refine ⟨(fun _ h => nomatch h), k_perm (L' := K ++ [(b17, blk T_api_Tree [.slice x.1 x.2.1 x.2.2])]) ?_ (fin _ _ b17 x K)⟩
        rw [List.append_nil]
        exact List.perm_append_comm
      · refine k_locl (loc_alloc (z := [.slice none 0 0]) (by kernel_rfl)) ?_
        rintro _ _ _ ⟨b17, rfl, rfl, rfl⟩
        refine ⟨(fun _ h => nomatch h), ?_⟩
        refine call _ _ y _ (by repeat (first | exact List.mem_cons_self .. | apply List.mem_cons_of_mem)) (by repeat (first | exact List.mem_cons_self .. | apply List.mem_cons_of_mem)) fun x K => ?_
        refine k_locl (loc_st (L1 := K) (L2 := []) (l := [.slice none 0 0]) (T := T_api_Tree) (T0 := T_api_Tree) (c := true) rfl (by kernel_rfl) rfl (Nat.le_of_ble_eq_true rfl) (by simp [Value.cells, Value.oneCell'])) ?_
        rintro _ _ _ ⟨rfl, rfl⟩
        exact ⟨(fun _ h => nomatch h), fin _ _ b17 x K⟩
    · refine k_locl (loc_alloc (z := [.slice none 0 0]) (by kernel_rfl)) ?_
      rintro _ _ _ ⟨b17, rfl, rfl, rfl⟩
      refine ⟨(fun _ h => nomatch h), ?_⟩
      refine k_locl (loc_bytes (leftT li lk)) ?_
      rintro y _ _ ⟨rfl, rfl⟩
      refine ⟨(fun _ h => nomatch h), ?_⟩
      refine call _ _ y _ (by repeat (first | exact List.mem_cons_self .. | apply List.mem_cons_of_mem)) (by repeat (first | exact List.mem_cons_self .. | apply List.mem_cons_of_mem)) fun x K => ?_
      refine k_locl (loc_st (L1 := K) (L2 := []) (l := [.slice none 0 0]) (T := T_api_Tree) (T0 := T_api_Tree) (c := true) rfl (by kernel_rfl) rfl (Nat.le_of_ble_eq_true rfl) (by simp [Value.cells, Value.oneCell'])) ?_
      rintro _ _ _ ⟨rfl, rfl⟩
      exact ⟨(fun _ h => nomatch h), fin _ _ b17 x K⟩
  · rintro ⟨b17, es, sl⟩ L' ⟨⟩
    refine k_both (k_fact fun F0 hx => ?_)
    obtain ⟨rfl, hes⟩ := hx
    have hle : es.length = 5 := by rw [← h5, ← hes, List.length_map]
    generalize hL0 : ([(b17, blk T_api_Tree [.slice sl.1 sl.2.1 sl.2.2])] : Own) = L0
    have hm0 : (b17, blk T_api_Tree [.slice sl.1 sl.2.1 sl.2.2]) ∈ L0 := by rw [← hL0]; exact List.mem_singleton.2 rfl
    have hl : ∀ F, Holds (Sl 5 encE sl es :: [Sl 1 encI r2 lvl, Sl 1 encStr (p1, 19, c1) lsg, MxF]) F → sl.2.1 = 5 := fun F hF => by rw [(hF (Sl 5 encE sl es) (List.mem_cons_self ..)).1, hle]
    have M1 : Sl 1 encStr (p1, 19, c1) lsg ∈ [Sl 5 encE sl es, Sl 1 encI r2 lvl, Sl 1 encStr (p1, 19, c1) lsg, MxF] := (by repeat (first | exact List.mem_cons_self .. | apply List.mem_cons_of_mem))
    have M2 : Sl 1 encI r2 lvl ∈ [Sl 5 encE sl es, Sl 1 encI r2 lvl, Sl 1 encStr (p1, 19, c1) lsg, MxF] := (by repeat (first | exact List.mem_cons_self .. | apply List.mem_cons_of_mem))
    have M3 : Sl 5 encE sl es ∈ [Sl 5 encE sl es, Sl 1 encI r2 lvl, Sl 1 encStr (p1, 19, c1) lsg, MxF] := (by repeat (first | exact List.mem_cons_self .. | apply List.mem_cons_of_mem))
    refine k_joinJ (δ := Bool) (ts := [.b .bool]) (fun d => (d, ())) (fun d L' => Fact.prop (d = false ∧ L' = L0)) (fun _ _ => some (.ok true ())) (k_ite (fun h => by cases h) fun _ => ?_) ?_
    · refine k_ldO (b1 := .slice) sl hm0 (by kernel_rfl) rfl rfl ?_
      exact k_note hl fun hl => k_outJ false lbR0 (by rw [hl]; rfl) rfl fun F hF => ⟨rfl, rfl⟩
    · rintro d L' ⟨⟩
      refine k_fact fun F0 hx => ?_
      obtain ⟨rfl, rfl⟩ := hx
      refine k_ite (fun h => by cases h) fun _ => ?_
      refine k_draw [] (fun _ h => nomatch h) ?_
      refine k_elq (b1 := .int .i64) encI_len M2 M2 (by kernel_rfl) (by kernel_rfl) k rfl hvk vk rfl ?_
      refine k_elq (b1 := .int .i64) encI_len M2 M2 (by kernel_rfl) (by kernel_rfl) i rfl hvi vi rfl ?_
      refine k_ite (fun hgt => ?_) (fun hgt => ?_)
      · rw [show decide (vk > vi) = true from hgt] at hcond
        simp only [cond_true, Bool.and_eq_true] at hcond
        obtain ⟨⟨c1, c2⟩, c3⟩ := hcond
        obtain ⟨e0, g0, q0⟩ := node_get hes c1
        obtain ⟨e1, g1, q1⟩ := node_get hes c2
        obtain ⟨e2, g2, q2⟩ := node_get hes c3
        refine k_draw L' (fun p hp => hp) ?_
        refine k_ldqO (b1 := .slice) sl hm0 (by kernel_rfl) rfl rfl ?_
        refine k_flq (b1 := .str) encE_len M3 M3 (by kernel_rfl) (by kernel_rfl) 0 rfl g0 e0.f.text rfl ?_
        refine k_elq (b1 := .str) encSt_len M1 M1 (by kernel_rfl) (by kernel_rfl) i rfl hli li rfl ?_
        refine k_ite (fun _ => ?_) (fun h => by have h' : (e0.f.text.toList == li.toList) = false := h; rw [h'] at q0; cases q0)
        refine k_ldqO (b1 := .slice) sl hm0 (by kernel_rfl) rfl rfl ?_
        refine k_elq (b1 := .int .i64) encE_len M3 M3 (by kernel_rfl) (by kernel_rfl) 1 rfl g1 e1.f.kind rfl ?_
        refine k_ite (fun _ => ?_) (fun h => by have h' : (e1.f.kind == 17) = false := h; rw [h'] at q1; cases q1)
        refine k_ldqO (b1 := .slice) sl hm0 (by kernel_rfl) rfl rfl ?_
        refine k_flq (b1 := .str) encE_len M3 M3 (by kernel_rfl) (by kernel_rfl) 2 rfl g2 e2.f.text rfl ?_
        refine k_elq (b1 := .str) encSt_len M1 M1 (by kernel_rfl) (by kernel_rfl) k rfl hlk lk rfl ?_
        refine k_ite (fun _ => ?_) (fun h => by have h' : (e2.f.text.toList == lk.toList) = false := h; rw [h'] at q2; cases q2)
        refine k_vall known_m (fun A hA => by obtain rfl := List.mem_singleton.1 hA; exact (by repeat (first | exact List.mem_cons_self .. | apply List.mem_cons_of_mem))) (fun p hp => hp) ?_
        exact k_ret1 (t := tB) true rfl rfl
      · rw [show decide (vk > vi) = false from hgt] at hcond
        simp only [cond_false, Bool.and_eq_true] at hcond
        obtain ⟨⟨c1, c2⟩, c3⟩ := hcond
        obtain ⟨e0, g0, q0⟩ := node_get hes c1
        obtain ⟨e1, g1, q1⟩ := node_get hes c2
        obtain ⟨e2, g2, q2⟩ := node_get hes c3
        refine k_draw L' (fun p hp => hp) ?_
        refine k_ldqO (b1 := .slice) sl hm0 (by kernel_rfl) rfl rfl ?_
        refine k_flq (b1 := .str) encE_len M3 M3 (by kernel_rfl) (by kernel_rfl) 0 rfl g0 e0.f.text rfl ?_
        refine k_elq (b1 := .str) encSt_len M1 M1 (by kernel_rfl) (by kernel_rfl) k rfl hlk lk rfl ?_
        refine k_ite (fun _ => ?_) (fun h => by have h' : (e0.f.text.toList == lk.toList) = false := h; rw [h'] at q0; cases q0)
        refine k_ldqO (b1 := .slice) sl hm0 (by kernel_rfl) rfl rfl ?_
        refine k_flq (b1 := .str) encE_len M3 M3 (by kernel_rfl) (by kernel_rfl) 1 rfl g1 e1.f.text rfl ?_
        refine k_elq (b1 := .str) encSt_len M1 M1 (by kernel_rfl) (by kernel_rfl) i rfl hli li rfl ?_
        refine k_ite (fun _ => ?_) (fun h => by have h' : (e1.f.text.toList == li.toList) = false := h; rw [h'] at q1; cases q1)
        refine k_ldqO (b1 := .slice) sl hm0 (by kernel_rfl) rfl rfl ?_
        refine k_flq (b1 := .str) encE_len M3 M3 (by kernel_rfl) (by kernel_rfl) 4 rfl g2 e2.f.text rfl ?_
        refine k_ite (fun _ => ?_) (fun h => by have h' : (e2.f.text.toList == kz.toList) = false := h; rw [h'] at q2; cases q2)
        refine k_vall known_m (fun A hA => by obtain rfl := List.mem_singleton.1 hA; exact (by repeat (first | exact List.mem_cons_self .. | apply List.mem_cons_of_mem))) (fun p hp => hp) ?_
        exact k_ret1 (t := tB) true rfl rfl
end Go.Proofs.YtjlgcpgjdgeejaaGreatDoor
end

/- From what a law's tree comes to, to the given statement: what is common to all laws. Conditions: none (general tools). -/
section
open Go.ChangeShapes Go.WideShapes Go.ChangeAt Go.WideElems Go.RowKit
namespace Go.Proofs.YtjlgcpgjdgeejaaGreatDoor
set_option linter.unusedSimpArgs false
set_option linter.unusedVariables false

section
variable {H : Type} {enc : TypeId × Value → H}
theorem handed_and_shaped {a : Assume} {C : Checked} {os : Os} {f : FuncId} {fn : Func} {s : ChangeSpec} {conds : List PathCond} {apart fresh handsOn again : Bool} {X : World → Array Value → Prop}
    (own : ownKnob C.prog.godebug = none) (started : os.Started) (noInit : C.prog.inits.idxOf? f = none) (hfn : C.prog.funcs[f]? = some fn)
    (witness : ∃ (w : World) (tape : Tape) (i : Input), w.os = os ∧ (w.forCall tape i).Shaped C.prog ∧ i.vars = [] ∧ Input.okWide C.prog (w.forCall tape i) .any w.heap.size f i ∧
      ((s.pre enc C.prog fn conds apart (w.forCall tape i).memory i.args ∧ X (w.forCall tape i).memory i.args) ∧ sizedMet enc C.prog fn (OpenSpec.ofChange s) apart (w.forCall tape i).memory i.args) ∧ a.holds C.prog (lone (Frame.enter C.prog f i.args .normal) [] (w.forCall tape i)))
    (contract : ∀ (W : World) (base : Nat) (args : Array Value) (ds gs : List (DataW H)) (before : List MemPlace),
      (∀ (j : Nat) t v, fn.params[j]? = some t → args[j]? = some v → Value.okWide C.prog W .any base t v) →
      DataW.Whole enc C.prog fn.params.toList s.vars apart W args.toList ds gs before →
      (DataW.weightsEach C.prog (fn.params.toList ++ s.plain.varTypes C.prog) (ds ++ gs)).all (· ≤ reachBytes) = true →
      W.ShapedOpen C.prog →
      Calls C.prog f args W fun e W' => ∃ v, e = .returned v ∧ s.post enc C.prog fn apart fresh handsOn again W args v W') :
    ReturnsInHanded a C os f .any (fun w args => (s.pre enc C.prog fn conds apart w args ∧ X w args) ∧ sizedMet enc C.prog fn (OpenSpec.ofChange s) apart w args) (s.post enc C.prog fn apart fresh handsOn again) := by
  refine returnsInHanded_of_calls own started noInit witness ?_
  intro w tape i _ hsh _ hok hpre hholds
  obtain ⟨_, _, _, fn', hfn', _, _, _, _, hval⟩ := hok
  have e : fn' = fn := Option.some.inj (hfn'.symm.trans hfn)
  subst e
  obtain ⟨⟨⟨ds, gs, before, hw, hc⟩, hx⟩, hz⟩ := hpre
  have hw' := DataW.Whole.of_heap (w' := w.forCall tape i) (by rfl) hw
  refine (contract (w.forCall tape i) w.heap.size i.args ds gs before hval hw' (hz.weights hw) hsh).mono fun e W' ⟨v, he, hp⟩ => ?_
  subst he
  exact ChangeSpec.post_blind hp
theorem trodAll_stays {P : Program} (hl : laidOutB P = true) {W W' : World} {sp' : Nat → Bool} : ∀ {ts : List TypeId} {vs : List Value} {ds : List (DataW H)} {ps : List MemPlace}, (∀ t ∈ ts, P.readableRec t = true ∧ t < P.types.size) →
    DataW.TrodAll enc P W 0 (fun _ => true) true ts vs ds ps → (∀ x ∈ ps, W.sameAt W' x) → (∀ x ∈ ps, sp' x.block = true) → DataW.TrodAll enc P W' 0 sp' true ts vs ds ps
  | [], _, _, _, _, h, _, _ => by
    obtain ⟨rfl, rfl, rfl⟩ := trodAll_nil h
    exact rfl
  | t :: ts, _, _, _, ht, h, h1, h2 => by
    obtain ⟨v, vs1, d, ds1, a, b, rfl, rfl, rfl, h3, h4⟩ := trodAll_cons h
    obtain ⟨g1, g2⟩ := ht t (List.mem_cons_self ..)
    exact ⟨a, b, Trod_stays hl g1 g2 h3 (fun x hx => h1 x (List.mem_append_left _ hx)) (fun x hx => h2 x (List.mem_append_left _ hx)),
      trodAll_stays hl (fun t' ht' => ht t' (List.mem_cons_of_mem _ ht')) h4 (fun x hx => h1 x (List.mem_append_right _ hx)) (fun x hx => h2 x (List.mem_append_right _ hx)), rfl⟩
theorem post_below {P : Program} {f : Func} {s : ChangeSpec} {apart fresh handsOn again : Bool} {W W' : World} {args : Array Value} {ds gs : List (DataW H)} {before : List MemPlace} {tb : TypeId}
    (hl : laidOutB P = true) (ht : ∀ t ∈ f.params.toList, P.readableRec t = true ∧ t < P.types.size) (hW : DataW.Whole enc P f.params.toList s.vars apart W args.toList ds gs before) (hv : s.vars = [])
    (hfn : s.fn H (ds ++ gs) = { results := [.lit (.bool true)], args := ds }) (hr : f.resultTypes = #[tb]) (hb : P.underlying tb = some .bool) (h : Below W.heap.size W W') :
    s.post enc P f apart fresh handsOn again W args (.bool true) W' := by
  have hW0 := hW
  have hlt : ∀ p ∈ before, p.block < W.heap.size := fun p hp => hW.lt p hp
  obtain ⟨pa, pv, hA, hV, hps, hz, hn⟩ := hW
  rw [hv] at hV
  obtain ⟨rfl, rfl⟩ := trodVars_none hV
  rw [List.append_nil] at hps
  subst hps
  have hargs : ∀ sp : Nat → Bool, (∀ p ∈ before, sp p.block = true) → DataW.TrodAll enc P W' 0 sp true f.params.toList args.toList ds before := fun sp hsp =>
    trodAll_stays hl ht hA (fun x hx => h.same (hlt x hx)) hsp
  have hres : ∀ (b : Nat) (sp : Nat → Bool) (hd : Bool), DataW.TrodAll enc P W' b sp hd f.resultTypes.toList ((Value.bool true).resultList f.resultTypes.size) [.lit (.bool true)] [] := fun b sp hd => by
    rw [hr]; exact trodAll_mk1 (shut_bool hb _)
  have hold : ∀ p ∈ before, (fun b => decide (b < W.heap.size)) p.block = true := fun p hp => by simpa using hlt p hp
  refine ⟨ds, [], before, [], before, [], hW0, ?_, ?_, ?_, h.frame _, fun _ => ⟨?_, ?_⟩⟩
  · rw [hfn]; exact hres _ _ _
  · rw [hfn]; exact hargs _ hold
  · rw [hfn, hv]; exact rfl
  · exact ok_one (v := .bool true) hr rfl (okWide_bool_mk hb _)
  · refine ⟨_, [], ([] ++ before) ++ [], ⟨[] ++ before, [], trodAll_append (hargs _ (fun _ _ => rfl)) (hres _ _ _), by rw [hv]; exact rfl, rfl, ?_, ?_⟩, ?_⟩
    · intro b off hp
      have hp' : MemPlace.cell b off ∈ before := by simpa using hp
      have h1 : b < W.heap.size := hlt _ hp'
      rw [h.frozen (p := ⟨b, off, none⟩) h1]
      exact hz b off hp'
    · intro ha
      simpa using hn ha
    · intro p hp _
      simpa using hp
end
theorem calls_below {P : Program} {f : FuncId} {fn : Func} {args : Array Value} {Γ : List Fact} (hf : P.funcs[f]? = some fn) (hb : fn.body.isNone = false) (hn : (fn.name == "runtime.NumGoroutine") = false)
    (h : Meets P (I0 : Ifc Empty Unit) (callS f args) tB (Pure.pure true) RelEq Γ) (W : World) (hΓ : Holds Γ fun b => W.heap[b]?) :
    Calls P f args W fun e W' => e = .returned (.bool true) ∧ Below W.heap.size W W' := by
  have hsp : Split ⟨W, fun _ => none⟩ W [] (fun b => W.heap[b]?) := ⟨rfl, rfl, rfl, Nat.le_refl _, List.nodup_nil, (fun _ _ h => nomatch h), (fun b o hb => ⟨hb, fun p hp => nomatch hp⟩), (fun b o hb => nomatch hb)⟩
  have h1 := h ⟨W, fun _ => none⟩ W (fun b => W.heap[b]?) [] () (.ok true ()) rfl hΓ rfl hsp
  rw [run_callS hf hb hn] at h1
  refine Calls.mono h1 fun e W' he => ?_
  cases e with
  | returned v =>
    obtain ⟨F', hle, H', K, x, hv, _, hS, hK, hx⟩ := he
    have hx' : x = true := hx
    subst hx'
    cases hv
    refine ⟨rfl, hS.os, hS.tape, hS.output, hS.size, fun k hk => ?_⟩
    have hk' : W.heap[k]? = some W.heap[k] := Array.getElem?_eq_getElem hk
    rw [hk']
    exact (hS.frz k _ (hle k _ hk')).1
  | panicked c =>
    obtain ⟨F', hle, H', K, x, hv, _⟩ := he
    cases hv
  | outgrown => exact he.elim
end Go.Proofs.YtjlgcpgjdgeejaaGreatDoor
end

/- What all laws of the seat share: the world's shape, the kinds of their arguments. Conditions: none. -/
section
open Go.ChangeShapes Go.WideShapes Go.ChangeAt Go.WideElems Go.RowKit
namespace Go.Proofs.YtjlgcpgjdgeejaaGreatDoor
open Go
set_option maxRecDepth 100000
theorem ownK : ownKnob Tryz.prog.godebug = none := by kernel_rfl
theorem laidK : laidOutB Tryz.prog = true := by kernel_rfl
theorem boolK : Tryz.prog.underlying 4 = some .bool := by kernel_rfl
theorem mx_of {W : World} (h : W.ShapedOpen Tryz.prog) : MxF.p fun b => W.heap[b]? := by
  obtain ⟨m, hm⟩ := cell_of_shapedOpen_int (g := 0) (t := T_int) (zero := #[.int .i64 0]) (k := .i64) h (of_decide_eq_true (by kernel_rfl)) (by kernel_rfl) rfl (by kernel_rfl) (by kernel_rfl) (by kernel_rfl)
  unfold World.cell? at hm
  simp only at hm
  cases hh : W.heap[0]? with
  | none => rw [hh] at hm; cases hm
  | some o =>
    rw [hh] at hm
    cases o with
    | cells c t fr => exact ⟨t, c, m, fr, hh, by simpa using hm⟩
    | _ => cases hm
theorem params_ok {fn : Func} {ts : Array TypeId} (h : fn.params = ts) (hall : (ts.toList.all fun t => Tryz.prog.readableRec t && decide (t < Tryz.prog.types.size)) = true) : ∀ t ∈ fn.params.toList, Tryz.prog.readableRec t = true ∧ t < Tryz.prog.types.size := by
  subst h
  intro t ht
  have := List.all_eq_true.1 hall t ht
  rw [Bool.and_eq_true, decide_eq_true_eq] at this
  exact this
end Go.Proofs.YtjlgcpgjdgeejaaGreatDoor
end

/- The claim: shucklaw4.ParseLeft answers true for any two numbers, and what was there is as it was. Conditions: those of the given row (the listed variables are laid as the program's text lays them). -/
section
open Go.ChangeShapes Go.WideShapes Go.ChangeAt Go.WideElems Go.RowKit
namespace Go.Proofs.YtjlgcpgjdgeejaaGreatDoor
open Go
set_option linter.unusedSimpArgs false
set_option linter.unusedVariables false
set_option maxRecDepth 100000

theorem left_door (os : Os) (args : Array Value) : laidMetH Tryz.prog Rows.parseLeftRow.laid ((World.doorLaid Tryz.prog 400 os).forCall (fun _ _ => 0) ⟨#[], args, []⟩).memory :=
  laidMetH_of_parts3 (fuel := 8) (laidMet_of_run' 8 (by kernel_rfl) (by kernel_rfl)) (by kernel_rfl) (by kernel_rfl)
theorem left_wit (os : Os) (H : Type) (enc : TypeId × Value → H) : ∃ (w : World) (tape : Tape) (i : Input), w.os = os ∧ (w.forCall tape i).Shaped Tryz.checked.prog ∧ i.vars = [] ∧ Input.okWide Tryz.checked.prog (w.forCall tape i) .any w.heap.size 7 i ∧
      ((Rows.parseLeftSpec.pre enc Tryz.checked.prog Tryz.f7 [] false (w.forCall tape i).memory i.args ∧ laidMetH Tryz.prog Rows.parseLeftRow.laid (w.forCall tape i).memory) ∧ sizedMet enc Tryz.checked.prog Tryz.f7 (OpenSpec.ofChange Rows.parseLeftSpec) false (w.forCall tape i).memory i.args) ∧ ({} : Assume).holds Tryz.checked.prog (lone (Frame.enter Tryz.checked.prog 7 i.args .normal) [] (w.forCall tape i)) :=
    ChangeSpec.witness_shaped (enc := enc) (C := Tryz.checked) (os := os) (X := fun w _ => laidMetH Tryz.prog Rows.parseLeftRow.laid w) false (World.doorLaid Tryz.prog 400 os) #[.int .i64 0, .int .i64 0] 8 rfl (World.shaped_of_RefB (by kernel_rfl) (by kernel_rfl)) (by kernel_rfl) (by kernel_rfl) (by kernel_rfl) (left_door os _)
theorem left_lifted (os : Os) (started : os.Started) (H : Type) (enc : TypeId × Value → H) :
    ReturnsInHanded {} Tryz.checked os 7 .any (fun w args => (Rows.parseLeftSpec.pre enc Tryz.prog Tryz.f7 [] false w args ∧ laidMetH Tryz.prog Rows.parseLeftRow.laid w) ∧ sizedMet enc Tryz.prog Tryz.f7 (OpenSpec.ofChange Rows.parseLeftSpec) false w args)
      (Rows.parseLeftSpec.post enc Tryz.prog Tryz.f7 false true false false) := by
  refine handed_and_shaped (C := Tryz.checked) (X := fun w _ => laidMetH Tryz.prog Rows.parseLeftRow.laid w) ownK started (by kernel_rfl) Tryz.func7 (left_wit os H enc) ?_
  intro W base args ds gs before hval0 hW _ hsh
  have hval : ∀ (j : Nat) t v, Tryz.f7.params[j]? = some t → args[j]? = some v → Value.okWide Tryz.prog W .any base t v := hval0
  have hW' := hW
  obtain ⟨p, q, hA0, hV, rfl, hfz, hnd⟩ := hW
  have hA : DataW.TrodAll enc Tryz.prog W 0 (fun _ => true) true Tryz.f7.params.toList args.toList ds p := hA0
  rw [Tryz.params7] at hA hval
  obtain ⟨v0, v1, d0, d1, p0, p1, rfl, rfl, rfl, h0, h1⟩ := trodAll_two hA
  obtain ⟨rfl, rfl⟩ := trodVars_none hV
  obtain ⟨a, rfl, rfl, rfl, ha⟩ := open_int (k := .i64) (show Tryz.prog.underlying 3 = some (.int .i64) by kernel_rfl) (hval 0 3 v0 rfl rfl) h0
  obtain ⟨b, rfl, rfl, rfl, hb⟩ := open_int (k := .i64) (show Tryz.prog.underlying 3 = some (.int .i64) by kernel_rfl) (hval 1 3 v1 rfl rfl) h1
  refine (calls_below (args := #[.int .i64 a, .int .i64 b]) Tryz.func7 rfl rfl (left_m a b) W (fun A hA => by obtain rfl := List.mem_singleton.1 hA; exact mx_of hsh)).mono fun e W' ⟨he, hbel⟩ => ?_
  subst he
  exact ⟨_, rfl, post_below (tb := 4) laidK (params_ok Tryz.params7 (by kernel_rfl)) hW' rfl rfl (by kernel_rfl) boolK hbel⟩
theorem left_f1 : joinedFacts Tryz.pinned.checked.prog 7 Tryz.f7 Rows.parseLeftSpec Rows.parseLeftRow = true := by kernel_rfl
theorem left_f2 : Tryz.pinned.checked.prog.funcNamed Rows.parseLeftRow.func = some 7 := by kernel_rfl
theorem left_f3 : Tryz.f7.isInstance Tryz.pinned.checked.prog Rows.parseLeftRow.origin Rows.parseLeftRow.targs := of_decide_eq_true (by kernel_rfl)
theorem left_f4 : Tryz.f7.isWrapper Tryz.pinned.checked.prog Rows.parseLeftRow.wrapper Rows.parseLeftRow.mainSum := by unfold Func.isWrapper; first | (rw [if_pos (by decide +kernel)]; kernel_rfl) | (rw [if_neg (by decide +kernel)]; exact ⟨rfl, rfl⟩)
theorem left_holds : Rows.ParseLeftSaid :=
  OpenClaim.holds_of_wide 7 Tryz.f7 rfl rfl rfl rfl rfl rfl rfl ⟨rfl, rfl, rfl, rfl, rfl⟩ rfl rfl rfl rfl rfl left_f2 Tryz.func7 left_f1 left_f3 left_f4 (fun os started H enc _ => left_lifted os started H enc)
end Go.Proofs.YtjlgcpgjdgeejaaGreatDoor
end

/- The claim: shucklaw4.ParseLeft answers true for any two numbers, and what was there is as it was: the tied card. Conditions: those of the given row. -/
section
namespace Go.Proofs.YtjlgcpgjdgeejaaGreatDoor
open Go
set_option maxRecDepth 100000
theorem left_c1 (f : FuncId) (fn : Func) (hf : Tryz.prog.funcNamed "shuck/shucklaw4.ParseLeft" = some f) (hfn : Tryz.prog.funcs[f]? = some fn) : f = 7 ∧ fn = Tryz.f7 := by
  obtain rfl : f = 7 := Option.some.inj (hf.symm.trans left_f2)
  exact ⟨rfl, (Option.some.inj (Tryz.func7.symm.trans hfn)).symm⟩
theorem parseLeft_holds : Rows.ParseLeftCardSaid :=
  Claim7.holds_tied_plain_at .later [] [.data, .data, .data, .sentinel, .sentinel] true (true, "fabbca7475e12f51d7834343e6111eabd2fa15b7b88547ffaa62aaa041ae6fe1") true
    left_holds (fun _ h => by cases h) (by kernel_rfl) (fun _ h => by cases h) parseLeft_row_tie rfl ⟨rfl, rfl⟩ (by kernel_rfl) rfl
    (fun f fn hf hfn => by
      obtain ⟨rfl, rfl⟩ := left_c1 f fn hf hfn
      exact ⟨by kernel_rfl, fun j t ht => by
        rw [Tryz.params7] at ht
        have hm : t ∈ [3, 3] := by simpa using Array.mem_of_getElem? ht
        have hall : ([3, 3].all fun u => !Tryz.prog.wantsStandIn u) = true := by kernel_rfl
        exact (show Tryz.prog.wantsStandIn t = false by simpa using List.all_eq_true.1 hall t hm)⟩)
    (by kernel_rfl)
#print axioms parseLeft_holds
end Go.Proofs.YtjlgcpgjdgeejaaGreatDoor
end
