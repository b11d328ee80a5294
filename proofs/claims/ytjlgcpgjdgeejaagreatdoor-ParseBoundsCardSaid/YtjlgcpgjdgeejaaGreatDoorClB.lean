/- A part of the claim: general tools, trees of the program, and what its functions come to (PBase to Iter). Conditions: as its theorems say. -/
import Derived.Test.YtjlgcpgjdgeejaaGreatDoorClA
import Derived.Laws.AppendOwn
import Derived.Laws.Slices
import Derived.Lib.Atoi
import Derived.Test.YtjlgcpgjdgeejaaGreatDoorProg

/- The parser's state and nodes: how they lie in memory; its basic steps as plain specifications. Conditions: none. -/
section
namespace Go.Proofs.YtjlgcpgjdgeejaaGreatDoor
open Go
set_option linter.unusedSimpArgs false
set_option linter.unusedVariables false
set_option linter.constructorNameAsVariable false
set_option maxRecDepth 100000

@[reducible] noncomputable def PG : Program := Tryz.prog
abbrev bsTok : List B := [.int .i64, .str, .int .i64, .int .i64]
abbrev Tok := HB bsTok
abbrev tTok : Ty := .c (.agg bsTok)
def encTok (t : Tok) : List Value := HB.enc bsTok t
theorem encTok_len (t : Tok) : (encTok t).length = 4 := rfl
def Tok.kind (t : Tok) : Int := t.1
def Tok.text (t : Tok) : ByteArray := t.2.1
def Tok.pos (t : Tok) : Int := t.2.2.1
def Tok.fin (t : Tok) : Int := t.2.2.2.1
def noTok : Tok := ⟨0, kE, 0, 0, ()⟩

inductive N where
  | mk (kind : Int) (text : ByteArray) (num pos : Int) (kids : List N)
def N.kind : N → Int | .mk k _ _ _ _ => k
def N.num : N → Int | .mk _ _ n _ _ => n
def N.kids : N → List N | .mk _ _ _ _ l => l
def N.setPos : N → Int → N | .mk k t n _ l, p => .mk k t n p l
def N.setKids : N → List N → N | .mk k t n p _, l => .mk k t n p l
def encPtr (p : Option Addr) : List Value := [.pointer p]
theorem encPtr_len (p : Option Addr) : (encPtr p).length = 1 := rfl
def nodeCells (kind : Int) (text : ByteArray) (num pos : Int) (sl : SlD) : List Value :=
  [.int .i64 kind, .string text, .int .i64 num, .slice none 0 0, .int .i64 pos, .slice sl.1 sl.2.1 sl.2.2]
mutual
inductive NodeAt (F : Heap) : Option Addr → N → Prop
  | mk (b : Nat) (kind : Int) (text : ByteArray) (num pos : Int) (kids : List N) (sl : SlD) (ps : List (Option Addr)) :
    F b = some (blk T_syntax_node (nodeCells kind text num pos sl)) → (Sl 1 encPtr sl ps).p F → NodesAt F ps kids → NodeAt F (some ⟨b, 0, none⟩) (.mk kind text num pos kids)
inductive NodesAt (F : Heap) : List (Option Addr) → List N → Prop
  | nil : NodesAt F [] []
  | cons (p : Option Addr) (n : N) (ps : List (Option Addr)) (ns : List N) : NodeAt F p n → NodesAt F ps ns → NodesAt F (p :: ps) (n :: ns)
end
mutual
theorem NodeAt.mono {F F' : Heap} (hl : F.le F') : ∀ {p : Option Addr} {n : N}, NodeAt F p n → NodeAt F' p n
  | _, _, .mk b kind text num pos kids sl ps h1 h2 h3 => .mk b kind text num pos kids sl ps (hl _ _ h1) ((Sl 1 encPtr sl ps).mono F F' hl h2) (NodesAt.mono hl h3)
theorem NodesAt.mono {F F' : Heap} (hl : F.le F') : ∀ {ps : List (Option Addr)} {ns : List N}, NodesAt F ps ns → NodesAt F' ps ns
  | _, _, .nil => .nil
  | _, _, .cons p n ps ns h1 h2 => .cons p n ps ns (NodeAt.mono hl h1) (NodesAt.mono hl h2)
end
def NodeF (n : N) (p : Option Addr) : Fact := ⟨fun F => NodeAt F p n, fun F F' hl h => h.mono hl⟩
def NodesF (ns : List N) (ps : List (Option Addr)) : Fact := ⟨fun F => NodesAt F ps ns, fun F F' hl h => h.mono hl⟩

structure PSt where
  l : List Tok
  i : Nat
  left : Tok
  split : Bool
def numOk (t : Tok) : Prop := (t.kind = 3 → t.text.size ≤ 18 ∧ (Lib.atoi t.text.data.toList).isSome = true) ∧ t.text.size ≤ 4194304
def PSt.ok (s : PSt) : Prop := s.i < s.l.length ∧ s.l.length ≤ 1099511627776 ∧ numOk s.left ∧ ∀ t ∈ s.l, numOk t
def parCells (sl : SlD) (s : PSt) : List Value :=
  [.slice sl.1 sl.2.1 sl.2.2, .int .i64 s.i] ++ encTok s.left ++ [.bool s.split]
def PI (pb : Nat) : Ifc Int PSt where
  inv s H := Fact.ex fun sl : SlD => Fact.ex fun T0 : TypeId => (Fact.prop (H = [(pb, blk T0 (parCells sl s))] ∧ s.ok)).both (Sl 4 encTok sl s.l)
  err y c := c = [{ v := .iface T_syntax_refused (.agg #[.int .i64 y]), recovered := false }]
abbrev PM := Sp Int PSt
def PSt.at (s : PSt) (k : Nat) : Tok := s.l.getD (min k (s.l.length - 1)) noTok
def PSt.now (s : PSt) : Tok := if s.split then s.left else s.at s.i
def nowS : PM Tok := fun s => some (.ok s.now s)
def atS (n : Int) : PM Tok := fun s => some (.ok (s.at (s.i + n.toNat)) s)
def thenS (n : Int) : PM Tok := if n == 0 then nowS else atS n
def advS : PM Unit := fun s => some (.ok () { s with split := false, i := min (s.i + 1) (s.l.length - 1) })
def nextS : PM Tok := do
  let t ← nowS
  advS
  pure t
def errS {α : Type} (y : Int) : PM α := fun _ => some (.err y)
def failS {α : Type} : PM α := do
  let t ← nowS
  errS t.pos
def saysB (t : Tok) (s : ByteArray) : Bool := (t.kind == 9 || t.kind == 2) && t.text.toList == s.toList
def isS (s : ByteArray) : PM Bool := do let t ← nowS; pure (saysB t s)
def takeS (s : ByteArray) : PM Bool := do
  if !(← isS s) then pure false else do
    let _ ← nextS
    pure true
def mustS (s : ByteArray) : PM Unit := do
  if !(← takeS s) then failS else pure ()
def nameS : PM ByteArray := do
  let t ← nowS
  if t.kind != 1 then failS else do
    let t ← nextS
    pure t.text
end Go.Proofs.YtjlgcpgjdgeejaaGreatDoor
end

/- The parser's basic steps: now, then, next, says, is, take, must, name. Conditions: none. -/
section
namespace Go.Proofs.YtjlgcpgjdgeejaaGreatDoor
open Go
set_option linter.unusedSimpArgs false
set_option linter.unusedVariables false
set_option linter.constructorNameAsVariable false
set_option maxRecDepth 100000

abbrev pAt (pb : Nat) : Addr := ⟨pb, 0, none⟩
theorem wrap_id {n : Int} (h0 : -9223372036854775808 ≤ n) (h1 : n ≤ 9223372036854775807) : IntKind.i64.wrap n = n := IntWalk.i64_in _ ⟨h0, h1⟩

theorem getD_some {α : Type} {l : List α} {i : Nat} {d : α} (h : i < l.length) : l[i]? = some (l.getD i d) := by simp [h]
theorem now_m (pb : Nat) : Meets PG (PI pb) (callS F_parser_now #[.pointer (some (pAt pb))]) tTok nowS RelEq [] := by
  refine c_parser_now (pAt pb) ?_
  unfold t_parser_now
  refine Sim.opened fun st H => ?_
  refine at_ex fun sl => at_ex fun T0 => at_both (at_prop fun ⟨hH, hok⟩ => ?_)
  subst hH
  refine at_loc (loc_alloc (z := [.int .i64 0, .string kE, .int .i64 0, .int .i64 0]) (by kernel_rfl)) ?_
  rintro _ _ _ ⟨b, rfl, rfl, rfl⟩
  refine at_loc (loc_ld1 (b1 := .bool) (x := st.split) (Rd.own (List.mem_cons_of_mem _ (List.mem_cons_self ..))) (by kernel_rfl) rfl rfl) ?_
  rintro _ _ _ ⟨rfl, rfl, rfl⟩
  refine at_ite (fun h => ?_) (fun h => ?_)
  · refine at_loc (loc_ldA (bs := bsTok) (x := st.left) (Rd.own (List.mem_cons_of_mem _ (List.mem_cons_self ..))) (by kernel_rfl) rfl rfl) ?_
    rintro _ _ _ ⟨rfl, rfl, rfl⟩
    refine at_loc (loc_st (L1 := []) (T := T_api_Token) (c := true) rfl (by kernel_rfl) rfl (Nat.le_of_ble_eq_true rfl) (by simp [Value.cells, Value.oneCell'])) ?_
    rintro _ _ _ ⟨rfl, rfl⟩
    refine at_ret (b := st.now) (st := st) (H := [(pb, blk T0 (parCells sl st))]) (x := st.left) rfl (List.sublist_cons_self ..) ?_ ?_ ?_
    · exact fun F hF => ⟨sl, T0, ⟨rfl, hok⟩, hF _ (List.mem_cons_self ..)⟩
    · exact fun r w F hF hsp => run_resRcA (vs := encTok st.left) (by kernel_rfl) (hsp.own _ _ (List.mem_cons_self ..)) rfl rfl
    · intro F _; simp [RelEq, Fact.prop, PSt.now, h]
  · refine at_note (φ := ∃ a, sl.1 = some a ∧ a.spot = none) (fun F hF => Sl.addr (hF _ (List.mem_cons_self ..)) (by have := hok.1; omega)) fun ⟨a, ha, ha'⟩ => ?_
    refine at_draw [(pb, blk T0 (parCells sl st))] (fun p hp => List.mem_cons_of_mem _ hp) ?_
    have hlen : (st.l.length : Int) = sl.2.1 ∨ True := .inr trivial
    refine at_opq (t1 := tSl) sl (qval_ld1 (QRd.own (List.mem_cons_self ..)) (by kernel_rfl) rfl rfl) ?_
    refine at_opq (t1 := tI) (st.i : Int) (qval_ld1 (QRd.own (List.mem_cons_self ..)) (by kernel_rfl) rfl rfl) ?_
    refine at_opq (t1 := tSl) sl (qval_ld1 (QRd.own (List.mem_cons_self ..)) (by kernel_rfl) rfl rfl) ?_
    refine at_note (φ := sl.2.1 = st.l.length) (fun F hF => (hF _ (List.mem_cons_self ..)).1) fun hl => ?_
    obtain ⟨hok1, hok2, hok3⟩ := hok
    have hmin : (if IntKind.i64.wrap ((sl.2.1 : Int) - 1) < (st.i : Int) then IntKind.i64.wrap ((sl.2.1 : Int) - 1) else (st.i : Int)) = ((min st.i (st.l.length - 1) : Nat) : Int) := by
      rw [wrap_id (by omega) (by omega)]
      split <;> omega
    have hk : min st.i (st.l.length - 1) < st.l.length := by omega
    refine at_opq (t1 := tA) _ (qidx encTok_len ha (fun F hF => hF _ (List.mem_cons_self ..)) (by kernel_rfl) _ hmin hk) ?_
    refine at_opq (t1 := tTok) (st.at st.i) (qelem encTok_len ha (fun F hF => hF _ (List.mem_cons_self ..)) (getD_some hk) (by kernel_rfl)) ?_
    refine at_lift ?_
    refine at_loc (loc_st (L1 := []) (T := T_api_Token) (c := true) rfl (by kernel_rfl) rfl (Nat.le_of_ble_eq_true rfl) (by simp [Value.cells, Value.oneCell'])) ?_
    rintro _ _ _ ⟨rfl, rfl⟩
    refine at_ret (b := st.now) (st := st) (H := [(pb, blk T0 (parCells sl st))]) (x := st.at st.i) rfl (List.sublist_cons_self ..) ?_ ?_ ?_
    · exact fun F hF => ⟨sl, T0, ⟨rfl, hok1, hok2, hok3⟩, hF _ (List.mem_cons_self ..)⟩
    · exact fun r w F hF hsp => run_resRcA (vs := encTok (st.at st.i)) (by kernel_rfl) (hsp.own _ _ (List.mem_cons_self ..)) rfl rfl
    · intro F _; simp [RelEq, Fact.prop, PSt.now, h]

theorem says_m {ε σ : Type} (I : Ifc ε σ) (t : Tok) (s : ByteArray) : Meets PG I (callS F_syntax_says #[.agg #[.int .i64 t.1, .string t.2.1, .int .i64 t.2.2.1, .int .i64 t.2.2.2.1], .string s]) tB (Pure.pure (saysB t s)) RelEq [] := by
  refine c_syntax_says t s ?_
  unfold t_syntax_says
  refine sim_loc (loc_box _) ?_
  rintro _ _ _ ⟨b, rfl, rfl, rfl⟩
  have fin : ∀ (q : Option Quiet) (c : Bool), c = saysB t s → Sim PG I tB (pl RelEq) noLabel q (.ret #[.v (.bool c)]) (Pure.pure (saysB t s)) [(b, blk T_api_Token (encTok t))] [] := fun q c hc =>
    sim_ret1 (t := tB) c rfl (fun F _ => hc)
  refine sim_loc (loc_ld1 (b1 := .int .i64) (x := t.1) (Rd.own (List.mem_cons_self ..)) (by kernel_rfl) rfl rfl) ?_
  rintro _ _ _ ⟨rfl, rfl, rfl⟩
  refine qE (fun h => ?_) (fun h => ?_)
  · refine sim_loc (loc_ld1 (b1 := .str) (x := t.2.1) (Rd.own (List.mem_cons_self ..)) (by kernel_rfl) rfl rfl) ?_
    rintro _ _ _ ⟨rfl, rfl, rfl⟩
    exact fin _ _ (by unfold saysB Tok.kind Tok.text; rw [h]; rfl)
  · refine sim_loc (loc_ld1 (b1 := .int .i64) (x := t.1) (Rd.own (List.mem_cons_self ..)) (by kernel_rfl) rfl rfl) ?_
    rintro _ _ _ ⟨rfl, rfl, rfl⟩
    refine qE (fun h2 => ?_) (fun h2 => ?_)
    · refine sim_loc (loc_ld1 (b1 := .str) (x := t.2.1) (Rd.own (List.mem_cons_self ..)) (by kernel_rfl) rfl rfl) ?_
      rintro _ _ _ ⟨rfl, rfl, rfl⟩
      exact fin _ _ (by unfold saysB Tok.kind Tok.text; rw [h, h2]; rfl)
    · exact fin _ _ (by unfold saysB Tok.kind Tok.text; rw [h, h2]; rfl)
theorem PI_open {pb : Nat} {β : Type} {t : Ty} {Rel : β → t.den → Own → Fact} {Δ : Labels Int PSt β} {q : Option Quiet} {m : T} {s : PM β} {L : Own} {Γ : List Fact}
    (h : ∀ (st : PSt) (sl : SlD) (T0 : TypeId) (a : Addr), st.ok → sl.1 = some a → sl.2.1 = st.l.length → SimAt PG (PI pb) t Rel Δ none m (s st) ((pb, blk T0 (parCells sl st)) :: L) (Sl 4 encTok sl st.l :: Γ)) :
    Sim PG (PI pb) t Rel Δ q m s L Γ := by
  refine Sim.opened fun st H => ?_
  refine at_ex fun sl => at_ex fun T0 => at_both (at_prop fun ⟨hH, hok⟩ => ?_)
  subst hH
  refine at_note (φ := ∃ a, sl.1 = some a ∧ a.spot = none) (fun F hF => Sl.addr (hF _ (List.mem_cons_self ..)) (by have := hok.1; omega)) fun ⟨a, ha, _⟩ => ?_
  refine at_note (φ := sl.2.1 = st.l.length) (fun F hF => (hF _ (List.mem_cons_self ..)).1) fun hl => ?_
  exact h st sl T0 a hok ha hl
theorem PI_shut {pb : Nat} {st : PSt} {sl : SlD} {T0 : TypeId} (hok : st.ok) {F : Heap} (h : (Sl 4 encTok sl st.l).p F) : ((PI pb).inv st [(pb, blk T0 (parCells sl st))]).p F := ⟨sl, T0, ⟨rfl, hok⟩, h⟩
theorem min_idx {st : PSt} {sl : SlD} (hl : sl.2.1 = st.l.length) (hok : st.ok) (n : Int) (h0 : 0 ≤ n) (h1 : n ≤ 1099511627776) :
    (if IntKind.i64.wrap ((sl.2.1 : Int) - 1) < IntKind.i64.wrap ((st.i : Int) + n) then IntKind.i64.wrap ((sl.2.1 : Int) - 1) else IntKind.i64.wrap ((st.i : Int) + n)) = ((min (st.i + n.toNat) (st.l.length - 1) : Nat) : Int) ∧
      min (st.i + n.toNat) (st.l.length - 1) < st.l.length := by
  obtain ⟨hok1, hok2, hok3⟩ := hok
  rw [wrap_id (by omega) (by omega), wrap_id (by omega) (by omega)]
  constructor
  · split <;> omega
  · omega
theorem then_m (pb : Nat) (n : Int) (h0 : 0 ≤ n) (h1 : n ≤ 1099511627776) : Meets PG (PI pb) (callS F_parser_then #[.pointer (some (pAt pb)), .int .i64 n]) tTok (thenS n) RelEq [] := by
  refine c_parser_then (pAt pb) n ?_
  unfold t_parser_then thenS
  refine sim_loc (loc_alloc (z := [.int .i64 0, .string kE, .int .i64 0, .int .i64 0]) (by kernel_rfl)) ?_
  rintro _ _ _ ⟨b, rfl, rfl, rfl⟩
  refine qE (fun h => ?_) (fun h => ?_)
  · rw [h]
    refine sim_op1 (now_m pb) (by simp) fun x b => Sim.prop fun h => ?_
    subst h
    refine sim_loc (loc_st (L1 := []) (T := T_api_Token) (c := true) rfl (by kernel_rfl) rfl (Nat.le_of_ble_eq_true rfl) (by simp [Value.cells, Value.oneCell'])) ?_
    rintro _ _ _ ⟨rfl, rfl⟩
    exact sim_ret (t := tTok) x (fun r w F H hF hsp => run_resRcA (vs := encTok x) (by kernel_rfl) (hsp.own _ _ (List.mem_append_right _ (List.mem_cons_self ..))) rfl rfl) (fun F _ => rfl)
  · rw [h]
    refine PI_open fun st sl T0 a hok ha hl => ?_
    refine at_draw [(pb, blk T0 (parCells sl st))] (fun p hp => by simp at hp; simp [hp]) ?_
    refine at_opq (t1 := tSl) sl (qval_ld1 (QRd.own (List.mem_cons_self ..)) (by kernel_rfl) rfl rfl) ?_
    refine at_opq (t1 := tI) (st.i : Int) (qval_ld1 (QRd.own (List.mem_cons_self ..)) (by kernel_rfl) rfl rfl) ?_
    refine at_opq (t1 := tSl) sl (qval_ld1 (QRd.own (List.mem_cons_self ..)) (by kernel_rfl) rfl rfl) ?_
    obtain ⟨hmin, hk⟩ := min_idx hl hok n h0 h1
    refine at_opq (t1 := tA) _ (qidx encTok_len ha (fun F hF => hF _ (List.mem_cons_self ..)) (by kernel_rfl) _ hmin hk) ?_
    refine at_opq (t1 := tTok) (st.at (st.i + n.toNat)) (qelem encTok_len ha (fun F hF => hF _ (List.mem_cons_self ..)) (getD_some hk) (by kernel_rfl)) ?_
    refine at_loc (loc_st (L1 := [_]) (T := T_api_Token) (c := true) rfl (by kernel_rfl) rfl (Nat.le_of_ble_eq_true rfl) (by simp [Value.cells, Value.oneCell'])) ?_
    rintro _ _ _ ⟨rfl, rfl⟩
    refine at_ret (b := st.at (st.i + n.toNat)) (st := st) (H := [(pb, blk T0 (parCells sl st))]) (x := st.at (st.i + n.toNat)) rfl ?_ ?_ ?_ ?_
    · simp
    · exact fun F hF => PI_shut hok (hF _ (List.mem_cons_self ..))
    · exact fun r w F hF hsp => run_resRcA (vs := encTok (st.at (st.i + n.toNat))) (by kernel_rfl) (hsp.own _ _ (List.mem_cons_of_mem _ (List.mem_cons_self ..))) rfl rfl
    · exact fun F _ => rfl
theorem next_m (pb : Nat) : Meets PG (PI pb) (callS F_parser_next #[.pointer (some (pAt pb))]) tTok nextS RelEq [] := by
  refine c_parser_next (pAt pb) ?_
  unfold t_parser_next nextS
  refine sim_loc (loc_alloc (z := [.int .i64 0, .string kE, .int .i64 0, .int .i64 0]) (by kernel_rfl)) ?_
  rintro _ _ _ ⟨b1, rfl, rfl, rfl⟩
  refine sim_op (now_m pb) (by simp) fun x b => Sim.prop fun h => ?_
  subst h
  refine sim_loc (loc_alloc (z := [.int .i64 0, .string kE, .int .i64 0, .int .i64 0]) (by kernel_rfl)) ?_
  rintro _ _ _ ⟨b2, rfl, rfl, rfl⟩
  refine sim_loc (loc_st (L1 := []) (T := T_api_Token) (c := true) rfl (by kernel_rfl) rfl (Nat.le_of_ble_eq_true rfl) (by simp [Value.cells, Value.oneCell'])) ?_
  rintro _ _ _ ⟨rfl, rfl⟩
  refine PI_open fun st sl T0 a hok ha hl => ?_
  refine at_loc (loc_st (L1 := []) (T := T_bool) (c := false) rfl (by kernel_rfl) rfl (Nat.le_of_ble_eq_true rfl) (by simp [Value.cells, Value.oneCell'])) ?_
  rintro _ _ _ ⟨rfl, rfl⟩
  show SimAt PG (PI pb) tTok (pl RelEq) noLabel none _ _ ((pb, blk T0 (parCells sl { st with split := false })) :: _) _
  refine at_draw [(pb, blk T0 (parCells sl { st with split := false }))] (fun p hp => by simp at hp; simp [hp]) ?_
  refine at_opq (t1 := tI) (st.i : Int) (qval_ld1 (QRd.own (List.mem_cons_self ..)) (by kernel_rfl) rfl rfl) ?_
  refine at_opq (t1 := tSl) sl (qval_ld1 (QRd.own (List.mem_cons_self ..)) (by kernel_rfl) rfl rfl) ?_
  obtain ⟨hmin, hk⟩ := min_idx hl hok 1 (by omega) (by omega)
  rw [hmin]
  refine at_loc (loc_st (L1 := []) (T := T_int) (c := false) rfl (by kernel_rfl) rfl (Nat.le_of_ble_eq_true rfl) (by simp [Value.cells, Value.oneCell'])) ?_
  rintro _ _ _ ⟨rfl, rfl⟩
  let st' : PSt := { st with split := false, i := min (st.i + 1) (st.l.length - 1) }
  have hok' : st'.ok := ⟨hk, hok.2⟩
  show SimAt PG (PI pb) tTok (pl RelEq) noLabel none _ _ ((pb, blk T0 (parCells sl st')) :: _) _
  refine at_loc (loc_ldA (bs := bsTok) (x := x) (Rd.own (List.mem_cons_of_mem _ (List.mem_cons_self ..))) (by kernel_rfl) rfl rfl) ?_
  rintro _ _ _ ⟨rfl, rfl, rfl⟩
  refine at_loc (loc_st (L1 := [_, _]) (T := T_api_Token) (c := true) rfl (by kernel_rfl) rfl (Nat.le_of_ble_eq_true rfl) (by simp [Value.cells, Value.oneCell'])) ?_
  rintro _ _ _ ⟨rfl, rfl⟩
  refine at_ret (b := x) (st := st') (H := [(pb, blk T0 (parCells sl st'))]) (x := x) rfl (by simp) ?_ ?_ ?_
  · exact fun F hF => PI_shut hok' (hF _ (List.mem_cons_self ..))
  · exact fun r w F hF hsp => run_resRcA (vs := encTok x) (by kernel_rfl) (hsp.own _ _ (List.mem_cons_of_mem _ (List.mem_cons_of_mem _ (List.mem_cons_self ..)))) rfl rfl
  · exact fun F _ => rfl
theorem is_m (pb : Nat) (s : ByteArray) : Meets PG (PI pb) (callS F_parser_is #[.pointer (some (pAt pb)), .string s]) tB (isS s) RelEq [] := by
  refine c_parser_is (pAt pb) s ?_
  unfold t_parser_is isS
  refine sim_op (now_m pb) (by simp) fun x b => Sim.prop fun h => ?_
  subst h
  refine sim_val (says_m _ x s) (by simp) ?_
  exact sim_ret1 (t := tB) _ rfl (fun F _ => rfl)

theorem run_panicS (v : Value) (T : TypeId) (w : World) : (panicS (.iface T v)).run PG w = .halt (.panic (.iface T v)) w := by
  simp [panicS, valS, Instr.panic]
theorem fail_m {β : Type} {t : Ty} {Rel : β → t.den → Own → Fact} (pb : Nat) : MeetsO PG (PI pb) (callS F_parser_fail #[.pointer (some (pAt pb))]) t (failS : PM β) Rel [] := by
  refine c_parser_fail (pAt pb) ?_
  unfold t_parser_fail failS
  refine sim_op (now_m pb) (by simp) fun x b => Sim.prop fun h => ?_
  subst h
  intro r w F H st res S hs hΓ hi hsp hq
  simp only [T.wp, run_panicS, upon]
  obtain rfl : Res.err _ = res := Option.some.inj hs
  exact ⟨F, Heap.le.refl F, _, rfl, rfl, hsp.sub (List.nil_sublist _)⟩
theorem errs_fail {α β : Type} (st : PSt) : ∃ y, (failS : PM α) st = some (.err y) ∧ (failS : PM β) st = some (.err y) := ⟨_, rfl, rfl⟩
theorem take_m (pb : Nat) (s : ByteArray) : Meets PG (PI pb) (callS F_parser_take #[.pointer (some (pAt pb)), .string s]) tB (takeS s) RelEq [] := by
  refine c_parser_take (pAt pb) s ?_
  unfold t_parser_take takeS
  refine sim_op (is_m pb s) (by simp) fun x b => Sim.prop fun h => ?_
  subst h
  refine qE (fun h => ?_) (fun h => ?_)
  · rw [h]; exact sim_ret1 (t := tB) _ rfl (fun F _ => rfl)
  · rw [h]
    refine sim_op (next_m pb) (by simp) fun y c => ?_
    exact sim_ret1 (t := tB) _ rfl (fun F _ => rfl)
theorem must_m (pb : Nat) (s : ByteArray) : Meets PG (PI pb) (callS F_parser_must #[.pointer (some (pAt pb)), .string s]) tU (mustS s) (fun _ _ => Fact.prop True) [] := by
  refine c_parser_must (pAt pb) s ?_
  unfold t_parser_must mustS
  refine sim_op (take_m pb s) (by simp) fun x b => Sim.prop fun h => ?_
  subst h
  refine qE (fun h => ?_) (fun h => ?_)
  · rw [h]; exact sim_fails (β1 := Unit) (Rel1 := fun _ _ _ => Fact.prop True) (fail_m pb) (by simp) errs_fail
  · rw [h]; exact sim_ret (t := tU) () (fun r w F H _ _ => run_resR0 w) (fun F _ => trivial)
theorem name_m (pb : Nat) : Meets PG (PI pb) (callS F_parser_name #[.pointer (some (pAt pb))]) tS nameS RelEq [] := by
  refine c_parser_name (pAt pb) ?_
  unfold t_parser_name nameS
  refine sim_op (now_m pb) (by simp) fun x b => Sim.prop fun h => ?_
  subst h
  refine qE (fun h => ?_) (fun h => ?_)
  · rw [show (Tok.kind x != 1) = true from h]; exact sim_fails (β1 := Unit) (Rel1 := fun _ _ _ => Fact.prop True) (fail_m pb) (by simp) errs_fail
  · rw [show (Tok.kind x != 1) = false from h]
    refine sim_op (next_m pb) (by simp) fun y c => Sim.prop fun h => ?_
    subst h
    exact sim_ret1 (t := tS) _ rfl (fun F _ => rfl)
end Go.Proofs.YtjlgcpgjdgeejaaGreatDoor
end

/- The parser's basic steps: nodes made, none, empty lists; a slice's growth. Conditions: none. -/
section
namespace Go.Proofs.YtjlgcpgjdgeejaaGreatDoor
open Go
set_option linter.unusedSimpArgs false
set_option linter.unusedVariables false
set_option linter.constructorNameAsVariable false
set_option maxRecDepth 100000

def mkN (kind : Int) (text : ByteArray) (num pos : Int) (kids : List N) : N := .mk kind text num pos kids
theorem made_loc {L : Own} {Γ : List Fact} (kind : Int) (text : ByteArray) (num pos : Int) (sl : SlD) :
    Loc PG (callS F_syntax_made #[.int .i64 kind, .string text, .int .i64 num, .int .i64 pos, .slice sl.1 sl.2.1 sl.2.2]) tP L Γ
      fun y L' Γ' => ∃ b, y = some ⟨b, 0, none⟩ ∧ L' = (b, blk T_syntax_node (nodeCells kind text num pos sl)) :: L ∧ Γ' = Γ := by
  refine Loc.of_wp (fun S Φ R w hR h => cw_syntax_made kind text num pos sl hR h) fun r w F H hF hsp => ?_
  simp only [t_syntax_made, T.wp, run_boxS, upon, run_resR1]
  refine ⟨_, rfl, _, rfl, some ⟨w.heap.size, 0, none⟩, _, Γ, F, rfl, Heap.le.refl F, hF, (hsp.new _).perm List.perm_middle, w.heap.size, rfl, rfl, rfl⟩
theorem made_m {ε σ : Type} (I : Ifc ε σ) {Γ : List Fact} (kind : Int) (text : ByteArray) (num pos : Int) (sl : SlD) (ps : List (Option Addr)) (kids : List N)
    (h : ∀ F, Holds Γ F → (Sl 1 encPtr sl ps).p F ∧ NodesAt F ps kids) :
    Meets PG I (callS F_syntax_made #[.int .i64 kind, .string text, .int .i64 num, .int .i64 pos, .slice sl.1 sl.2.1 sl.2.2]) tP (Pure.pure (mkN kind text num pos kids)) NodeF Γ := by
  refine c_syntax_made kind text num pos sl ?_
  unfold t_syntax_made
  refine sim_loc (t1 := tA) (post := fun y L' Γ' => ∃ b, y = ⟨b, 0, none⟩ ∧ L' = [] ∧ Γ' = Fact.at b (blk T_syntax_node (nodeCells kind text num pos sl)) :: Γ) ?_ ?_
  · exact Loc.val fun r w F H hF hsp => ⟨⟨w.heap.size, 0, none⟩, _, [], _, F.ins w.heap.size (blk T_syntax_node (nodeCells kind text num pos sl)), .inl (run_boxS _), hsp.new_le _,
      Holds.cons (by simp [Fact.at, Heap.ins]) (hF.mono (hsp.new_le _)), hsp.newF _, w.heap.size, rfl, rfl, rfl⟩
  · rintro _ _ _ ⟨b, rfl, rfl, rfl⟩
    refine sim_ret1 (t := tP) (some ⟨b, 0, none⟩) rfl fun F hF => ?_
    obtain ⟨h1, h2⟩ := h F fun A hA => hF A (List.mem_cons_of_mem _ hA)
    exact .mk b kind text num pos kids sl ps (hF _ (List.mem_cons_self ..)) h1 h2
theorem Sl_nil {α : Type} (n : Nat) (f : α → List Value) (F : Heap) : (Sl n f (none, 0, 0) []).p F := ⟨rfl, .inl rfl⟩
theorem made0_m {ε σ : Type} (I : Ifc ε σ) (kind : Int) (text : ByteArray) (num pos : Int) :
    Meets PG I (callS F_syntax_made #[.int .i64 kind, .string text, .int .i64 num, .int .i64 pos, .slice none 0 0]) tP (Pure.pure (mkN kind text num pos [])) NodeF [] :=
  made_m I kind text num pos (none, 0, 0) [] [] fun F _ => ⟨Sl_nil 1 encPtr F, .nil⟩
def noneS : PM N := do let t ← nowS; pure (mkN 1 kE 0 t.pos [])
def emptyS : PM N := do let t ← nowS; pure (mkN 2 kE 0 t.pos [])
theorem none_m (pb : Nat) : Meets PG (PI pb) (callS F_parser_none #[.pointer (some (pAt pb))]) tP noneS NodeF [] := by
  refine c_parser_none (pAt pb) ?_
  unfold t_parser_none noneS
  refine sim_op (now_m pb) (by simp) fun x b => Sim.prop fun h => ?_
  subst h
  refine sim_valR (made0_m _ _ _ _ _) (by simp) fun y => ?_
  exact sim_ret1 (t := tP) _ rfl (fun F hF => hF _ (List.mem_cons_self ..))
theorem empty_m (pb : Nat) : Meets PG (PI pb) (callS F_parser_empty #[.pointer (some (pAt pb))]) tP emptyS NodeF [] := by
  refine c_parser_empty (pAt pb) ?_
  unfold t_parser_empty emptyS
  refine sim_op (now_m pb) (by simp) fun x b => Sim.prop fun h => ?_
  subst h
  refine sim_valR (made0_m _ _ _ _ _) (by simp) fun y => ?_
  exact sim_ret1 (t := tP) _ rfl (fun F hF => hF _ (List.mem_cons_self ..))
theorem run_sliceS {t e : TypeId} {n size : Nat} {ps : Array (Nat × Value)} {cells : Array Value} {zero : Value} {w : World} {P : Program} (ht : slOf P t = some (e, size)) (hsz : ¬ n * size > 16777216)
    (hz : (P.info? e).bind (·.zero) = some zero) (hf : Instr.fill (fun i => some (i * size, size)) ((Array.range (n * size)).map (zero.cells[· % zero.cells.size]!)) ps.toList = some cells) (hn : n * size ≠ 0) :
    (sliceS t n ps).run P w = .ok (.value (.slice (some ⟨w.heap.size, 0, none⟩) n n)) (w.alloc (blk e cells.toList)) := by
  obtain ⟨h1, i, h2, h3⟩ := slOf_spec ht
  rw [h2] at hz
  simp only [Option.bind_some] at hz
  simp only [sliceS, valS, Instr.buildSlice, run_underlying h1, sizeOf, typeInfo, h2, h3, Sem.run_bind, run_program, Result.andThen_ok, Sem.run_pure, hsz, if_false, hn, zeroValue, hz, hf]
  simp [newRow, blk, h2, h3, hsz, hz]
end Go.Proofs.YtjlgcpgjdgeejaaGreatDoor
end

/- A slice that the call itself grows: what append does to it. Conditions: none (general tools). -/
section
namespace Go.Proofs.YtjlgcpgjdgeejaaGreatDoor
open Go
set_option linter.unusedSimpArgs false
set_option linter.unusedVariables false
set_option linter.constructorNameAsVariable false

def Buf (e : TypeId) (size : Nat) (x : SlD) (xs : List Value) (K : Own) : Prop :=
  (K = [] ∧ x = (none, 0, 0) ∧ xs = []) ∨
  ∃ g cells, K = [(g, blk e cells)] ∧ x.1 = some ⟨g, 0, none⟩ ∧ xs.length = x.2.1 * size ∧ x.2.1 ≤ x.2.2 ∧ x.2.2 ≤ maxLen ∧ cells.length = x.2.2 * size ∧ cells.take (x.2.1 * size) = xs
theorem Buf.nil (e : TypeId) (size : Nat) : Buf e size (none, 0, 0) [] [] := .inl ⟨rfl, rfl, rfl⟩
theorem Buf.len {e : TypeId} {size : Nat} {x : SlD} {xs : List Value} {K : Own} (h : Buf e size x xs K) : xs.length = x.2.1 * size := by
  rcases h with ⟨_, rfl, rfl⟩ | ⟨g, cells, _, _, h, _⟩
  · simp
  · exact h
def appOf (P : Program) (t : TypeId) : Option (TypeId × Nat × Nat) := match P.underlying t with
  | some (.slice e) => match P.info? e with
    | some i => match i.zero with
      | some z => bif Nat.beq z.cells.size i.size then some (e, i.size, i.bytes) else none
      | none => none
    | none => none
  | _ => none
theorem appOf_spec {P : Program} {t e : TypeId} {size bytes : Nat} (h : appOf P t = some (e, size, bytes)) :
    P.underlying t = some (.slice e) ∧ ∃ i z, P.info? e = some i ∧ i.zero = some z ∧ i.size = size ∧ i.bytes = bytes ∧ z.cells.size = size := by
  unfold appOf at h
  split at h
  · rename_i e' he
    split at h
    · rename_i i hi
      split at h
      · rename_i z hz
        cases hb : Nat.beq z.cells.size i.size with
        | false => rw [hb] at h; cases h
        | true =>
          rw [hb] at h
          simp only [cond_true, Option.some.injEq, Prod.mk.injEq] at h
          obtain ⟨rfl, rfl, rfl⟩ := h
          exact ⟨he, i, z, hi, hz, rfl, rfl, Nat.eq_of_beq_eq_true hb⟩
      · cases h
    · cases h
  · cases h
theorem news_at {w : World} {a : Addr} {T0 : TypeId} {l news : List Value} (hb : w.heap[a.block]? = some (blk T0 l)) (ha : a.spot = none) (hv : (l.drop a.off).take news.length = news) :
    ∀ j u, news[j]? = some u → w.cell? (a.add j) = some u := fun j u hj => by
  obtain ⟨h1, h2, h3⟩ := addr_add a ha j
  rw [cell_blk (T0 := T0) (l := l) (by rw [h1]; exact hb) h3, h2]
  have hlt : j < news.length := by
    rcases Nat.lt_or_ge j news.length with h | h
    · exact h
    · rw [List.getElem?_eq_none h] at hj; cases hj
  have : ((l.drop a.off).take news.length)[j]? = some u := by rw [hv]; exact hj
  rw [List.getElem?_take, if_pos hlt, List.getElem?_drop] at this
  exact this
theorem zeroCells_len (z : Array Value) (n : Nat) : (Builtin.zeroCells z n).toList.length = n * z.size := by simp [Builtin.zeroCells]

theorem loc_appendN {P : Program} {L L0 K : Own} {Γ : List Fact} {t ty e : TypeId} {size bytes m c : Nat} {x : SlD} {xs news : List Value} {a : Addr} (hap : appOf P t = some (e, size, bytes))
    (hL : L = K ++ L0) (hb : Buf e size x xs K) (hr : ∀ r w F H, Holds Γ F → Split r w (H ++ L) F → ∀ j u, news[j]? = some u → w.cell? (a.add j) = some u) (hn : news.length = m * size) (hm : 0 < m) (h1 : ∀ u ∈ news, u.oneCell' = true)
    (hbound : (x.2.1 + m) * bytes ≤ 140737488355328) (hlen : x.2.1 + m ≤ 9223372036854775807) :
    Loc P (appS #[t, t] ty #[.slice x.1 x.2.1 x.2.2, .slice (some a) m c]) tSl L Γ fun y L' Γ' => ∃ K', L' = K' ++ L0 ∧ Γ' = Γ ∧ y.2.1 = x.2.1 + m ∧ Buf e size y (xs ++ news) K' := by
  obtain ⟨ht, i, z, hi, hz, hsz, hby, hzs⟩ := appOf_spec hap
  subst hL
  refine Loc.val fun r w F H hF hsp => ?_
  have hnews := hr r w F H hF hsp
  have hmx : x.2.1 + m ≤ maxLen := by unfold maxLen; omega
  rcases hb with ⟨rfl, rfl, rfl⟩ | ⟨g, cells, rfl, hx1, hxl, hnc, hcm, hcl, htk⟩
  · have hrun := run_append_nil (P := P) w t ty e i z ht hi hz a m c news (by rw [hsz]; exact hn) hnews hm (by simp at hlen; omega) (by rw [hby]; simp at hbound; omega)
    have hge := grownCap_ge w m 0 e
    have hle := grownCap_le_maxLen w m 0 e (by simpa using hmx)
    have he : (.cells (news.toArray ++ Builtin.zeroCells z.cells (grownCap w m 0 e - m)) e : Obj) = blk e (news ++ (Builtin.zeroCells z.cells (grownCap w m 0 e - m)).toList) := by
      unfold blk; congr 1; apply Array.ext'; simp
    rw [he] at hrun
    refine ⟨(some ⟨w.heap.size, 0, none⟩, m, grownCap w m 0 e), w.drew.alloc (blk e (news ++ (Builtin.zeroCells z.cells (grownCap w m 0 e - m)).toList)), (w.heap.size, blk e (news ++ (Builtin.zeroCells z.cells (grownCap w m 0 e - m)).toList)) :: L0, Γ, F, .inl ?_, Heap.le.refl F, hF, ?_,
      [(w.heap.size, _)], rfl, rfl, by simp, .inr ⟨w.heap.size, _, rfl, rfl, by simpa using hn, hge, hle, ?_, ?_⟩⟩
    · simp only [appS, valS, Sem.run_bind, hrun, Result.andThen_ok, Sem.run_pure]; rfl
    · have h2 : Split r w.drew (H ++ L0) F := hsp.drewn _ rfl rfl rfl rfl
      exact (h2.new (blk e (news ++ (Builtin.zeroCells z.cells (grownCap w m 0 e - m)).toList))).perm (List.perm_middle (l₁ := H) (l₂ := L0))
    · rw [List.length_append, zeroCells_len, hzs, hn, ← Nat.add_mul]; congr 1; show m + (grownCap w m 0 e - m) = grownCap w m 0 e; omega
    · simp only [List.nil_append]; rw [List.take_left' hn]
  · by_cases hroom : x.2.1 + m ≤ x.2.2
    · have hg : w.heap[g]? = some (.cells cells.toArray e (0, 0)) := hsp.own g _ (List.mem_append_right _ (List.mem_append_left _ (List.mem_cons_self ..)))
      have hfit : x.2.1 * i.size + news.length ≤ cells.toArray.size := by rw [hsz, hn, List.size_toArray, hcl, ← Nat.add_mul]; exact Nat.mul_le_mul_right _ hroom
      have hrun := run_append_room (P := P) w t ty e i ht hi g x.2.1 x.2.2 cells.toArray hg a m c news (by rw [hsz]; exact hn) hnews h1 hroom hfit
      refine ⟨(some ⟨g, 0, none⟩, x.2.1 + m, x.2.2), w.setRow g (cells.take (x.2.1 * size) ++ news ++ cells.drop (x.2.1 * size + news.length)).toArray, (g, blk e (cells.take (x.2.1 * size) ++ news ++ cells.drop (x.2.1 * size + news.length))) :: L0, Γ, F, .inl ?_, Heap.le.refl F, hF, ?_,
        [(g, _)], rfl, rfl, rfl, .inr ⟨g, _, rfl, rfl, ?_, hroom, hcm, ?_, ?_⟩⟩
      · simp only [appS, valS, Sem.run_bind, hx1, hrun, Result.andThen_ok, Sem.run_pure, hsz]; rfl
      · exact Split.setRow (L1 := []) hsp
      · rw [List.length_append, hxl, hn, ← Nat.add_mul]
      · simp only [List.length_append, List.length_take, List.length_drop, hcl]
        rw [hsz, List.size_toArray, hcl] at hfit
        omega
      · rw [htk, List.take_left']
        rw [List.length_append, hxl, hn, ← Nat.add_mul]
    · have hg : w.heap[(⟨g, 0, none⟩ : Addr).block]? = some (blk e cells) := hsp.own g _ (List.mem_append_right _ (List.mem_append_left _ (List.mem_cons_self ..)))
      have holds : ∀ j u, xs[j]? = some u → w.cell? ((⟨g, 0, none⟩ : Addr).add j) = some u := news_at hg rfl (by simp [hxl, htk])
      have hrun := run_append_grow (P := P) w t ty e i z ht hi hz ⟨g, 0, none⟩ x.2.1 x.2.2 xs (by rw [hsz]; exact hxl) holds a m c news (by rw [hsz]; exact hn) hnews (by omega) (by omega) (growslice_fits (by omega) (by rw [hby]; exact hbound))
      have hge := grownCap_ge w (x.2.1 + m) x.2.2 e
      have hle := grownCap_le_maxLen w (x.2.1 + m) x.2.2 e hmx
      have he : (.cells (xs.toArray ++ news.toArray ++ Builtin.zeroCells z.cells (grownCap w (x.2.1 + m) x.2.2 e - (x.2.1 + m))) e : Obj) = blk e (xs ++ news ++ (Builtin.zeroCells z.cells (grownCap w (x.2.1 + m) x.2.2 e - (x.2.1 + m))).toList) := by
        unfold blk; congr 1; apply Array.ext'; simp
      rw [he] at hrun
      refine ⟨(some ⟨w.heap.size, 0, none⟩, x.2.1 + m, grownCap w (x.2.1 + m) x.2.2 e), w.drew.alloc (blk e (xs ++ news ++ (Builtin.zeroCells z.cells (grownCap w (x.2.1 + m) x.2.2 e - (x.2.1 + m))).toList)), (w.heap.size, blk e (xs ++ news ++ (Builtin.zeroCells z.cells (grownCap w (x.2.1 + m) x.2.2 e - (x.2.1 + m))).toList)) :: L0, Γ, F, .inl ?_, Heap.le.refl F, hF, ?_,
        [(w.heap.size, _)], rfl, rfl, rfl, .inr ⟨w.heap.size, _, rfl, rfl, ?_, hge, hle, ?_, ?_⟩⟩
      · simp only [appS, valS, Sem.run_bind, hx1, hrun, Result.andThen_ok, Sem.run_pure]; rfl
      · have h2 : Split r w.drew (H ++ L0) F := (hsp.sub (H' := H ++ L0) (List.Sublist.append_left (List.sublist_cons_self ..) _)).drewn _ rfl rfl rfl rfl
        exact (h2.new (blk e (xs ++ news ++ (Builtin.zeroCells z.cells (grownCap w (x.2.1 + m) x.2.2 e - (x.2.1 + m))).toList))).perm (List.perm_middle (l₁ := H) (l₂ := L0))
      · rw [List.length_append, hxl, hn, ← Nat.add_mul]
      · rw [List.length_append, List.length_append, zeroCells_len, hzs, hxl, hn, ← Nat.add_mul, ← Nat.add_mul]; congr 1
        show x.2.1 + m + (grownCap w (x.2.1 + m) x.2.2 e - (x.2.1 + m)) = grownCap w (x.2.1 + m) x.2.2 e; omega
      · exact List.take_left' (by rw [List.length_append, hxl, hn, ← Nat.add_mul])

theorem loc_append {P : Program} {L L0 K : Own} {Γ : List Fact} {t ty e T0 : TypeId} {size bytes m c : Nat} {x : SlD} {xs news l : List Value} {a : Addr} (hap : appOf P t = some (e, size, bytes))
    (hL : L = K ++ L0) (hb : Buf e size x xs K) (hr : Rd L Γ a.block (blk T0 l)) (ha : a.spot = none) (hv : (l.drop a.off).take news.length = news) (hn : news.length = m * size) (hm : 0 < m) (h1 : ∀ u ∈ news, u.oneCell' = true)
    (hbound : (x.2.1 + m) * bytes ≤ 140737488355328) (hlen : x.2.1 + m ≤ 9223372036854775807) :
    Loc P (appS #[t, t] ty #[.slice x.1 x.2.1 x.2.2, .slice (some a) m c]) tSl L Γ fun y L' Γ' => ∃ K', L' = K' ++ L0 ∧ Γ' = Γ ∧ y.2.1 = x.2.1 + m ∧ Buf e size y (xs ++ news) K' :=
  loc_appendN hap hL hb (fun r w F H hF hsp => news_at (hr r w F H hF hsp) ha hv) hn hm h1 hbound hlen

section
variable {ε σ β : Type} {P : Program} {I : Ifc ε σ} {t : Ty} {Rel : β → t.den → Own → Fact} {Δ : Labels ε σ β} {q : Option Quiet} {L : Own} {Γ : List Fact} {s : Sp ε σ β}
theorem sim_perm {m : T} {L' : Own} (hp : L'.Perm L) (h : Sim P I t Rel Δ none m s L' Γ) : Sim P I t Rel Δ q m s L Γ :=
  fun r w F H st res S hs hΓ hi hsp hq => h r w F H st res S hs hΓ hi (hsp.perm (hp.append_left H)) trivial
theorem sim_permq {m : T} {L' : Own} (hp : L'.Perm L) (h : Sim P I t Rel Δ q m s L' Γ) : Sim P I t Rel Δ q m s L Γ :=
  fun r w F H st res S hs hΓ hi hsp hq => h r w F H st res S hs hΓ hi (hsp.perm (hp.append_left H)) (by
    cases q with
    | none => trivial
    | some q => exact ⟨fun p hpm => hp.symm.subset (hq.1 p hpm), hq.2⟩)
theorem sim_freeze {m : T} {b : Nat} {o : Obj} (h : Sim P I t Rel Δ none m s L (Fact.at b o :: Γ)) : Sim P I t Rel Δ q m s ((b, o) :: L) Γ := by
  intro r w F H st res S hs hΓ hi hsp hq
  have h1 : Split r w ((b, o) :: (H ++ L)) F := hsp.perm List.perm_middle.symm
  have := h r w (F.ins b o) H st res S hs (Holds.cons (by simp [Fact.at, Heap.ins]) (hΓ.mono h1.ins_le)) ((I.inv st H).mono _ _ h1.ins_le hi) h1.freeze trivial
  exact wp_le h1.ins_le this
theorem sim_drop {m : T} {L' : Own} (hs' : L'.Sublist L) (h : Sim P I t Rel Δ none m s L' Γ) : Sim P I t Rel Δ q m s L Γ :=
  fun r w F H st res S hs hΓ hi hsp hq => h r w F H st res S hs hΓ hi (hsp.sub (hs'.append_left H)) trivial
end
theorem Buf.sl {α : Type} {e : TypeId} {size : Nat} {f : α → List Value} {x : SlD} {xs : List Value} {K : Own} {l : List α} {F : Heap} (h : Buf e size x xs K) (hsz : 0 < size) (hx : xs = rows f l) (hf : ∀ y, (f y).length = size)
    (hK : ∀ p ∈ K, F p.1 = some p.2) : (Sl size f x l).p F := by
  rcases h with ⟨rfl, rfl, h3⟩ | ⟨g, cells, rfl, h2, h3, h4, h5, h6, h7⟩
  · have : l = [] := by
      cases l with
      | nil => rfl
      | cons y l => rw [hx, rows_cons] at h3; have h4 := hf y; rw [List.append_eq_nil_iff] at h3; rw [h3.1] at h4; simp at h4; omega
    subst this
    exact ⟨rfl, .inl rfl⟩
  · have hl : x.2.1 = l.length := by
      have := rows_length hf l
      rw [← hx, h3, Nat.mul_comm] at this
      exact Nat.eq_of_mul_eq_mul_left hsz this
    refine ⟨hl, .inr ⟨⟨g, 0, none⟩, cells, e, h2, rfl, hK (g, blk e cells) (List.mem_cons_self ..), ?_⟩⟩
    rw [← hx, ← h7, hl, Nat.mul_comm]; rfl
end Go.Proofs.YtjlgcpgjdgeejaaGreatDoor
end

/- The parser's basic steps: lists of nodes. Conditions: none. -/
section
namespace Go.Proofs.YtjlgcpgjdgeejaaGreatDoor
open Go
set_option linter.unusedSimpArgs false
set_option linter.unusedVariables false
set_option linter.constructorNameAsVariable false
set_option maxRecDepth 100000

abbrev ptrZero (n : Nat) : Array Value := (Array.range (n * 1)).map ((Value.pointer none).cells[· % (Value.pointer none).cells.size]!)
theorem run_ptrs {n : Nat} {ps : Array (Nat × Value)} {l : List (Option Addr)} (hn : l.length = n) (h0 : 0 < n) (hsz : n ≤ 1000)
    (hf : Instr.fill (fun i => some (i * 1, 1)) (ptrZero n) ps.toList = some (l.map Value.pointer).toArray) (w : World) :
    (sliceS T_SPsyntax_node n ps).run PG w = .ok (.value (.slice (some ⟨w.heap.size, 0, none⟩) n n)) (w.alloc (blk T_Psyntax_node (l.map Value.pointer))) := by
  have := run_sliceS (P := PG) (w := w) (t := T_SPsyntax_node) (e := T_Psyntax_node) (n := n) (size := 1) (ps := ps) (cells := (l.map Value.pointer).toArray) (zero := .pointer none) (by kernel_rfl) (by omega) (by kernel_rfl) hf (by omega)
  simpa using this
theorem rows_ptr (l : List (Option Addr)) : rows encPtr l = l.map Value.pointer := by
  induction l with
  | nil => rfl
  | cons x l ih => rw [rows_cons, ih]; rfl
theorem loc_ptrs {L : Own} {Γ : List Fact} {n : Nat} {ps : Array (Nat × Value)} (l : List (Option Addr)) (hn : l.length = n) (h0 : 0 < n) (hsz : n ≤ 1000)
    (hf : Instr.fill (fun i => some (i * 1, 1)) (ptrZero n) ps.toList = some (l.map Value.pointer).toArray) :
    Loc PG (sliceS T_SPsyntax_node n ps) tSl L Γ fun y L' Γ' => L' = L ∧ Γ' = Sl 1 encPtr y l :: Γ :=
  Loc.val fun r w F H hF hsp => ⟨(some ⟨w.heap.size, 0, none⟩, n, n), _, L, _, F.ins w.heap.size (blk T_Psyntax_node (l.map Value.pointer)), .inl (run_ptrs hn h0 hsz hf w), hsp.new_le _,
    Holds.cons (A := Sl 1 encPtr (some ⟨w.heap.size, 0, none⟩, n, n) l) ⟨hn.symm, .inr ⟨⟨w.heap.size, 0, none⟩, l.map Value.pointer, T_Psyntax_node, rfl, rfl, by simp [Heap.ins], by rw [rows_ptr]; show List.take (1 * l.length) (l.map Value.pointer) = _; rw [List.take_of_length_le (by simp)]⟩⟩ (hF.mono (hsp.new_le _)), hsp.newF _, rfl, rfl⟩
theorem loc_ptrs_own {L : Own} {Γ : List Fact} {n : Nat} {ps : Array (Nat × Value)} (l : List (Option Addr)) (hn : l.length = n) (h0 : 0 < n) (hsz : n ≤ 1000)
    (hf : Instr.fill (fun i => some (i * 1, 1)) (ptrZero n) ps.toList = some (l.map Value.pointer).toArray) :
    Loc PG (sliceS T_SPsyntax_node n ps) tSl L Γ fun y L' Γ' => ∃ K, L' = K ++ L ∧ Γ' = Γ ∧ Buf T_Psyntax_node 1 y (l.map Value.pointer) K :=
  Loc.val fun r w F H hF hsp => ⟨(some ⟨w.heap.size, 0, none⟩, n, n), _, _, Γ, F, .inl (run_ptrs hn h0 hsz hf w), Heap.le.refl F, hF, (hsp.new _).perm List.perm_middle, [_], rfl, rfl,
    .inr ⟨w.heap.size, _, rfl, rfl, by simp [hn], Nat.le_refl n, by show n ≤ maxLen; unfold maxLen; omega, by simp [hn], by
      show List.take (n * 1) (l.map Value.pointer) = _
      rw [List.take_of_length_le (by simp [hn])]⟩⟩

section
variable {ε σ β : Type} {I : Ifc ε σ} {t : Ty} {Rel : β → t.den → Own → Fact} {Δ : Labels ε σ β} {L : Own} {Γ : List Fact} {s : Sp ε σ β}
theorem sim_made {q : Option Quiet} {kind num pos : Int} {text : ByteArray} {x : SlD} {k : Option Addr → T} (ps : List (Option Addr)) (kids : List N)
    (h : ∀ F, Holds Γ F → (Sl 1 encPtr x ps).p F ∧ NodesAt F ps kids) (hk : ∀ y, Sim PG I t Rel Δ none (k y) s L (NodeF (mkN kind text num pos kids) y :: Γ)) :
    Sim PG I t Rel Δ q (.op (callS F_syntax_made #[.int .i64 kind, .string text, .int .i64 num, .int .i64 pos, .slice x.1 x.2.1 x.2.2]) tP k) s L Γ :=
  sim_valR (made_m I kind text num pos x ps kids h) (fun A hA => hA) hk
theorem sim_madel {q : Quiet} {kind num pos : Int} {text : ByteArray} {x : SlD} {k : Option Addr → T} (ps : List (Option Addr)) (kids : List N)
    (h : ∀ F, Holds Γ F → (Sl 1 encPtr x ps).p F ∧ NodesAt F ps kids) (hk : ∀ y, Sim PG I t Rel Δ (some q) (k y) s L (NodeF (mkN kind text num pos kids) y :: Γ)) :
    Sim PG I t Rel Δ (some q) (.opl (callS F_syntax_made #[.int .i64 kind, .string text, .int .i64 num, .int .i64 pos, .slice x.1 x.2.1 x.2.2]) tP k) s L Γ :=
  sim_valRl (made_m I kind text num pos x ps kids h) (fun A hA => hA) hk
theorem sim_made0 {q : Option Quiet} {kind num pos : Int} {text : ByteArray} {k : Option Addr → T} (hk : ∀ y, Sim PG I t Rel Δ none (k y) s L (NodeF (mkN kind text num pos []) y :: Γ)) :
    Sim PG I t Rel Δ q (.op (callS F_syntax_made #[.int .i64 kind, .string text, .int .i64 num, .int .i64 pos, .slice none 0 0]) tP k) s L Γ :=
  sim_valR (made0_m I kind text num pos) (fun _ h => nomatch h) hk
theorem sim_made0l {q : Quiet} {kind num pos : Int} {text : ByteArray} {k : Option Addr → T} (hk : ∀ y, Sim PG I t Rel Δ (some q) (k y) s L (NodeF (mkN kind text num pos []) y :: Γ)) :
    Sim PG I t Rel Δ (some q) (.opl (callS F_syntax_made #[.int .i64 kind, .string text, .int .i64 num, .int .i64 pos, .slice none 0 0]) tP k) s L Γ :=
  sim_valRl (made0_m I kind text num pos) (fun _ h => nomatch h) hk
theorem sim_node {q : Option Quiet} {n : Nat} {parts : Array (Nat × Value)} {kind num pos : Int} {text : ByteArray} {k : Option Addr → T} (ps : List (Option Addr)) (kids : List N) (hn : ps.length = n) (h0 : 0 < n) (hsz : n ≤ 1000)
    (hf : Instr.fill (fun i => some (i * 1, 1)) (ptrZero n) parts.toList = some (ps.map Value.pointer).toArray) (h : ∀ F, Holds Γ F → NodesAt F ps kids)
    (hk : ∀ y, Sim PG I t Rel Δ none (k y) s L (NodeF (mkN kind text num pos kids) y :: Γ)) :
    Sim PG I t Rel Δ q (.op (sliceS T_SPsyntax_node n parts) tSl fun x => .op (callS F_syntax_made #[.int .i64 kind, .string text, .int .i64 num, .int .i64 pos, .slice x.1 x.2.1 x.2.2]) tP k) s L Γ := by
  refine sim_loc (loc_ptrs ps hn h0 hsz hf) ?_
  rintro x _ _ ⟨rfl, rfl⟩
  refine sim_made ps kids (fun F hF => ⟨hF _ (List.mem_cons_self ..), h F fun A hA => hF A (List.mem_cons_of_mem _ hA)⟩) fun y => ?_
  exact (hk y).weak fun A hA => by
    rcases List.mem_cons.1 hA with rfl | hA
    · exact List.mem_cons_self ..
    · exact List.mem_cons_of_mem _ (List.mem_cons_of_mem _ hA)
theorem sim_nodel {q : Quiet} {n : Nat} {parts : Array (Nat × Value)} {kind num pos : Int} {text : ByteArray} {k : Option Addr → T} (ps : List (Option Addr)) (kids : List N) (hn : ps.length = n) (h0 : 0 < n) (hsz : n ≤ 1000)
    (hf : Instr.fill (fun i => some (i * 1, 1)) (ptrZero n) parts.toList = some (ps.map Value.pointer).toArray) (h : ∀ F, Holds Γ F → NodesAt F ps kids) (hq : ∀ p ∈ q.L, p ∈ L)
    (hk : ∀ y, Sim PG I t Rel Δ (some q) (k y) s L (NodeF (mkN kind text num pos kids) y :: Γ)) :
    Sim PG I t Rel Δ (some q) (.opl (sliceS T_SPsyntax_node n parts) tSl fun x => .opl (callS F_syntax_made #[.int .i64 kind, .string text, .int .i64 num, .int .i64 pos, .slice x.1 x.2.1 x.2.2]) tP k) s L Γ := by
  refine sim_locl (loc_ptrs ps hn h0 hsz hf) ?_
  rintro x _ _ ⟨rfl, rfl⟩
  refine ⟨hq, ?_⟩
  refine sim_madel ps kids (fun F hF => ⟨hF _ (List.mem_cons_self ..), h F fun A hA => hF A (List.mem_cons_of_mem _ hA)⟩) fun y => ?_
  exact (hk y).weak fun A hA => by
    rcases List.mem_cons.1 hA with rfl | hA
    · exact List.mem_cons_self ..
    · exact List.mem_cons_of_mem _ (List.mem_cons_of_mem _ hA)
end
end Go.Proofs.YtjlgcpgjdgeejaaGreatDoor
end

/- Nodes that a call owns: their making, growth, end; lists with commas. Conditions: none. -/
section
namespace Go.Proofs.YtjlgcpgjdgeejaaGreatDoor
open Go
set_option linter.unusedSimpArgs false
set_option linter.unusedVariables false
set_option linter.constructorNameAsVariable false
set_option maxRecDepth 100000

def N.text : N → ByteArray | .mk _ t _ _ _ => t
def N.pos : N → Int | .mk _ _ _ p _ => p
def N.push : N → N → N | .mk k t n p l, c => .mk k t n p (l ++ [c])
theorem N.eta (n : N) : n = .mk n.kind n.text n.num n.pos n.kids := by cases n; rfl
theorem N.push_eq (n c : N) : n.push c = .mk n.kind n.text n.num n.pos (n.kids ++ [c]) := by cases n; rfl
theorem NodesAt.length {F : Heap} : ∀ {ps : List (Option Addr)} {ns : List N}, NodesAt F ps ns → ps.length = ns.length
  | _, _, .nil => rfl
  | _, _, .cons p n ps ns _ h => by simp [NodesAt.length h]
theorem NodesAt.snoc {F : Heap} {p : Option Addr} {n : N} (hn : NodeAt F p n) : ∀ {ps : List (Option Addr)} {ns : List N}, NodesAt F ps ns → NodesAt F (ps ++ [p]) (ns ++ [n])
  | _, _, .nil => .cons _ _ _ _ hn .nil
  | _, _, .cons p n ps ns h1 h2 => .cons _ _ _ _ h1 (NodesAt.snoc hn h2)
theorem NodesAt.one {F : Heap} {p : Option Addr} {n : N} (h : NodeAt F p n) : NodesAt F [p] [n] := .cons _ _ _ _ h .nil

def ownBlk (b : Nat) (n : N) (sl : SlD) : Nat × Obj := (b, blk T_syntax_node (nodeCells n.kind n.text n.num n.pos sl))
def OwnN (n : N) (x : Option Addr) (K : Own) : Fact := Fact.ex fun b : Nat => Fact.ex fun sl : SlD => Fact.ex fun ps : List (Option Addr) => Fact.ex fun K2 : Own =>
  (Fact.prop (x = some ⟨b, 0, none⟩ ∧ K = ownBlk b n sl :: K2 ∧ Buf T_Psyntax_node 1 sl (ps.map Value.pointer) K2)).both (NodesF n.kids ps)
theorem run_nilS {P : Program} (a : Addr) (w : World) : (nilS (.pointer (some a))).run P w = .ok (.value (.pointer (some a))) w := by
  simp [nilS, execOp]
theorem loc_nil {P : Program} {L : Own} {Γ : List Fact} (a : Addr) : Loc P (nilS (.pointer (some a))) tA L Γ fun y L' Γ' => a = y ∧ L' = L ∧ Γ' = Γ := loc_pure (t1 := tA) a fun w => run_nilS a w

section
variable {ε σ β : Type} {I : Ifc ε σ} {t : Ty} {Rel : β → t.den → Own → Fact} {Δ : Labels ε σ β} {q : Option Quiet} {L : Own} {Γ : List Fact} {s : Sp ε σ β}
theorem sim_ownN {m : T} {n : N} {x : Option Addr} {K : Own}
    (h : ∀ b sl ps K2, x = some ⟨b, 0, none⟩ → Buf T_Psyntax_node 1 sl (ps.map Value.pointer) K2 → Sim PG I t Rel Δ q m s (ownBlk b n sl :: (K2 ++ L)) (NodesF n.kids ps :: Γ)) :
    Sim PG I t Rel Δ q m s (K ++ L) (OwnN n x K :: Γ) := by
  refine Sim.ex fun b => Sim.ex fun sl => Sim.ex fun ps => Sim.ex fun K2 => Sim.both (Sim.prop fun ⟨h1, h2, h3⟩ => ?_)
  subst h2
  exact h b sl ps K2 h1 h3
theorem sim_freezes0 {m : T} (K : Own) : ∀ {Γ : List Fact}, (Sim PG I t Rel Δ none m s L (K.map (fun p => Fact.at p.1 p.2) ++ Γ)) → Sim PG I t Rel Δ none m s (K ++ L) Γ := by
  induction K with
  | nil => exact fun h => h
  | cons p K ih =>
    intro Γ h
    refine sim_freeze (ih (h.weak fun A hA => ?_))
    simp only [List.map_cons, List.cons_append, List.mem_cons, List.mem_append] at hA ⊢
    rcases hA with h | h | h
    · exact .inr (.inl h)
    · exact .inl h
    · exact .inr (.inr h)
theorem sim_freezes {m : T} {K : Own} (h : Sim PG I t Rel Δ none m s L (K.map (fun p => Fact.at p.1 p.2) ++ Γ)) : Sim PG I t Rel Δ q m s (K ++ L) Γ := (sim_freezes0 K h).lift
theorem Buf.nodes {F : Heap} {sl : SlD} {ps : List (Option Addr)} {K2 : Own} (h : Buf T_Psyntax_node 1 sl (ps.map Value.pointer) K2) (hK : ∀ p ∈ K2, F p.1 = some p.2) : (Sl 1 encPtr sl ps).p F :=
  h.sl (by omega) (rows_ptr ps).symm encPtr_len hK
theorem sim_done {m : T} {n : N} {x : Option Addr} {K : Own} (h : Sim PG I t Rel Δ none m s L (NodeF n x :: Γ)) : Sim PG I t Rel Δ q m s (K ++ L) (OwnN n x K :: Γ) := by
  refine Sim.ex fun b => Sim.ex fun sl => Sim.ex fun ps => Sim.ex fun K2 => Sim.both (Sim.prop fun ⟨h1, h2, h3⟩ => ?_)
  refine sim_freezes (Sim.know (A := NodeF n x) (fun F hF => ?_) (h.weak fun A hA => ?_))
  · subst h1; subst h2
    have hn : NodesAt F ps n.kids := hF (NodesF n.kids ps) (List.mem_append_right _ (List.mem_cons_self ..))
    have hat : ∀ p ∈ (ownBlk b n sl :: K2), F p.1 = some p.2 := fun p hp => hF (Fact.at p.1 p.2) (List.mem_append_left _ (List.mem_map.2 ⟨p, hp, rfl⟩))
    show NodeAt F _ n
    rw [N.eta n]
    exact .mk b _ _ _ _ _ sl ps (hat _ (List.mem_cons_self ..)) (h3.nodes fun p hp => hat p (List.mem_cons_of_mem _ hp)) hn
  · rcases List.mem_cons.1 hA with rfl | hA
    · exact List.mem_cons_self ..
    · exact List.mem_cons_of_mem _ (List.mem_append_right _ (List.mem_cons_of_mem _ hA))
theorem sim_own0 {kind num pos : Int} {text : ByteArray} {k : Option Addr → T} (hk : ∀ y K, Sim PG I t Rel Δ none (k y) s (K ++ L) (OwnN (mkN kind text num pos []) y K :: Γ)) :
    Sim PG I t Rel Δ q (.op (callS F_syntax_made #[.int .i64 kind, .string text, .int .i64 num, .int .i64 pos, .slice none 0 0]) tP k) s L Γ := by
  refine sim_loc (made_loc kind text num pos (none, 0, 0)) ?_
  rintro _ _ _ ⟨b, rfl, rfl, rfl⟩
  refine Sim.know (A := OwnN (mkN kind text num pos []) (some ⟨b, 0, none⟩) [ownBlk b (mkN kind text num pos []) (none, 0, 0)]) (fun F hF => ?_) (hk _ [_])
  exact ⟨b, _, [], [], ⟨rfl, rfl, Buf.nil ..⟩, NodesAt.nil⟩
theorem sim_own {n : Nat} {parts : Array (Nat × Value)} {kind num pos : Int} {text : ByteArray} {k : Option Addr → T} (ps : List (Option Addr)) (kids : List N) (hn : ps.length = n) (h0 : 0 < n) (hsz : n ≤ 1000)
    (hf : Instr.fill (fun i => some (i * 1, 1)) (ptrZero n) parts.toList = some (ps.map Value.pointer).toArray) (h : ∀ F, Holds Γ F → NodesAt F ps kids)
    (hk : ∀ y K, Sim PG I t Rel Δ none (k y) s (K ++ L) (OwnN (mkN kind text num pos kids) y K :: Γ)) :
    Sim PG I t Rel Δ q (.op (sliceS T_SPsyntax_node n parts) tSl fun x => .op (callS F_syntax_made #[.int .i64 kind, .string text, .int .i64 num, .int .i64 pos, .slice x.1 x.2.1 x.2.2]) tP k) s L Γ := by
  refine sim_loc (loc_ptrs_own ps hn h0 hsz hf) ?_
  rintro x _ _ ⟨K2, rfl, rfl, hb⟩
  refine sim_loc (made_loc kind text num pos x) ?_
  rintro _ _ _ ⟨b, rfl, rfl, rfl⟩
  refine Sim.know (A := OwnN (mkN kind text num pos kids) (some ⟨b, 0, none⟩) (ownBlk b (mkN kind text num pos kids) x :: K2)) (fun F hF => ?_) (hk _ (_ :: K2))
  exact ⟨b, x, ps, K2, ⟨rfl, rfl, hb⟩, h F hF⟩
theorem qval_nil {P : Program} {q : Quiet} (a : Addr) : QVal P q (nilS (.pointer (some a))) (.pointer (some a)) := qval_pure fun w => run_nilS a w
theorem sim_grow {n : N} {x : Option Addr} {K : Own} {m : SlD → T}
    (hk : ∀ b sl ps K2, x = some ⟨b, 0, none⟩ → Buf T_Psyntax_node 1 sl (ps.map Value.pointer) K2 →
      Sim PG I t Rel Δ (some ⟨NodesF n.kids ps :: Γ, [ownBlk b n sl]⟩) (m sl) s (ownBlk b n sl :: (K2 ++ L)) (NodesF n.kids ps :: Γ)) :
    Sim PG I t Rel Δ q (.draw <| .opq (nilS (.pointer x)) tA fun r7 => .opq (ldS T_SPsyntax_node (.pointer (some ⟨r7.block, r7.off + 5, none⟩))) tSl m) s (K ++ L) (OwnN n x K :: Γ) := by
  refine sim_ownN fun b sl ps K2 hx hb => ?_
  subst hx
  refine sim_draw [ownBlk b n sl] (fun p hp => by simp at hp; simp [hp]) ?_
  refine sim_opq (t1 := tA) ⟨b, 0, none⟩ (qval_nil _) ?_
  refine sim_opq (t1 := tSl) sl (qval_ld1 (QRd.own (List.mem_cons_self ..)) (by kernel_rfl) rfl rfl) ?_
  exact hk b sl ps K2 rfl hb
theorem loc_one {L : Own} {Γ : List Fact} {y : Option Addr} : Loc PG (sliceS T_SPsyntax_node 1 #[(0, .pointer y)]) tSl L Γ fun x L' Γ' => ∃ b, x = (some ⟨b, 0, none⟩, 1, 1) ∧ L' = L ∧ Γ' = Fact.at b (blk T_Psyntax_node [.pointer y]) :: Γ :=
  Loc.val fun r w F H hF hsp => ⟨(some ⟨w.heap.size, 0, none⟩, 1, 1), _, L, _, F.ins w.heap.size (blk T_Psyntax_node [.pointer y]), .inl (run_ptrs (n := 1) (l := [y]) rfl (by decide) (by decide) (by kernel_rfl) w), hsp.new_le _,
    Holds.cons (by simp [Fact.at, Heap.ins]) (hF.mono (hsp.new_le _)), hsp.newF _, w.heap.size, rfl, rfl, rfl⟩
theorem sim_push {Γq : List Fact} {b : Nat} {sl : SlD} {ps : List (Option Addr)} {K2 : Own} {y : Option Addr} {n c : N} {k : T} (hb : Buf T_Psyntax_node 1 sl (ps.map Value.pointer) K2) (hps : NodesF n.kids ps ∈ Γ) (hc : NodeF c y ∈ Γ) (hlen : n.kids.length ≤ 4398046511104)
    (hk : ∀ K, Sim PG I t Rel Δ none k s (K ++ L) (OwnN (n.push c) (some ⟨b, 0, none⟩) K :: Γ)) :
    Sim PG I t Rel Δ (some ⟨Γq, [ownBlk b n sl]⟩) (.opl (sliceS T_SPsyntax_node 1 #[(0, .pointer y)]) tSl fun r10 => .opl (appS #[T_SPsyntax_node, T_SPsyntax_node] T_SPsyntax_node #[.slice sl.1 sl.2.1 sl.2.2, .slice r10.1 r10.2.1 r10.2.2]) tSl fun r11 =>
      .opq (nilS (.pointer (some ⟨b, 0, none⟩))) tA fun r12 => .op (stS T_SPsyntax_node (.pointer (some ⟨r12.block, r12.off + 5, none⟩)) (.slice r11.1 r11.2.1 r11.2.2)) tU fun _ => k) s (ownBlk b n sl :: (K2 ++ L)) Γ := by
  refine Sim.note (φ := ps.length = n.kids.length) (fun F hF => NodesAt.length (hF _ hps)) fun hl => ?_
  refine sim_locl loc_one ?_
  rintro _ _ _ ⟨bn, rfl, rfl, rfl⟩
  refine ⟨fun p hp => by simp at hp; simp [hp], ?_⟩
  have hsl : sl.2.1 = ps.length := by have := hb.len; simp at this; omega
  refine sim_permq (L' := K2 ++ (ownBlk b n sl :: L)) List.perm_middle ?_
  refine sim_locl (loc_append (L0 := ownBlk b n sl :: L) (K := K2) (size := 1) (bytes := 8) (e := T_Psyntax_node) (m := 1) (news := [.pointer y]) (by kernel_rfl) rfl hb (Rd.at (List.mem_cons_self ..)) rfl rfl rfl (by decide) (by simp [Value.oneCell']) (by omega) (by omega)) ?_
  rintro x _ _ ⟨K', rfl, rfl, hx, hb'⟩
  refine ⟨fun p hp => by simp at hp; simp [hp], ?_⟩
  refine sim_opq (t1 := tA) ⟨b, 0, none⟩ (qval_nil _) ?_
  refine sim_loc (loc_st (L1 := K') (L2 := L) (l := nodeCells n.kind n.text n.num n.pos sl) (T := T_SPsyntax_node) (T0 := T_syntax_node) (c := false) rfl (by kernel_rfl) rfl (Nat.le_of_ble_eq_true rfl) (by simp [Value.cells, Value.oneCell'])) ?_
  rintro _ _ _ ⟨rfl, rfl⟩
  refine sim_perm (L' := (b, blk T_syntax_node (splice (nodeCells n.kind n.text n.num n.pos sl) 5 [.slice x.1 x.2.1 x.2.2])) :: (K' ++ L)) List.perm_middle.symm ?_
  rw [show (b, blk T_syntax_node (splice (nodeCells n.kind n.text n.num n.pos sl) 5 [.slice x.1 x.2.1 x.2.2])) = ownBlk b (n.push c) x by cases n; rfl]
  refine Sim.know (A := OwnN (n.push c) (some ⟨b, 0, none⟩) (ownBlk b (n.push c) x :: K')) (fun F hF => ?_) ((hk (ownBlk b (n.push c) x :: K')).weak fun A hA => ?_)
  · refine ⟨b, x, ps ++ [y], K', ⟨rfl, rfl, by simpa using hb'⟩, ?_⟩
    rw [N.push_eq]
    exact NodesAt.snoc (hF _ (List.mem_cons_of_mem _ hc)) (hF _ (List.mem_cons_of_mem _ hps))
  · rcases List.mem_cons.1 hA with rfl | hA
    · exact List.mem_cons_self ..
    · exact List.mem_cons_of_mem _ (List.mem_cons_of_mem _ hA)
theorem sim_growE (Le : Own) (hLe : ∀ p ∈ Le, p ∈ L) {n : N} {x : Option Addr} {K : Own} {m : SlD → T}
    (hk : ∀ b sl ps K2, x = some ⟨b, 0, none⟩ → Buf T_Psyntax_node 1 sl (ps.map Value.pointer) K2 →
      Sim PG I t Rel Δ (some ⟨NodesF n.kids ps :: Γ, ownBlk b n sl :: Le⟩) (m sl) s (ownBlk b n sl :: (K2 ++ L)) (NodesF n.kids ps :: Γ)) :
    Sim PG I t Rel Δ q (.draw <| .opq (nilS (.pointer x)) tA fun r7 => .opq (ldS T_SPsyntax_node (.pointer (some ⟨r7.block, r7.off + 5, none⟩))) tSl m) s (K ++ L) (OwnN n x K :: Γ) := by
  refine sim_ownN fun b sl ps K2 hx hb => ?_
  subst hx
  refine sim_draw (ownBlk b n sl :: Le) (fun p hp => by rcases List.mem_cons.1 hp with rfl | hp <;> simp [*]) ?_
  refine sim_opq (t1 := tA) ⟨b, 0, none⟩ (qval_nil _) ?_
  refine sim_opq (t1 := tSl) sl (qval_ld1 (QRd.own (List.mem_cons_self ..)) (by kernel_rfl) rfl rfl) ?_
  exact hk b sl ps K2 rfl hb
theorem sim_pushE {Le : Own} (hLe : ∀ p ∈ Le, p ∈ L) {Γq : List Fact} {b : Nat} {sl : SlD} {ps : List (Option Addr)} {K2 : Own} {y : Option Addr} {n c : N} {k : T} (hb : Buf T_Psyntax_node 1 sl (ps.map Value.pointer) K2) (hps : NodesF n.kids ps ∈ Γ) (hc : NodeF c y ∈ Γ) (hlen : n.kids.length ≤ 4398046511104)
    (hk : ∀ K, Sim PG I t Rel Δ none k s (K ++ L) (OwnN (n.push c) (some ⟨b, 0, none⟩) K :: Γ)) :
    Sim PG I t Rel Δ (some ⟨Γq, ownBlk b n sl :: Le⟩) (.opl (sliceS T_SPsyntax_node 1 #[(0, .pointer y)]) tSl fun r10 => .opl (appS #[T_SPsyntax_node, T_SPsyntax_node] T_SPsyntax_node #[.slice sl.1 sl.2.1 sl.2.2, .slice r10.1 r10.2.1 r10.2.2]) tSl fun r11 =>
      .opq (nilS (.pointer (some ⟨b, 0, none⟩))) tA fun r12 => .op (stS T_SPsyntax_node (.pointer (some ⟨r12.block, r12.off + 5, none⟩)) (.slice r11.1 r11.2.1 r11.2.2)) tU fun _ => k) s (ownBlk b n sl :: (K2 ++ L)) Γ := by
  refine Sim.note (φ := ps.length = n.kids.length) (fun F hF => NodesAt.length (hF _ hps)) fun hl => ?_
  refine sim_locl loc_one ?_
  rintro _ _ _ ⟨bn, rfl, rfl, rfl⟩
  refine ⟨fun p hp => by rcases List.mem_cons.1 hp with rfl | hp <;> simp [*], ?_⟩
  have hsl : sl.2.1 = ps.length := by have := hb.len; simp at this; omega
  refine sim_permq (L' := K2 ++ (ownBlk b n sl :: L)) List.perm_middle ?_
  refine sim_locl (loc_append (L0 := ownBlk b n sl :: L) (K := K2) (size := 1) (bytes := 8) (e := T_Psyntax_node) (m := 1) (news := [.pointer y]) (by kernel_rfl) rfl hb (Rd.at (List.mem_cons_self ..)) rfl rfl rfl (by decide) (by simp [Value.oneCell']) (by omega) (by omega)) ?_
  rintro x _ _ ⟨K', rfl, rfl, hx, hb'⟩
  refine ⟨fun p hp => by rcases List.mem_cons.1 hp with rfl | hp <;> simp [*], ?_⟩
  refine sim_opq (t1 := tA) ⟨b, 0, none⟩ (qval_nil _) ?_
  refine sim_loc (loc_st (L1 := K') (L2 := L) (l := nodeCells n.kind n.text n.num n.pos sl) (T := T_SPsyntax_node) (T0 := T_syntax_node) (c := false) rfl (by kernel_rfl) rfl (Nat.le_of_ble_eq_true rfl) (by simp [Value.cells, Value.oneCell'])) ?_
  rintro _ _ _ ⟨rfl, rfl⟩
  refine sim_perm (L' := (b, blk T_syntax_node (splice (nodeCells n.kind n.text n.num n.pos sl) 5 [.slice x.1 x.2.1 x.2.2])) :: (K' ++ L)) List.perm_middle.symm ?_
  rw [show (b, blk T_syntax_node (splice (nodeCells n.kind n.text n.num n.pos sl) 5 [.slice x.1 x.2.1 x.2.2])) = ownBlk b (n.push c) x by cases n; rfl]
  refine Sim.know (A := OwnN (n.push c) (some ⟨b, 0, none⟩) (ownBlk b (n.push c) x :: K')) (fun F hF => ?_) ((hk (ownBlk b (n.push c) x :: K')).weak fun A hA => ?_)
  · refine ⟨b, x, ps ++ [y], K', ⟨rfl, rfl, by simpa using hb'⟩, ?_⟩
    rw [N.push_eq]
    exact NodesAt.snoc (hF _ (List.mem_cons_of_mem _ hc)) (hF _ (List.mem_cons_of_mem _ hps))
  · rcases List.mem_cons.1 hA with rfl | hA
    · exact List.mem_cons_self ..
    · exact List.mem_cons_of_mem _ (List.mem_cons_of_mem _ hA)
end

def moreS (one : PM N) : Nat → N → PM N
  | 0, _ => Sp.stop
  | k + 1, n => do
    let b ← takeS k_comma
    cond b (do let c ← one; moreS one k (n.push c)) (pure n)
def listS (k : Nat) (one : PM N) : PM N := do
  let t ← nowS
  let c ← one
  moreS one k (mkN 2 kE 0 t.pos [c])
theorem qA {ε σ β : Type} {P : Program} {I : Ifc ε σ} {t : Ty} {Rel : β → t.den → Own → Fact} {Δ : Labels ε σ β} {q : Option Quiet} {L : Own} {Γ : List Fact} {b : Bool} {x y : T} {s1 s2 : Sp ε σ β}
    (h1 : b = true → Sim P I t Rel Δ q x s1 L Γ) (h2 : b = false → Sim P I t Rel Δ q y s2 L Γ) : Sim P I t Rel Δ q (.ite b x y) (cond b s1 s2) L Γ := by
  cases b with
  | true => exact qE (fun h => h1 h) (fun h => by cases h)
  | false => exact qE (fun h => by cases h) (fun h => h2 h)
theorem N.push_len (n c : N) : (n.push c).kids.length = n.kids.length + 1 := by cases n; simp [N.push, N.kids]
theorem list_m (pb : Nat) (one : Value) (oneS : PM N) (k : Nat) (hk : k ≤ 1099511627776) {Γ : List Fact} (h1 : Meets PG (PI pb) (callvS one #[]) tP oneS NodeF Γ) :
    MeetsO PG (PI pb) (callS F_parser_list #[.pointer (some (pAt pb)), one]) tP (listS k oneS) OwnN Γ := by
  refine c_parser_list (pAt pb) one ?_
  unfold t_parser_list listS
  refine sim_op (now_m pb) (fun _ h => nomatch h) fun x b => Sim.prop fun h => ?_
  subst h
  refine sim_op h1 (fun A hA => hA) fun y c => ?_
  refine sim_own [y] [c] rfl (by decide) (by decide) (by kernel_rfl) (fun F hF => NodesAt.one (hF _ (List.mem_cons_self ..))) fun p K => ?_
  refine sim_loop (x := { ι := Nat × N, sp := fun i => moreS oneS i.1 i.2, J := fun i vs L' => Fact.ex fun K : Own => (Fact.prop (vs = [] ∧ L' = K ++ [] ∧ i.2.kids.length + i.1 ≤ 2199023255552)).both (OwnN i.2 p K) }) (fun i => i.1) (k, mkN 2 kE 0 (Tok.pos x) [c]) rfl ?_ ?_ ?_
  · exact fun F hF => ⟨K, ⟨rfl, rfl, by show 1 + k ≤ _; omega⟩, hF _ (List.mem_cons_self ..)⟩
  · rintro i vs L' F ⟨K, ⟨rfl, _⟩, _⟩; exact ⟨(), rfl⟩
  · rintro ⟨k, n⟩ L' y'
    refine Sim.ex fun K => Sim.both (Sim.prop fun ⟨_, hL, hn⟩ => ?_)
    subst hL
    cases k with
    | zero => intro r w F H st res S hs; cases hs
    | succ k =>
      refine sim_op (take_m pb _) (fun _ h => nomatch h) fun x b => Sim.prop fun h => ?_
      subst h
      refine qA (fun _ => ?_) (fun _ => ?_)
      · refine sim_grow fun b sl ps K2 hx hb => ?_
        refine sim_opl h1 (fun A hA => by simp [hA]) fun y c => ?_
        subst hx
        refine sim_push hb (List.mem_cons_of_mem _ (List.mem_cons_self ..)) (List.mem_cons_self ..) (by simp at hn; omega) fun K => ?_
        refine sim_out ⟨(k, n.push c), Nat.lt_succ_self k⟩ rfl fun F hF => ⟨K, ⟨rfl, rfl, by rw [N.push_len]; simp at hn ⊢; omega⟩, hF _ (List.mem_cons_self ..)⟩
      · exact sim_ret1O K (List.sublist_append_left ..) p rfl fun F hF => hF _ (List.mem_cons_self ..)
end Go.Proofs.YtjlgcpgjdgeejaaGreatDoor
end

/- What the operations on strings come to. Conditions: none (general tools). -/
section
namespace Go.Proofs.YtjlgcpgjdgeejaaGreatDoor
open Go
set_option linter.unusedSimpArgs false
set_option linter.unusedVariables false

def isStr (P : Program) (t : TypeId) : Bool := match P.underlying t with
  | some .string => true
  | _ => false
theorem isStr_spec {P : Program} {t : TypeId} (h : isStr P t = true) : P.underlying t = some .string := by
  unfold isStr at h
  split at h
  · assumption
  · cases h
def bAt (s : ByteArray) (n : Nat) : Int := match s[n]? with
  | some b => b.toNat
  | none => 0
section
variable {P : Program} {t : TypeId} {s : ByteArray} {w : World}
theorem run_idxStr {k : IntKind} {i : Int} (ht : isStr P t = true) (h0 : 0 ≤ i) (h1 : i < s.size) : (idxS t (.string s) (.int k i)).run P w = .ok (.value (.int .u8 (bAt s i.toNat))) w := by
  have hlt : i.toNat < s.size := by omega
  have : s[i.toNat]? = some s[i.toNat] := getElem?_pos s i.toNat hlt
  simp [idxS, valS, Instr.index, asIntOf, run_underlying (isStr_spec ht), h0, this, bAt]
theorem run_subStrL {k1 : IntKind} {l : Int} (ht : isStr P t = true) (h0 : 0 ≤ l) (h1 : l ≤ s.size) :
    (subS t (.string s) (some (.int k1 l)) none none).run P w = .ok (.value (.string (s.extract l.toNat s.size))) w := by
  simp [subS, valS, run_sliceAt_string _ _ _ _ _ _ (isStr_spec ht), Instr.slice, run_underlying (isStr_spec ht), Instr.sliceBounds, run_sliceBound, h0, h1]
def orI (a b : Int) : Int := IntKind.i64.wrap (BitVec.ofInt IntKind.i64.bits a ||| BitVec.ofInt IntKind.i64.bits b).toNat
theorem run_or {t : TypeId} (a b : Int) : (binS .or t (.int .i64 a) (.int .i64 b)).run P w = .ok (.value (.int .i64 (orI a b))) w := by
  simp [binS, valS, eqGuard, binOp, Op.intBits, orI]
theorem run_cat {t : TypeId} (a b : ByteArray) (h : a.size + b.size ≤ 9223372036854775807) : (binS .add t (.string a) (.string b)).run P w = .ok (.value (.string (a ++ b))) w := by
  have : (a.size : Int) + b.size ≤ 9223372036854775807 := by omega
  simp [binS, valS, eqGuard, binOp, Op.stringOp, this]
end
end Go.Proofs.YtjlgcpgjdgeejaaGreatDoor
end

/- The parser as plain specifications. Conditions: none. -/
section
namespace Go.Proofs.YtjlgcpgjdgeejaaGreatDoor
open Go
set_option linter.unusedSimpArgs false
set_option linter.unusedVariables false
set_option maxRecDepth 100000

structure PRec where
  fuel : Nat
  expr : PM N
  typed : PM N
  block : PM N
  unary : PM N
  branch : PM N
  statement : PM N
  declaration : Tok → PM (Option N)
def stopRec : PRec := ⟨0, Sp.stop, Sp.stop, Sp.stop, Sp.stop, Sp.stop, Sp.stop, fun _ => Sp.stop⟩
abbrev orS (x y : PM Bool) : PM Bool := do let b ← x; cond b (pure true) y
abbrev andS (x y : PM Bool) : PM Bool := do let b ← x; cond b y (pure false)
def lst (pos : Int) (l : List N) : N := mkN 2 kE 0 pos l

def turnI (t : Tok) : Int :=
  if t.kind == 6 then 1 else if t.kind == 8 then -1 else if t.kind == 9 then
    if t.text.toList == k_lp.toList || t.text.toList == k_lb.toList || t.text.toList == k_lc.toList then 1
    else if t.text.toList == k_rp.toList || t.text.toList == k_rb.toList || t.text.toList == k_rc.toList then -1 else 0
  else 0
def closedF (l : List Tok) : Nat → Nat → Int → Tok
  | 0, _, _ => l.getD (l.length - 1) noTok
  | k + 1, i, n => let n := n + turnI (l.getD i noTok)
    if n == 0 then l.getD (min (i + 1) (l.length - 1)) noTok else closedF l k (i + 1) n
def closedS : PM Tok := fun s => some (.ok (closedF s.l (s.l.length - s.i) s.i 0) s)
def splitOk (t : Tok) : Bool := t.kind == 9 && decide (2 ≤ t.text.size) && bAt t.text 0 == 62
def splitTok (t : Tok) : Tok := ⟨t.kind, t.text.extract 1 t.text.size, IntKind.i64.wrap (t.pos + 1), t.fin, ()⟩
def splitT (t : Tok) : HC [.agg bsTok, .b .bool] := if splitOk t then (splitTok t, true, ()) else (noTok, false, ())
def angleS : PM Unit := do
  let b ← takeS k_gt
  cond b (pure ()) do
    let t ← nowS
    cond (splitOk t) (fun s => some (.ok () { s with left := splitTok t, split := true })) failS
def numI (s : ByteArray) : Int := (Lib.atoi s.data.toList).getD 0
def argsS (R : PRec) : PM N := do
  let t ← nowS
  let b ← takeS k_lt
  cond b (do
    let l ← listS R.fuel R.typed
    angleS
    pure (l.setPos t.pos)) emptyS
def varS : PM N := do
  let t ← nowS
  let s ← nameS
  pure (mkN 67 s 0 t.pos [])
def varsS (R : PRec) : PM N := do
  let t ← nowS
  let b ← takeS k_lt
  cond b (do
    let l ← listS R.fuel varS
    angleS
    pure (l.setPos t.pos)) emptyS
def dotsS : Nat → ByteArray → PM ByteArray
  | 0, _ => Sp.stop
  | k + 1, s => do
    let b ← takeS k_dot
    cond b (do let x ← nameS; dotsS k (s ++ (k_dot ++ x))) (pure s)
def refS (R : PRec) : PM N := do
  let t ← nowS
  let b ← orS (takeS knull) (orS (takeS kundefined) (orS (takeS ktrue) (takeS kfalse)))
  cond b (do let e ← emptyS; pure (mkN 80 t.text 0 t.pos [e])) do
    let s ← nameS
    let s ← dotsS R.fuel s
    let a ← argsS R
    pure (mkN 80 s 0 t.pos [a])
def refsS (R : PRec) (word : ByteArray) : PM N := do
  let t ← nowS
  let b ← takeS word
  cond b (do let l ← listS R.fuel (refS R); pure (l.setPos t.pos)) emptyS
def optionalS (R : PRec) : PM N := do
  let b ← takeS k_colon
  cond b R.typed noneS
def paramS (R : PRec) (marks : Bool) : PM N := do
  let t ← nowS
  let b ← cond marks (takeS kpublic) (pure false)
  let n ← cond b (pure (orI 0 2)) (pure 0)
  let b ← cond marks (takeS kreadonly) (pure false)
  let n ← cond b (pure (orI n 4)) (pure n)
  let s ← nameS
  let b ← takeS k_quest
  let n ← cond b (pure (orI n 1)) (pure n)
  let o ← optionalS R
  pure (mkN 66 s n t.pos [o])
def paramsS (R : PRec) (marks : Bool) : PM N := do
  let b ← isS k_rp
  cond b emptyS (listS R.fuel (paramS R marks))
def pieceS (R : PRec) : PM N := do
  let t ← nowS
  let s ← nameS
  let b ← isS k_lp
  cond b (do
    let o ← nowS
    mustS k_lp
    let l ← paramsS R false
    mustS k_rp
    mustS k_colon
    let x ← R.typed
    pure (mkN 85 s 0 t.pos [mkN 86 kE 0 o.pos [l, x]])) do
    let q ← takeS k_quest
    let n ← cond q (pure 1) (pure 0)
    mustS k_colon
    let x ← R.typed
    pure (mkN 85 s n t.pos [x])
def piecesS (R : PRec) : Nat → N → PM N
  | 0, _ => Sp.stop
  | k + 1, n => do
    let b ← isS k_rc
    cond b (do mustS k_rc; pure n) do
      let x ← pieceS R
      let b ← orS (takeS k_semi) (takeS k_comma)
      cond b (piecesS R k (n.push x)) (do mustS k_rc; pure (n.push x))
def objectTypeS (R : PRec) : PM N := do
  let t ← nowS
  mustS k_lc
  piecesS R R.fuel (mkN 84 kE 0 t.pos [])
def arrowTypeS (R : PRec) : PM N := do
  let t ← nowS
  mustS k_lp
  let l ← paramsS R false
  mustS k_rp
  mustS k_eq_gt
  let x ← R.typed
  pure (mkN 86 kE 0 t.pos [l, x])
def plainS (R : PRec) : PM N := do
  let t ← nowS
  let b ← andS (isS k_lp) (do let c ← closedS; pure (saysB c k_eq_gt))
  cond b (arrowTypeS R) do
    let b ← takeS k_lp
    cond b (do let x ← R.typed; mustS k_rp; pure x) <|
      cond (t.kind == 3) (do let _ ← nextS; pure (mkN 81 kE (numI t.text) t.pos [])) do
        let b ← takeS k_minus
        cond b (do
          let u ← nowS
          cond (u.kind != 3) failS (do let v ← nextS; pure (mkN 81 kE (IntKind.i64.wrap (0 - numI v.text)) t.pos []))) <|
          cond (t.kind == 4) (do let _ ← nextS; pure (mkN 82 t.text 0 t.pos [])) do
            let b ← isS k_lc
            cond b (objectTypeS R) (refS R)
def arraysS (pos : Int) : Nat → N → PM N
  | 0, _ => Sp.stop
  | k + 1, n => do
    let b ← andS (isS k_lb) (do let t ← thenS 1; pure (saysB t k_rb))
    cond b (do let _ ← nextS; let _ ← nextS; arraysS pos k (mkN 83 kE 0 pos [n])) (pure n)
def rowsS (R : PRec) : PM N := do
  let t ← nowS
  let x ← plainS R
  arraysS t.pos R.fuel x
def unionS (R : PRec) : Nat → N → PM N
  | 0, _ => Sp.stop
  | k + 1, n => do
    let b ← takeS k_bar
    cond b (do let x ← rowsS R; unionS R k (n.push x)) (pure n)
def typedS (R : PRec) : PM N := do
  let t ← nowS
  let _ ← takeS k_bar
  let x ← rowsS R
  let b ← isS k_bar
  cond b (unionS R R.fuel (mkN 87 kE 0 t.pos [x])) (pure x)

def callsS (R : PRec) : PM Bool := fun s => match (do let _ ← argsS R; isS k_lp : PM Bool) s with
  | none => none
  | some (.err _) => some (.ok false s)
  | some (.ok b _) => some (.ok b s)
def arrowS : PM Bool := do
  let t ← nowS
  cond (t.kind == 1) (do let u ← thenS 1; pure (saysB u k_eq_gt)) do
    let b ← isS k_lp
    cond b (do let u ← closedS; pure (saysB u k_eq_gt)) (isS k_lt)
def arrowedS (R : PRec) (pos : Int) : PM N := do
  let e1 ← emptyS
  let e2 ← emptyS
  let t ← nowS
  let vp ← cond (t.kind == 1) (do
      let s ← nameS
      let o ← noneS
      pure (e1, e2.setKids [mkN 66 s 0 pos [o]])) (do
      let v ← varsS R
      mustS k_lp
      let p ← paramsS R false
      mustS k_rp
      pure (v, p) : PM (N × N))
  mustS k_eq_gt
  let b ← isS k_lc
  let x ← cond b R.block R.expr
  pure (mkN 22 kE 0 pos [vp.1, vp.2, x])
def exprS (R : PRec) (condS : PM N) : PM N := do
  let t ← nowS
  let a ← arrowS
  cond a (arrowedS R t.pos) do
    let x ← condS
    let u ← nowS
    let b ← orS (takeS k_eq) (orS (takeS k_plus_eq) (orS (takeS k_minus_eq) (orS (takeS k_star_eq) (takeS k_pct_eq))))
    cond b (cond (x.kind != 17 && x.kind != 29 && x.kind != 30) failS (do
      let y ← R.expr
      pure (mkN 26 u.text 0 t.pos [x, y]))) (pure x)
def givenS (R : PRec) : PM N := do
  mustS k_lp
  let e ← emptyS
  let b ← isS k_rp
  let l ← cond b (pure e) (listS R.fuel R.expr)
  mustS k_rp
  pure l
def pairsS (R : PRec) : Nat → N → PM N
  | 0, _ => Sp.stop
  | k + 1, n => do
    let b ← isS k_rc
    cond b (do mustS k_rc; pure n) do
      let t ← nowS
      let s ← nameS
      let c ← takeS k_colon
      let x ← cond c R.expr (pure (mkN 17 s 0 t.pos []))
      let b ← takeS k_comma
      let n := n.push (mkN 21 s 0 t.pos [x])
      cond b (pairsS R k n) (do mustS k_rc; pure n)
def objectS (R : PRec) : PM N := do
  let t ← nowS
  mustS k_lc
  pairsS R R.fuel (mkN 20 kE 0 t.pos [])
def piecesTS (R : PRec) : Nat → Tok → N → PM N
  | 0, _, _ => Sp.stop
  | k + 1, t, n => cond (t.kind != 5 && t.kind != 8) (do
      let x ← R.expr
      let u ← nowS
      cond (u.kind != 7 && u.kind != 8) failS do
        let v ← nextS
        piecesTS R k v ((n.push x).push (mkN 11 v.text 0 v.pos []))) (pure n)
def templateS (R : PRec) : PM N := do
  let t ← nextS
  piecesTS R R.fuel t (mkN 12 kE 0 t.pos [mkN 11 t.text 0 t.pos []])
def wordsI (s : ByteArray) : Int :=
  if s.toList == ktrue.toList then 13 else if s.toList == kfalse.toList then 14 else if s.toList == knull.toList then 15
  else if s.toList == kundefined.toList then 16 else if s.toList == kthis.toList then 18 else 0
def membersS (pos : Int) : Nat → N → PM N
  | 0, _ => Sp.stop
  | k + 1, x => do
    let b ← takeS k_dot
    cond b (do let s ← nameS; membersS pos k (mkN 29 s 0 pos [x])) (pure x)
def wordedS (R : PRec) (t : Tok) : PM N :=
  cond (wordsI t.text != 0) (do let _ ← nextS; pure (mkN (wordsI t.text) kE 0 t.pos [])) do
    let b ← takeS knew
    cond b (do
      let f ← nowS
      let s ← nameS
      let x ← membersS f.pos R.fuel (mkN 17 s 0 f.pos [])
      let a ← argsS R
      let g ← givenS R
      pure (mkN 28 kE 0 t.pos [x, a, g])) do
        let b ← takeS ksuper
        cond b (do
          let d ← takeS k_dot
          cond d (do let s ← nameS; pure (mkN 32 s 0 t.pos [])) (do let g ← givenS R; pure (mkN 31 kE 0 t.pos [g]))) failS
def primaryS (R : PRec) : PM N := do
  let t ← nowS
  cond (t.kind == 3) (do let _ ← nextS; pure (mkN 10 kE (numI t.text) t.pos [])) <|
    cond (t.kind == 4) (do let _ ← nextS; pure (mkN 11 t.text 0 t.pos [])) <|
    cond (t.kind == 5 || t.kind == 6) (templateS R) <|
    cond (t.kind == 1) (do let _ ← nextS; pure (mkN 17 t.text 0 t.pos [])) <|
    cond (t.kind == 2) (wordedS R t) do
      let b ← takeS k_lp
      cond b (do let x ← R.expr; mustS k_rp; pure x) do
        let b ← takeS k_lb
        cond b (do
          let e ← isS k_rb
          let l ← cond e (pure (lst t.pos [])) (listS R.fuel R.expr)
          mustS k_rb
          pure (mkN 19 kE 0 t.pos l.kids)) (objectS R)
def partsS (R : PRec) (pos : Int) : Nat → N → PM N
  | 0, _ => Sp.stop
  | k + 1, x => do
    let b ← takeS k_dot
    cond b (do let s ← nameS; partsS R pos k (mkN 29 s 0 pos [x])) do
      let b ← takeS k_lb
      cond b (do let y ← R.expr; mustS k_rb; partsS R pos k (mkN 30 kE 0 pos [x, y])) do
        let b ← orS (isS k_lp) (andS (isS k_lt) (callsS R))
        cond b (do let a ← argsS R; let g ← givenS R; partsS R pos k (mkN 27 kE 0 pos [x, a, g])) do
          let b ← takeS k_bang
          cond b (partsS R pos k (mkN 34 kE 0 pos [x])) (pure x)
def postfixS (R : PRec) : PM N := do
  let t ← nowS
  let x ← primaryS R
  partsS R t.pos R.fuel x
def unaryS (R : PRec) : PM N := do
  let t ← nowS
  let b ← orS (takeS k_bang) (orS (takeS k_minus) (orS (takeS k_tilde) (takeS ktypeof)))
  cond b (do let x ← R.unary; pure (mkN 23 t.text 0 t.pos [x])) (postfixS R)
def signsL (n : Nat) : List ByteArray :=
  match n with
  | 0 => [k_bar_bar] | 1 => [k_amp_amp] | 2 => [k_bar] | 3 => [k_caret] | 4 => [k_amp] | 5 => [k_eq_eq_eq, k_bang_eq_eq]
  | 6 => [k_lt, k_lt_eq, k_gt, k_gt_eq, kin, kas] | 7 => [k_lt_lt, k_gt_gt, k_gt_gt_gt] | 8 => [k_plus, k_minus] | 9 => [k_star, k_pct] | _ => []
def oneOfS : List ByteArray → PM (Option ByteArray)
  | [] => pure none
  | s :: l => do
    let b ← takeS s
    cond b (pure (some s)) (oneOfS l)
def againS (R : PRec) (ss : List ByteArray) (pos : Int) (below : PM N) : Nat → N → PM N
  | 0, _ => Sp.stop
  | k + 1, x => oneOfS ss >>= fun o => match o with
    | none => pure x
    | some s => cond (s.toList == kas.toList) (do let y ← R.typed; againS R ss pos below k (mkN 33 kE 0 pos [x, y])) (do let y ← below; againS R ss pos below k (mkN 24 s 0 pos [x, y]))
def levelS (R : PRec) : Nat → PM N
  | 0 => unaryS R
  | m + 1 => do
    let t ← nowS
    let x ← levelS R m
    againS R (signsL (9 - m)) t.pos (levelS R m) R.fuel x
def condS (R : PRec) : PM N := do
  let t ← nowS
  let x ← levelS R 10
  let b ← takeS k_quest
  cond b (do
    let y ← R.expr
    mustS k_colon
    let z ← R.expr
    pure (mkN 25 kE 0 t.pos [x, y, z])) (pure x)

def stmtsS (R : PRec) : Nat → N → PM N
  | 0, _ => Sp.stop
  | k + 1, n => do
    let b ← isS k_rc
    cond b (do mustS k_rc; pure n) (do let x ← R.statement; stmtsS R k (n.push x))
def blockS (R : PRec) : PM N := do
  let t ← nowS
  mustS k_lc
  stmtsS R R.fuel (mkN 63 kE 0 t.pos [])
def roundS (R : PRec) : PM N := do
  mustS k_lp
  let x ← R.expr
  mustS k_rp
  pure x
def endedS (R : PRec) (kind pos : Int) (may : Bool) : PM N := do
  let n ← noneS
  let c ← cond (!may) (pure true) (do let b ← isS k_semi; pure (!b))
  let x ← cond c R.expr (pure n)
  mustS k_semi
  pure (mkN kind kE 0 pos [x])
def variableS (R : PRec) (n pos : Int) : PM N := do
  let s ← nameS
  let t ← optionalS R
  mustS k_eq
  let x ← R.expr
  pure (mkN 40 s n pos [t, x])
def functionS (R : PRec) (kind pos : Int) : PM N := do
  let s ← nameS
  let v ← varsS R
  mustS k_lp
  let l ← paramsS R false
  mustS k_rp
  let t ← optionalS R
  let b ← R.block
  pure (mkN kind s 0 pos [v, l, t, b])
def mayS (R : PRec) (e : ByteArray) : PM N := do
  let n ← noneS
  let b ← isS e
  let x ← cond b (pure n) R.expr
  mustS e
  pure x
def loopS (R : PRec) (pos : Int) : PM N := do
  mustS k_lp
  let b ← andS (orS (isS klet) (isS kconst)) (andS (do let t ← thenS 1; pure (t.kind == 1)) (do let t ← thenS 2; pure (saysB t kof)))
  cond b (do
    let t ← nextS
    let n ← cond (t.text.toList == kconst.toList) (pure 1) (pure 0)
    let s ← nameS
    mustS kof
    let x ← R.expr
    mustS k_rp
    let y ← R.block
    pure (mkN 56 s n pos [x, y])) do
      let n ← noneS
      let t ← nowS
      let b ← takeS klet
      let f ← cond b (variableS R 0 t.pos) (pure n)
      mustS k_semi
      let c ← mayS R k_semi
      let d ← mayS R k_rp
      let y ← R.block
      pure (mkN 55 kE 0 pos [f, c, d, y])
def tryS (R : PRec) (pos : Int) : PM N := do
  let x ← R.block
  let n ← noneS
  let t ← nowS
  let b ← takeS kcatch
  let y ← cond b (do
    mustS k_lp
    let s ← nameS
    mustS k_rp
    let z ← R.block
    pure (mkN 62 s 0 t.pos [z])) (pure n)
  let n ← noneS
  let b ← takeS kfinally
  let z ← cond b R.block (pure n)
  cond (y.kind == 1 && z.kind == 1) failS (pure (mkN 61 kE 0 pos [x, y, z]))
def branchS (R : PRec) : PM N := do
  let t ← nowS
  mustS kif
  let x ← roundS R
  let y ← R.block
  let n ← noneS
  let b ← takeS kelse
  let z ← cond b (do let c ← isS kif; cond c R.branch R.block) (pure n)
  pure (mkN 53 kE 0 t.pos [x, y, z])
def partS (R : PRec) : PM N := do
  let t ← nowS
  let b ← takeS kconstructor
  cond b (do
    mustS k_lp
    let l ← paramsS R true
    mustS k_rp
    let y ← R.block
    pure (mkN 46 kE 0 t.pos [l, y])) do
      let u ← thenS 1
      let c ← (do let v ← nowS; cond (v.kind == 1) (cond (saysB u k_lp) (pure true) (pure (saysB u k_lt))) (pure false) : PM Bool)
      cond c (functionS R 45 t.pos) do
        let r ← takeS kreadonly
        let m ← cond r (pure 4) (pure 0)
        let s ← nameS
        let o ← optionalS R
        let n ← noneS
        let b ← takeS k_eq
        let x ← cond b R.expr (pure n)
        mustS k_semi
        pure (mkN 44 s m t.pos [o, x])
def membersCS (R : PRec) : Nat → Int → N → PM (Int × N)
  | 0, _, _ => Sp.stop
  | k + 1, c, n => do
    let b ← isS k_rc
    cond b (pure (c, n)) (do let x ← partS R; membersCS R k (if x.kind == 46 then c + 1 else c) (n.push x))
def classS (R : PRec) (pos : Int) : PM N := do
  let s ← nameS
  let v ← varsS R
  let n ← noneS
  let t ← nowS
  let b ← takeS kextends
  let base ← cond b (do
    let m ← nameS
    let a ← argsS R
    pure (mkN 43 m 0 t.pos [a])) (pure n)
  let impl ← refsS R kimplements
  mustS k_lc
  let e ← emptyS
  let cp ← membersCS R R.fuel 0 e
  cond (decide (cp.1 > 1)) failS do
    mustS k_rc
    pure (mkN 42 s 0 pos [v, base, impl, cp.2])
def enumMS (R : PRec) : Nat → N → PM N
  | 0, _ => Sp.stop
  | k + 1, n => do
    let b ← isS k_rc
    cond b (do mustS k_rc; pure n) do
      let t ← nowS
      let s ← nameS
      let z ← noneS
      let c ← takeS k_eq
      let x ← cond c R.expr (pure z)
      let b ← takeS k_comma
      let n := n.push (mkN 48 s 0 t.pos [x])
      cond b (enumMS R k n) (do mustS k_rc; pure n)
def enumS (R : PRec) (n pos : Int) : PM N := do
  mustS kenum
  let s ← nameS
  mustS k_lc
  enumMS R R.fuel (mkN 47 s n pos [])
def spaceS (R : PRec) : Nat → N → PM N
  | 0, _ => Sp.stop
  | k + 1, n => do
    let b ← isS k_rc
    cond b (do mustS k_rc; pure n) do
      let t ← nowS
      let b ← takeS kexport
      cond b (do
        let c ← orS (isS klet) (do let u ← nowS; pure (u.kind != 2))
        cond c failS do
          let u ← nowS
          let x ← R.declaration u
          match x with
          | none => failS
          | some x => cond (x.kind == 47 && x.num == 1) failS (spaceS R k (n.push (mkN 50 kE 0 t.pos [x])))) (do
        let x ← R.statement
        spaceS R k (n.push x))
def namespaceS (R : PRec) (pos : Int) : PM N := do
  let s ← nameS
  mustS k_lc
  spaceS R R.fuel (mkN 49 s 0 pos [])
def declarationS (R : PRec) (t : Tok) : PM (Option N) := do
  let b ← andS (isS kconst) (do let u ← thenS 1; pure (saysB u kenum))
  cond b (do let _ ← nextS; let x ← enumS R 1 t.pos; pure (some x)) do
    let b ← takeS klet
    cond b (do let x ← variableS R 0 t.pos; mustS k_semi; pure (some x)) do
      let b ← takeS kconst
      cond b (do let x ← variableS R 1 t.pos; mustS k_semi; pure (some x)) do
        let b ← takeS kfunction
        cond b (do let x ← functionS R 41 t.pos; pure (some x)) do
          let b ← takeS kclass
          cond b (do let x ← classS R t.pos; pure (some x)) do
            let b ← isS kenum
            cond b (do let x ← enumS R 0 t.pos; pure (some x)) do
              let b ← takeS knamespace
              cond b (do let x ← namespaceS R t.pos; pure (some x)) do
                let b ← takeS kinterface
                cond b (do
                  let s ← nameS
                  let v ← varsS R
                  let l ← refsS R kextends
                  let o ← objectTypeS R
                  pure (some (mkN 51 s 0 t.pos [v, l, o]))) do
                    let b ← takeS ktype
                    cond b (do
                      let s ← nameS
                      let v ← varsS R
                      mustS k_eq
                      let x ← R.typed
                      mustS k_semi
                      pure (some (mkN 52 s 0 t.pos [v, x]))) (pure none)
def statement2S (R : PRec) (t : Tok) : PM N := do
  let b ← isS k_lc
  cond b R.block do
    let b ← takeS k_semi
    cond b (pure (mkN 65 kE 0 t.pos [])) do
      let b ← isS kif
      cond b (branchS R) do
        let b ← takeS kwhile
        cond b (do let x ← roundS R; let y ← R.block; pure (mkN 54 kE 0 t.pos [x, y])) do
          let b ← takeS kfor
          cond b (loopS R t.pos) do
            let b ← takeS kreturn
            cond b (endedS R 57 t.pos true) do
              let b ← takeS kthrow
              cond b (endedS R 60 t.pos false) do
                let b ← takeS kbreak
                cond b (do mustS k_semi; pure (mkN 58 kE 0 t.pos [])) do
                  let b ← takeS kcontinue
                  cond b (do mustS k_semi; pure (mkN 59 kE 0 t.pos [])) do
                    let b ← takeS ktry
                    cond b (tryS R t.pos) (endedS R 64 t.pos false)
def statementS (R : PRec) : PM N := do
  let t ← nowS
  cond (t.kind == 2) (do
    let x ← declarationS R t
    match x with
    | some x => pure x
    | none => statement2S R t) (statement2S R t)
def nextR (R : PRec) : PRec :=
  { fuel := R.fuel + 1, expr := exprS R (condS R), typed := typedS R, block := blockS R, unary := unaryS R, branch := branchS R, statement := statementS R, declaration := declarationS R }
def parseR : Nat → PRec
  | 0 => stopRec
  | n + 1 => nextR (parseR n)
end Go.Proofs.YtjlgcpgjdgeejaaGreatDoor
end

/- Rules for the parser's steps: variables that nobody writes twice, owned nodes turned, joins, rounds that are counted. Conditions: none. -/
section
namespace Go.Proofs.YtjlgcpgjdgeejaaGreatDoor
open Go
set_option linter.unusedSimpArgs false
set_option linter.unusedVariables false
set_option linter.constructorNameAsVariable false
set_option maxRecDepth 100000

section
variable {ε σ α β : Type} {P : Program} {I : Ifc ε σ} {t : Ty} {Rel : β → t.den → Own → Fact} {Δ : Labels ε σ β} {q : Option Quiet} {L : Own} {Γ : List Fact} {s : Sp ε σ β}
theorem sB {m : T} {a : α} {k : α → Sp ε σ β} (h : Sim P I t Rel Δ q m (k a) L Γ) : Sim P I t Rel Δ q m ((Pure.pure a : Sp ε σ α) >>= k) L Γ := h
theorem splice_all {z v : List Value} (h : v.length = z.length) : splice z 0 v = v := by simp [splice, h]
theorem sim_varF {T1 : TypeId} {v : Value} {z : List Value} {c : Bool} {k : Addr → T} (hz : zeroOf P T1 = some z) (hs : shapeOf P T1 = some (c, v.cells.toList.length)) (hl : v.cells.toList.length = z.length) (h1 : ∀ x ∈ v.cells.toList, x.oneCell' = true)
    (hk : ∀ b, Sim P I t Rel Δ none (k ⟨b, 0, none⟩) s L (Fact.at b (blk T1 v.cells.toList) :: Γ)) : Sim P I t Rel Δ q (.op (allocS T1) tA fun r => .op (stS T1 (.pointer (some r)) v) tU fun _ => k r) s L Γ := by
  refine sim_loc (loc_alloc hz) ?_
  rintro _ _ _ ⟨b, rfl, rfl, rfl⟩
  refine sim_loc (loc_st (L1 := []) (T := T1) (c := c) rfl hs rfl (by simp [hl]) h1) ?_
  rintro _ _ _ ⟨rfl, rfl⟩
  rw [splice_all hl]
  exact sim_freeze (hk b)
theorem sim_boxF {T1 : TypeId} {v : Value} {k : Addr → T} (hk : ∀ b, Sim P I t Rel Δ none (k ⟨b, 0, none⟩) s L (Fact.at b (blk T1 v.cells.toList) :: Γ)) : Sim P I t Rel Δ q (.op (boxS T1 v) tA k) s L Γ := by
  refine sim_loc (loc_box v) ?_
  rintro _ _ _ ⟨b, rfl, rfl, rfl⟩
  exact sim_freeze (hk b)
theorem sim_ldF {T1 T0 : TypeId} {a : Addr} {b1 : B} {l : List Value} {k : b1.den → T} (x : b1.den) (hr : Fact.at a.block (blk T0 l) ∈ Γ) (hs : isOne P T1 = some true) (ha : a.spot = none) (hv : l[a.off]? = some (b1.enc x))
    (hk : Sim P I t Rel Δ none (k x) s L Γ) : Sim P I t Rel Δ q (.op (ldS T1 (.pointer (some a))) (.c (.b b1)) k) s L Γ := by
  refine sim_loc (loc_ld1 x (Rd.at hr) hs ha hv) ?_
  rintro _ _ _ ⟨rfl, rfl, rfl⟩
  exact hk
theorem sim_ldFA {T1 T0 : TypeId} {a : Addr} {bs : List B} {l : List Value} {k : HB bs → T} (x : HB bs) (hr : Fact.at a.block (blk T0 l) ∈ Γ) (hs : shapeOf P T1 = some (true, (HB.enc bs x).length)) (ha : a.spot = none) (hv : (l.drop a.off).take (HB.enc bs x).length = HB.enc bs x)
    (hk : Sim P I t Rel Δ none (k x) s L Γ) : Sim P I t Rel Δ q (.op (ldS T1 (.pointer (some a))) (.c (.agg bs)) k) s L Γ := by
  refine sim_loc (loc_ldA x (Rd.at hr) hs ha hv) ?_
  rintro _ _ _ ⟨rfl, rfl, rfl⟩
  exact hk
theorem sim_ldFq {q : Quiet} {T1 T0 : TypeId} {a : Addr} {b1 : B} {l : List Value} {k : b1.den → T} (x : b1.den) (hr : Fact.at a.block (blk T0 l) ∈ q.Γ) (hs : isOne P T1 = some true) (ha : a.spot = none) (hv : l[a.off]? = some (b1.enc x))
    (hk : Sim P I t Rel Δ (some q) (k x) s L Γ) : Sim P I t Rel Δ (some q) (.opq (ldS T1 (.pointer (some a))) (.c (.b b1)) k) s L Γ :=
  sim_opq (t1 := .c (.b b1)) x (qval_ld1 (QRd.of fun F hF => hF _ hr) hs ha hv) hk
theorem sim_nilq {q : Quiet} {a : Addr} {k : Addr → T} (hk : Sim P I t Rel Δ (some q) (k a) s L Γ) : Sim P I t Rel Δ (some q) (.opq (nilS (.pointer (some a))) tA k) s L Γ := sim_opq (t1 := tA) a (qval_nil a) hk
theorem sim_nil {a : Addr} {k : Addr → T} (hk : Sim P I t Rel Δ none (k a) s L Γ) : Sim P I t Rel Δ q (.op (nilS (.pointer (some a))) tA k) s L Γ := by
  refine sim_loc (loc_nil a) ?_
  rintro _ _ _ ⟨rfl, rfl, rfl⟩
  exact hk
theorem sim_orI {t1 : TypeId} {a b : Int} {k : Int → T} (hk : Sim P I t Rel Δ none (k (orI a b)) s L Γ) : Sim P I t Rel Δ q (.op (binS .or t1 (.int .i64 a) (.int .i64 b)) tI k) s L Γ := by
  refine sim_loc (loc_pure (t1 := tI) (orI a b) fun w => run_or a b) ?_
  rintro _ _ _ ⟨rfl, rfl, rfl⟩
  exact hk
theorem sim_cat {t1 : TypeId} {a b : ByteArray} {k : ByteArray → T} (h : a.size + b.size ≤ 9223372036854775807) (hk : Sim P I t Rel Δ none (k (a ++ b)) s L Γ) : Sim P I t Rel Δ q (.op (binS .add t1 (.string a) (.string b)) tS k) s L Γ := by
  refine sim_loc (loc_pure (t1 := tS) (a ++ b) fun w => run_cat a b h) ?_
  rintro _ _ _ ⟨rfl, rfl, rfl⟩
  exact hk
def lbF {δ : Type} (sp : Nat → δ → Sp ε σ β) (J : Nat → δ → List Value → Own → Fact) (k : Nat) : Label ε σ β := { ι := { j : Nat × δ // j.1 < k }, sp := fun j => sp j.1.1 j.1.2, J := fun j vs L => J j.1.1 j.1.2 vs L }
theorem sim_fuel {δ : Type} {l : Nat} {ts : List C} {vs : List Value} {body : HC ts → T} (sp : Nat → δ → Sp ε σ β) (J : Nat → δ → List Value → Own → Fact) (k0 : Nat) (d0 : δ) (hz : ∀ d, sp 0 d = Sp.stop)
    (hs : s = sp k0 d0) (h0 : ∀ F, Holds Γ F → (J k0 d0 vs L).p F) (hJ : ∀ k d vs L' F, (J k d vs L').p F → ∃ y, vs = HC.enc ts y)
    (hb : ∀ k d L' y, Sim P I t Rel (Δ.set l (lbF sp J (k + 1))) none (body y) (sp (k + 1) d) L' (J (k + 1) d (HC.enc ts y) L' :: Γ)) :
    Sim P I t Rel Δ q (.loop l ts vs body) s L Γ := by
  refine sim_loop (x := { ι := Nat × δ, sp := fun j => sp j.1 j.2, J := fun j vs L => J j.1 j.2 vs L }) (fun j => j.1) (k0, d0) hs h0 (fun j vs L' F h => hJ j.1 j.2 vs L' F h) ?_
  rintro ⟨k, d⟩ L' y
  cases k with
  | zero =>
    intro r w F H st res S hst
    have h1 : sp 0 d st = some res := hst
    rw [hz d] at h1; cases h1
  | succ k => exact hb k d L' y
theorem MeetsO.congr {s0 s0' : Sem Next} (h : ∀ w, s0.run P w = s0'.run P w) (hm : MeetsO P I s0' t s Rel Γ) : MeetsO P I s0 t s Rel Γ := fun r w F H st res hs hF hi hsp => by
  rw [h]; exact hm r w F H st res hs hF hi hsp
theorem run_callv (f : FuncId) (first cap args : Array Value) (w : World) : (callvS (.func (.func f) first cap) args).run P w = (callS f (first ++ args ++ cap)).run P w := by
  simp [callvS, callS, Deferred.ofValue, invoke]
theorem MeetsO.weak {s0 : Sem Next} {Γ' : List Fact} (hm : MeetsO P I s0 t s Rel Γ) (h : ∀ A ∈ Γ, A ∈ Γ') : MeetsO P I s0 t s Rel Γ' := fun r w F H st res hs hF hi hsp => hm r w F H st res hs (fun A hA => hF A (h A hA)) hi hsp
end

section
variable {ε σ α β : Type} {I : Ifc ε σ} {t : Ty} {Rel : β → t.den → Own → Fact} {Δ : Labels ε σ β} {q : Option Quiet} {L : Own} {Γ : List Fact} {s : Sp ε σ β}
theorem sim_keep {m : T} {A : Fact} (hA : A ∈ Γ) (h : Sim PG I t Rel Δ q m s L (A :: Γ)) : Sim PG I t Rel Δ q m s L Γ := Sim.know (fun F hF => hF A hA) h
theorem sim_setPos {n : N} {x : Option Addr} {K : Own} {pos : Int} {k : T} (hn : OwnN n x K ∈ Γ) (hk : ∀ K, Sim PG I t Rel Δ none k s (K ++ L) (OwnN (n.setPos pos) x K :: Γ)) :
    Sim PG I t Rel Δ q (.op (nilS (.pointer x)) tA fun r => .op (stS T_int (.pointer (some ⟨r.block, r.off + 4, none⟩)) (.int .i64 pos)) tU fun _ => k) s (K ++ L) Γ := by
  refine sim_keep hn (sim_ownN fun b sl ps K2 hx hb => ?_)
  subst hx
  refine sim_nil ?_
  refine sim_loc (loc_st (L1 := []) (L2 := K2 ++ L) (l := nodeCells n.kind n.text n.num n.pos sl) (T := T_int) (T0 := T_syntax_node) (c := false) rfl (by kernel_rfl) rfl (Nat.le_of_ble_eq_true rfl) (by simp [Value.cells, Value.oneCell'])) ?_
  rintro _ _ _ ⟨rfl, rfl⟩
  show Sim PG I t Rel Δ none k s ((b, blk T_syntax_node (splice (nodeCells n.kind n.text n.num n.pos sl) 4 [.int .i64 pos])) :: (K2 ++ L)) _
  rw [show (b, blk T_syntax_node (splice (nodeCells n.kind n.text n.num n.pos sl) 4 [.int .i64 pos])) = ownBlk b (n.setPos pos) sl by cases n; rfl]
  refine Sim.know (A := OwnN (n.setPos pos) (some ⟨b, 0, none⟩) (ownBlk b (n.setPos pos) sl :: K2)) (fun F hF => ?_) ((hk (ownBlk b (n.setPos pos) sl :: K2)).weak fun A hA => ?_)
  · exact ⟨b, sl, ps, K2, ⟨rfl, rfl, hb⟩, by have := hF _ (List.mem_cons_self ..); cases n; exact this⟩
  · rcases List.mem_cons.1 hA with rfl | hA
    · exact List.mem_cons_self ..
    · exact List.mem_cons_of_mem _ (List.mem_cons_of_mem _ hA)
theorem sim_doneM {m : T} {n : N} {x : Option Addr} {K : Own} (hn : OwnN n x K ∈ Γ) (h : Sim PG I t Rel Δ none m s L (NodeF n x :: Γ)) : Sim PG I t Rel Δ q m s (K ++ L) Γ := sim_keep hn (sim_done (h.weak fun A hA => hA))
theorem NodeF.cells {n : N} {x : Option Addr} {F : Heap} (h : (NodeF n x).p F) : ∃ b sl, x = some ⟨b, 0, none⟩ ∧ F b = some (blk T_syntax_node (nodeCells n.kind n.text n.num n.pos sl)) := by
  have h : NodeAt F x n := h
  cases h with
  | mk b kind text num pos kids sl ps h1 h2 h3 => exact ⟨b, sl, rfl, h1⟩
theorem sim_node_at {m : T} {n : N} {x : Option Addr} (hn : NodeF n x ∈ Γ) (h : ∀ b sl, x = some ⟨b, 0, none⟩ → Sim PG I t Rel Δ q m s L (Fact.at b (blk T_syntax_node (nodeCells n.kind n.text n.num n.pos sl)) :: Γ)) : Sim PG I t Rel Δ q m s L Γ := by
  intro r w F H st res S hs hF hi hsp hq
  obtain ⟨b, sl, hx, hb⟩ := NodeF.cells (hF _ hn)
  exact h b sl hx r w F H st res S hs (Holds.cons hb hF) hi hsp hq
theorem sim_kind {n : N} {x : Option Addr} {k : Int → T} (hn : NodeF n x ∈ Γ) (hk : Sim PG I t Rel Δ none (k n.kind) s L Γ) :
    Sim PG I t Rel Δ q (.op (nilS (.pointer x)) tA fun r => .op (ldS T_int (.pointer (some r))) tI k) s L Γ := by
  refine sim_node_at hn fun b sl hx => ?_
  subst hx
  refine sim_nil (sim_ldF (b1 := .int .i64) n.kind (List.mem_cons_self ..) (by kernel_rfl) rfl rfl (hk.weak fun A hA => List.mem_cons_of_mem _ hA))
theorem sim_num {n : N} {x : Option Addr} {k : Int → T} (hn : NodeF n x ∈ Γ) (hk : Sim PG I t Rel Δ none (k n.num) s L Γ) :
    Sim PG I t Rel Δ q (.op (nilS (.pointer x)) tA fun r => .op (ldS T_int (.pointer (some ⟨r.block, r.off + 2, none⟩))) tI k) s L Γ := by
  refine sim_node_at hn fun b sl hx => ?_
  subst hx
  refine sim_nil (sim_ldF (b1 := .int .i64) n.num (List.mem_cons_self ..) (by kernel_rfl) rfl rfl (hk.weak fun A hA => List.mem_cons_of_mem _ hA))
theorem sim_storeKids {n : N} {x : Option Addr} {K : Own} {sl : SlD} {ps : List (Option Addr)} {kids : List N} {k : T} (hn : OwnN n x K ∈ Γ) (hs : ∀ F, Holds Γ F → (Sl 1 encPtr sl ps).p F ∧ NodesAt F ps kids)
    (hk : Sim PG I t Rel Δ none k s L (NodeF (n.setKids kids) x :: Γ)) :
    Sim PG I t Rel Δ q (.op (nilS (.pointer x)) tA fun r => .op (stS T_SPsyntax_node (.pointer (some ⟨r.block, r.off + 5, none⟩)) (.slice sl.1 sl.2.1 sl.2.2)) tU fun _ => k) s (K ++ L) Γ := by
  refine sim_keep hn (sim_ownN fun b sl0 ps0 K2 hx hb => ?_)
  subst hx
  refine sim_nil ?_
  refine sim_loc (loc_st (L1 := []) (L2 := K2 ++ L) (l := nodeCells n.kind n.text n.num n.pos sl0) (T := T_SPsyntax_node) (T0 := T_syntax_node) (c := false) rfl (by kernel_rfl) rfl (Nat.le_of_ble_eq_true rfl) (by simp [Value.cells, Value.oneCell'])) ?_
  rintro _ _ _ ⟨rfl, rfl⟩
  show Sim PG I t Rel Δ none k s ((b, blk T_syntax_node (splice (nodeCells n.kind n.text n.num n.pos sl0) 5 [.slice sl.1 sl.2.1 sl.2.2])) :: (K2 ++ L)) _
  refine sim_freeze (sim_drop (List.sublist_append_right K2 L) ?_)
  refine Sim.know (A := NodeF (n.setKids kids) (some ⟨b, 0, none⟩)) (fun F hF => ?_) (hk.weak fun A hA => ?_)
  · obtain ⟨h1, h2⟩ := hs F fun A hA => hF A (List.mem_cons_of_mem _ (List.mem_cons_of_mem _ hA))
    have hb' := hF _ (List.mem_cons_self ..)
    cases n
    exact .mk b _ _ _ _ _ sl ps hb' h1 h2
  · rcases List.mem_cons.1 hA with rfl | hA
    · exact List.mem_cons_self ..
    · exact List.mem_cons_of_mem _ (List.mem_cons_of_mem _ (List.mem_cons_of_mem _ hA))
theorem NodeF.kidsAt {n : N} {x : Option Addr} {F : Heap} (h : (NodeF n x).p F) : ∃ b sl ps, x = some ⟨b, 0, none⟩ ∧ F b = some (blk T_syntax_node (nodeCells n.kind n.text n.num n.pos sl)) ∧ (Sl 1 encPtr sl ps).p F ∧ NodesAt F ps n.kids := by
  have h : NodeAt F x n := h
  cases h with
  | mk b kind text num pos kids sl ps h1 h2 h3 => exact ⟨b, sl, ps, rfl, h1, h2, h3⟩
theorem sim_node_kids {m : T} {n : N} {x : Option Addr} (hn : NodeF n x ∈ Γ) (h : ∀ b sl ps, x = some ⟨b, 0, none⟩ → Sim PG I t Rel Δ q m s L (Fact.at b (blk T_syntax_node (nodeCells n.kind n.text n.num n.pos sl)) :: Sl 1 encPtr sl ps :: NodesF n.kids ps :: Γ)) : Sim PG I t Rel Δ q m s L Γ := by
  intro r w F H st res S hs hF hi hsp hq
  obtain ⟨b, sl, ps, hx, hb, h1, h2⟩ := NodeF.kidsAt (hF _ hn)
  exact h b sl ps hx r w F H st res S hs (Holds.cons hb (Holds.cons h1 (Holds.cons (A := NodesF n.kids ps) h2 hF))) hi hsp hq
theorem sim_takeKids {n c : N} {x y : Option Addr} {K : Own} {k : T} (hn : OwnN n x K ∈ Γ) (hc : NodeF c y ∈ Γ) (hk : Sim PG I t Rel Δ none k s L (NodeF (n.setKids c.kids) x :: Γ)) :
    Sim PG I t Rel Δ q (.op (nilS (.pointer y)) tA fun r => .op (ldS T_SPsyntax_node (.pointer (some ⟨r.block, r.off + 5, none⟩))) tSl fun sl => .op (nilS (.pointer x)) tA fun r => .op (stS T_SPsyntax_node (.pointer (some ⟨r.block, r.off + 5, none⟩)) (.slice sl.1 sl.2.1 sl.2.2)) tU fun _ => k) s (K ++ L) Γ := by
  refine sim_node_kids hc fun b sl ps hx => ?_
  subst hx
  refine sim_nil ?_
  refine sim_ldF (b1 := .slice) sl (List.mem_cons_self ..) (by kernel_rfl) rfl rfl ?_
  refine sim_storeKids (ps := ps) (List.mem_cons_of_mem _ (List.mem_cons_of_mem _ (List.mem_cons_of_mem _ hn))) (fun F hF => ⟨hF _ (by repeat (first | exact mz | apply ms)), hF (NodesF c.kids ps) (by repeat (first | exact mz | apply ms))⟩) (hk.weak fun A hA => ?_)
  rcases List.mem_cons.1 hA with rfl | hA
  · exact List.mem_cons_self ..
  · exact List.mem_cons_of_mem _ (List.mem_cons_of_mem _ (List.mem_cons_of_mem _ (List.mem_cons_of_mem _ hA)))
theorem sim_growM {n : N} {x : Option Addr} {K : Own} {m : SlD → T} (hn : OwnN n x K ∈ Γ)
    (hk : ∀ b sl ps K2, x = some ⟨b, 0, none⟩ → Buf T_Psyntax_node 1 sl (ps.map Value.pointer) K2 →
      Sim PG I t Rel Δ (some ⟨NodesF n.kids ps :: Γ, [ownBlk b n sl]⟩) (m sl) s (ownBlk b n sl :: (K2 ++ L)) (NodesF n.kids ps :: Γ)) :
    Sim PG I t Rel Δ q (.draw <| .opq (nilS (.pointer x)) tA fun r7 => .opq (ldS T_SPsyntax_node (.pointer (some ⟨r7.block, r7.off + 5, none⟩))) tSl m) s (K ++ L) Γ := by
  refine sim_keep hn (sim_grow fun b sl ps K2 hx hb => ?_)
  exact hk b sl ps K2 hx hb
def lbO (sp : Nat → N → Sp ε σ β) (r : Option Addr) (L : Own) (k : Nat) : Label ε σ β :=
  { ι := { j : Nat × N // j.1 < k }, sp := fun j => sp j.1.1 j.1.2, J := fun j vs L' => Fact.ex fun K : Own => (Fact.prop (vs = [] ∧ L' = K ++ L ∧ j.1.2.kids.length + 2 * j.1.1 ≤ 2199023255552)).both (OwnN j.1.2 r K) }
theorem sim_fuelO {l : Nat} {body : HC [] → T} {K0 : Own} {r : Option Addr} (sp : Nat → N → Sp ε σ β) (k0 : Nat) (n0 : N) (hz : ∀ d, sp 0 d = Sp.stop) (hs : s = sp k0 n0) (hn : n0.kids.length + 2 * k0 ≤ 2199023255552) (h0 : OwnN n0 r K0 ∈ Γ)
    (hb : ∀ k n K, n.kids.length + 2 * (k + 1) ≤ 2199023255552 → Sim PG I t Rel (Δ.set l (lbO sp r L (k + 1))) none (body ()) (sp (k + 1) n) (K ++ L) (OwnN n r K :: Γ)) : Sim PG I t Rel Δ q (.loop l [] [] body) s (K0 ++ L) Γ := by
  refine sim_fuel (δ := N) sp (fun k n vs L' => Fact.ex fun K : Own => (Fact.prop (vs = [] ∧ L' = K ++ L ∧ n.kids.length + 2 * k ≤ 2199023255552)).both (OwnN n r K)) k0 n0 hz hs (fun F hF => ⟨K0, ⟨rfl, rfl, hn⟩, hF _ h0⟩) ?_ ?_
  · rintro k n vs L' F ⟨K, ⟨rfl, _⟩, _⟩; exact ⟨(), rfl⟩
  · rintro k n L' ⟨⟩
    refine Sim.ex fun K => Sim.both (Sim.prop fun ⟨_, hL, hn⟩ => ?_)
    subst hL
    exact hb k n K hn
theorem sim_outO {l k : Nat} {K : Own} {r : Option Addr} {sp : Nat → N → Sp ε σ β} (n : N) (hx : Δ l = lbO sp r L (k + 1)) (hs : s = sp k n) (hn : n.kids.length + 2 * k ≤ 2199023255552) (h : OwnN n r K ∈ Γ) : Sim PG I t Rel Δ q (.out l []) s (K ++ L) Γ :=
  sim_outX hx ⟨(k, n), Nat.lt_succ_self k⟩ hs fun F hF => ⟨K, ⟨rfl, rfl, hn⟩, hF _ h⟩
def lbJO (sp : N → Sp ε σ β) (r : Option Addr) (L : Own) : Label ε σ β := { ι := N, sp := sp, J := fun n vs L' => Fact.ex fun K : Own => (Fact.prop (vs = [] ∧ L' = K ++ L)).both (OwnN n r K) }
theorem sim_joinO {l : Nat} {m : T} {k : HC [] → T} {L0 : Own} (sp : N → Sp ε σ β) (r : Option Addr) (L : Own) (hm : Sim PG I t Rel (Δ.set l (lbJO sp r L)) q m s L0 Γ)
    (hk : ∀ n K, Sim PG I t Rel Δ none (k ()) (sp n) (K ++ L) (OwnN n r K :: Γ)) : Sim PG I t Rel Δ q (.join l [] m k) s L0 Γ := by
  refine sim_join (lbJO sp r L) hm fun n vs L' => ⟨?_, ?_⟩
  · rintro F ⟨K, ⟨rfl, _⟩, _⟩; exact ⟨(), rfl⟩
  · rintro ⟨⟩
    refine Sim.ex fun K => Sim.both (Sim.prop fun ⟨_, hL⟩ => ?_)
    subst hL
    exact hk n K
theorem sim_outJO {l : Nat} {K : Own} {r : Option Addr} {sp : N → Sp ε σ β} (n : N) (hx : Δ l = lbJO sp r L) (hs : s = sp n) (h : OwnN n r K ∈ Γ) : Sim PG I t Rel Δ q (.out l []) s (K ++ L) Γ :=
  sim_outX hx n hs fun F hF => ⟨K, ⟨rfl, rfl⟩, hF _ h⟩
def lbN (sp : Nat → N → Sp ε σ β) (L : Own) (k : Nat) : Label ε σ β :=
  { ι := { j : Nat × N // j.1 < k }, sp := fun j => sp j.1.1 j.1.2, J := fun j vs L' => Fact.ex fun p : Option Addr => (Fact.prop (vs = [.pointer p] ∧ L' = L)).both (NodeF j.1.2 p) }
theorem sim_fuelN {l : Nat} {body : HC [.b .ptr] → T} {p0 : Option Addr} (sp : Nat → N → Sp ε σ β) (k0 : Nat) (n0 : N) (hz : ∀ d, sp 0 d = Sp.stop) (hs : s = sp k0 n0) (h0 : NodeF n0 p0 ∈ Γ)
    (hb : ∀ k n p, Sim PG I t Rel (Δ.set l (lbN sp L (k + 1))) none (body (p, ())) (sp (k + 1) n) L (NodeF n p :: Γ)) : Sim PG I t Rel Δ q (.loop l [.b .ptr] [.pointer p0] body) s L Γ := by
  refine sim_fuel (δ := N) sp (fun k n vs L' => Fact.ex fun p : Option Addr => (Fact.prop (vs = [.pointer p] ∧ L' = L)).both (NodeF n p)) k0 n0 hz hs (fun F hF => ⟨p0, ⟨rfl, rfl⟩, hF _ h0⟩) ?_ ?_
  · rintro k n vs L' F ⟨p, ⟨rfl, _⟩, _⟩; exact ⟨(p, ()), rfl⟩
  · rintro k n L' ⟨y, ⟨⟩⟩
    refine Sim.ex fun p => Sim.both (Sim.prop fun ⟨h1, hL⟩ => ?_)
    subst hL
    have h3 : y = p := by
      have := (List.cons.inj h1).1
      cases this; rfl
    subst h3
    exact hb k n y
theorem sim_outN {l k : Nat} {p : Option Addr} {sp : Nat → N → Sp ε σ β} (n : N) (hx : Δ l = lbN sp L (k + 1)) (hs : s = sp k n) (h : NodeF n p ∈ Γ) : Sim PG I t Rel Δ q (.out l [.pointer p]) s L Γ :=
  sim_outX hx ⟨(k, n), Nat.lt_succ_self k⟩ hs fun F hF => ⟨p, ⟨rfl, rfl⟩, hF _ h⟩
theorem sim_joinFail {Rel : β → t.den → Own → Fact} {Δ : Labels Int PSt β} {I : Ifc Int PSt} {l : Nat} {m : T} {k : HC [] → T} {c : Bool} {rest : PM β} (hm : Sim PG I t Rel (Δ.set l (lbU rest L)) q m (cond c failS rest) L Γ)
    (hk : Sim PG I t Rel Δ none (k ()) rest L Γ) : Sim PG I t Rel Δ q (.join l [] m k) (cond c failS rest) L Γ := sim_joinU rest hm hk
theorem sim_joinBc {l : Nat} {m : T} {k : HC [.b .bool] → T} {c : Bool} {s1 s2 : Sp ε σ β} (hm : Sim PG I t Rel (Δ.set l (lbB (fun c => cond c s1 s2) L)) q m (cond c s1 s2) L Γ)
    (hk : ∀ c, Sim PG I t Rel Δ none (k (c, ())) (cond c s1 s2) L Γ) : Sim PG I t Rel Δ q (.join l [.b .bool] m k) (cond c s1 s2) L Γ := sim_joinB (fun c => cond c s1 s2) hm hk
theorem sim_outN0 {l k : Nat} {p : Option Addr} {sp : Nat → N → Sp ε σ β} (n : N) (hs : s = sp k n) (h : NodeF n p ∈ Γ) : Sim PG I t Rel (Δ.set l (lbN sp L (k + 1))) q (.out l [.pointer p]) s L Γ := sim_outN n (by simp [Labels.set]) hs h
theorem sim_outN1 {l l' k : Nat} {p : Option Addr} {x : Label ε σ β} {sp : Nat → N → Sp ε σ β} (n : N) (hl : l ≠ l') (hs : s = sp k n) (h : NodeF n p ∈ Γ) : Sim PG I t Rel ((Δ.set l (lbN sp L (k + 1))).set l' x) q (.out l [.pointer p]) s L Γ := sim_outN n (by simp [Labels.set, hl]) hs h
theorem sim_outO0 {l k : Nat} {K : Own} {r : Option Addr} {sp : Nat → N → Sp ε σ β} (n : N) (hs : s = sp k n) (hn : n.kids.length + 2 * k ≤ 2199023255552) (h : OwnN n r K ∈ Γ) : Sim PG I t Rel (Δ.set l (lbO sp r L (k + 1))) q (.out l []) s (K ++ L) Γ := sim_outO n (by simp [Labels.set]) hs hn h
theorem sim_outO1 {l l' k : Nat} {K : Own} {r : Option Addr} {x : Label ε σ β} {sp : Nat → N → Sp ε σ β} (n : N) (hl : l ≠ l') (hs : s = sp k n) (hn : n.kids.length + 2 * k ≤ 2199023255552) (h : OwnN n r K ∈ Γ) : Sim PG I t Rel ((Δ.set l (lbO sp r L (k + 1))).set l' x) q (.out l []) s (K ++ L) Γ := sim_outO n (by simp [Labels.set, hl]) hs hn h
def lbPP (s' : N × N → Sp ε σ β) : Label ε σ β :=
  { ι := N × N, sp := s', J := fun c vs L' => Fact.ex fun p1 : Option Addr => Fact.ex fun p2 : Option Addr => (Fact.prop (vs = [.pointer p1, .pointer p2] ∧ L' = [])).both ((NodeF c.1 p1).both (NodeF c.2 p2)) }
theorem sim_joinPPb {l : Nat} {m : T} {k : HC [.b .ptr, .b .ptr] → T} {a : Sp ε σ (N × N)} {s' : N × N → Sp ε σ β} (hm : Sim PG I t Rel (Δ.set l (lbPP s')) q m (a >>= s') L Γ)
    (hk : ∀ n1 n2 p1 p2, Sim PG I t Rel Δ none (k (p1, p2, ())) (s' (n1, n2)) [] (NodeF n1 p1 :: NodeF n2 p2 :: Γ)) : Sim PG I t Rel Δ q (.join l [.b .ptr, .b .ptr] m k) (a >>= s') L Γ := by
  refine sim_join (lbPP s') hm fun c vs L' => ⟨?_, ?_⟩
  · rintro F ⟨p1, p2, ⟨rfl, _⟩, _⟩; exact ⟨(p1, p2, ()), rfl⟩
  · rintro ⟨y1, y2, ⟨⟩⟩
    refine Sim.ex fun p1 => Sim.ex fun p2 => Sim.both (Sim.prop fun ⟨h1, h2⟩ => Sim.both ?_)
    subst h2
    have e1 : y1 = p1 := by
      have := (List.cons.inj h1).1
      cases this; rfl
    have e2 : y2 = p2 := by
      have := (List.cons.inj (List.cons.inj h1).2).1
      cases this; rfl
    subst e1; subst e2
    exact hk c.1 c.2 _ _
theorem sim_outPP {l : Nat} {p1 p2 : Option Addr} {s' : N × N → Sp ε σ β} (c : N × N) (hs : s = s' c) (h1 : NodeF c.1 p1 ∈ Γ) (h2 : NodeF c.2 p2 ∈ Γ) : Sim PG I t Rel (Δ.set l (lbPP s')) q (.out l [.pointer p1, .pointer p2]) s L Γ := by
  refine (sim_drop (List.nil_sublist L) ?_).lift
  exact sim_outX (x := lbPP s') (by simp [Labels.set]) c hs fun F hF => ⟨p1, p2, ⟨rfl, rfl⟩, hF _ h1, hF _ h2⟩
theorem sim_pushP {n c : N} {x y : Option Addr} {K : Own} {k : T} (hn : OwnN n x K ∈ Γ) (hc : NodeF c y ∈ Γ) (hlen : n.kids.length ≤ 4398046511104)
    (hk : ∀ K, Sim PG I t Rel Δ none k s (K ++ L) (OwnN (n.push c) x K :: Γ)) :
    Sim PG I t Rel Δ q (.op (nilS (.pointer x)) tA fun r7 => .op (ldS T_SPsyntax_node (.pointer (some ⟨r7.block, r7.off + 5, none⟩))) tSl fun sl => .op (sliceS T_SPsyntax_node 1 #[(0, .pointer y)]) tSl fun r10 => .op (appS #[T_SPsyntax_node, T_SPsyntax_node] T_SPsyntax_node #[.slice sl.1 sl.2.1 sl.2.2, .slice r10.1 r10.2.1 r10.2.2]) tSl fun r11 =>
      .op (nilS (.pointer x)) tA fun r12 => .op (stS T_SPsyntax_node (.pointer (some ⟨r12.block, r12.off + 5, none⟩)) (.slice r11.1 r11.2.1 r11.2.2)) tU fun _ => k) s (K ++ L) Γ := by
  refine sim_keep hn (sim_ownN fun b sl ps K2 hx hb => ?_)
  subst hx
  refine Sim.note (φ := ps.length = n.kids.length) (fun F hF => NodesAt.length (hF (NodesF n.kids ps) (List.mem_cons_self ..))) fun hl => ?_
  refine sim_nil ?_
  refine sim_loc (loc_ld1 (b1 := .slice) (x := sl) (Rd.own (List.mem_cons_self ..)) (by kernel_rfl) rfl rfl) ?_
  rintro _ _ _ ⟨rfl, rfl, rfl⟩
  refine sim_loc loc_one ?_
  rintro _ _ _ ⟨bn, rfl, rfl, rfl⟩
  have hsl : sl.2.1 = ps.length := by have := hb.len; simp at this; omega
  refine sim_perm (L' := K2 ++ (ownBlk b n sl :: L)) List.perm_middle ?_
  refine sim_loc (loc_append (L0 := ownBlk b n sl :: L) (K := K2) (size := 1) (bytes := 8) (e := T_Psyntax_node) (m := 1) (news := [.pointer y]) (by kernel_rfl) rfl hb (Rd.at (List.mem_cons_self ..)) rfl rfl rfl (by decide) (by simp [Value.oneCell']) (by omega) (by omega)) ?_
  rintro x _ _ ⟨K', rfl, rfl, hx, hb'⟩
  refine sim_nil ?_
  refine sim_loc (loc_st (L1 := K') (L2 := L) (l := nodeCells n.kind n.text n.num n.pos sl) (T := T_SPsyntax_node) (T0 := T_syntax_node) (c := false) rfl (by kernel_rfl) rfl (Nat.le_of_ble_eq_true rfl) (by simp [Value.cells, Value.oneCell'])) ?_
  rintro _ _ _ ⟨rfl, rfl⟩
  refine sim_perm (L' := (b, blk T_syntax_node (splice (nodeCells n.kind n.text n.num n.pos sl) 5 [.slice x.1 x.2.1 x.2.2])) :: (K' ++ L)) List.perm_middle.symm ?_
  rw [show (b, blk T_syntax_node (splice (nodeCells n.kind n.text n.num n.pos sl) 5 [.slice x.1 x.2.1 x.2.2])) = ownBlk b (n.push c) x by cases n; rfl]
  refine Sim.know (A := OwnN (n.push c) (some ⟨b, 0, none⟩) (ownBlk b (n.push c) x :: K')) (fun F hF => ?_) ((hk (ownBlk b (n.push c) x :: K')).weak fun A hA => ?_)
  · refine ⟨b, x, ps ++ [y], K', ⟨rfl, rfl, by simpa using hb'⟩, ?_⟩
    rw [N.push_eq]
    exact NodesAt.snoc (hF _ (List.mem_cons_of_mem _ (List.mem_cons_of_mem _ hc))) (hF (NodesF n.kids ps) (List.mem_cons_of_mem _ (List.mem_cons_self ..)))
  · rcases List.mem_cons.1 hA with rfl | hA
    · exact List.mem_cons_self ..
    · exact List.mem_cons_of_mem _ (List.mem_cons_of_mem _ (List.mem_cons_of_mem _ hA))
def isPtr (P : Program) (t : TypeId) : Bool := match P.underlying t with
  | some (.pointer _) => true
  | _ => false
theorem isPtr_spec {P : Program} {t : TypeId} (h : isPtr P t = true) : ∃ e, P.underlying t = some (.pointer e) := by
  unfold isPtr at h
  split at h
  · exact ⟨_, by assumption⟩
  · cases h
theorem run_eqNil {P : Program} {t : TypeId} (ht : isPtr P t = true) (p : Option Addr) (w : World) : (binS .eql t (.pointer p) (.pointer none)).run P w = .ok (.value (.bool p.isNone)) w := by
  obtain ⟨e, hu⟩ := isPtr_spec ht
  have h : (Op.equal t (.pointer p) (.pointer none)).run P w = .ok p.isNone w := by
    unfold Op.equal
    rw [show Op.maxDepth = 9999 + 1 from rfl, Op.equalIn]
    rw [Sem.run_bind, run_underlying hu, Result.andThen_ok]
    cases p <;> rfl
  simp [binS, valS, eqGuard, binOp, h]
theorem run_neNil {P : Program} {t : TypeId} (ht : isPtr P t = true) (p : Option Addr) (w : World) : (binS .neq t (.pointer p) (.pointer none)).run P w = .ok (.value (.bool !p.isNone)) w := by
  obtain ⟨e, hu⟩ := isPtr_spec ht
  have h : (Op.equal t (.pointer p) (.pointer none)).run P w = .ok p.isNone w := by
    unfold Op.equal
    rw [show Op.maxDepth = 9999 + 1 from rfl, Op.equalIn]
    rw [Sem.run_bind, run_underlying hu, Result.andThen_ok]
    cases p <;> rfl
  simp [binS, valS, eqGuard, binOp, h]
theorem sim_eqNil {t1 : TypeId} {p : Option Addr} {k : Bool → T} (ht : isPtr PG t1 = true) (hk : Sim PG I t Rel Δ none (k p.isNone) s L Γ) : Sim PG I t Rel Δ q (.op (binS .eql t1 (.pointer p) (.pointer none)) tB k) s L Γ := by
  refine sim_loc (loc_pure (t1 := tB) p.isNone fun w => run_eqNil ht p w) ?_
  rintro _ _ _ ⟨rfl, rfl, rfl⟩
  exact hk
theorem sim_neNil {t1 : TypeId} {p : Option Addr} {k : Bool → T} (ht : isPtr PG t1 = true) (hk : Sim PG I t Rel Δ none (k !p.isNone) s L Γ) : Sim PG I t Rel Δ q (.op (binS .neq t1 (.pointer p) (.pointer none)) tB k) s L Γ := by
  refine sim_loc (loc_pure (t1 := tB) (!p.isNone) fun w => run_neNil ht p w) ?_
  rintro _ _ _ ⟨rfl, rfl, rfl⟩
  exact hk
theorem sim_stop {m : T} : Sim PG I t Rel Δ q m (Sp.stop : Sp ε σ β) L Γ := fun r w F H st res S hs => by cases hs
theorem run_callv4 (f : FuncId) (a p : Value) (w : World) : (callvS (.func (.func f) #[] #[p]) #[a]).run PG w = (callS f #[a, p]).run PG w := by rw [run_callv]; rfl
theorem run_callv1 (f : FuncId) (p : Value) (w : World) : (callvS (.func (.func f) #[p] #[]) #[]).run PG w = (callS f #[p]).run PG w := by rw [run_callv]; rfl
theorem run_callv2 (f : FuncId) (p : Value) (w : World) : (callvS (.func (.func f) #[] #[p]) #[]).run PG w = (callS f #[p]).run PG w := by rw [run_callv]; rfl
theorem run_callv3 (f : FuncId) (p u : Value) (w : World) : (callvS (.func (.func f) #[] #[p, u]) #[]).run PG w = (callS f #[p, u]).run PG w := by rw [run_callv]; rfl
theorem errs_failb {α γ : Type} (k : γ → PM α) (st : PSt) : ∃ y, (failS : PM Unit) st = some (.err y) ∧ ((failS : PM γ) >>= k) st = some (.err y) := ⟨_, rfl, rfl⟩
theorem sim_growME (Le : Own) (hLe : ∀ p ∈ Le, p ∈ L) {n : N} {x : Option Addr} {K : Own} {m : SlD → T} (hn : OwnN n x K ∈ Γ)
    (hk : ∀ b sl ps K2, x = some ⟨b, 0, none⟩ → Buf T_Psyntax_node 1 sl (ps.map Value.pointer) K2 →
      Sim PG I t Rel Δ (some ⟨NodesF n.kids ps :: Γ, ownBlk b n sl :: Le⟩) (m sl) s (ownBlk b n sl :: (K2 ++ L)) (NodesF n.kids ps :: Γ)) :
    Sim PG I t Rel Δ q (.draw <| .opq (nilS (.pointer x)) tA fun r7 => .opq (ldS T_SPsyntax_node (.pointer (some ⟨r7.block, r7.off + 5, none⟩))) tSl m) s (K ++ L) Γ := by
  refine sim_keep hn (sim_growE Le hLe fun b sl ps K2 hx hb => ?_)
  exact hk b sl ps K2 hx hb
end
end Go.Proofs.YtjlgcpgjdgeejaaGreatDoor
end

/- The parser's basic steps: a longer sign's first character; what stands behind a closing bracket. Conditions: none. -/
section
namespace Go.Proofs.YtjlgcpgjdgeejaaGreatDoor
open Go
set_option linter.unusedSimpArgs false
set_option linter.unusedVariables false
set_option linter.constructorNameAsVariable false
set_option maxRecDepth 100000

theorem ldlA {ε σ β : Type} {P : Program} {I : Ifc ε σ} {t : Ty} {Rel : β → t.den → Own → Fact} {Δ : Labels ε σ β} {q : Quiet} {L : Own} {Γ : List Fact} {s : Sp ε σ β} {T1 T0 : TypeId} {a : Addr} {b1 : B} {l : List Value} {k : b1.den → T} (x : b1.den)
    (hr : (a.block, blk T0 l) ∈ L) (hs : isOne P T1 = some true) (ha : a.spot = none) (hv : l[a.off]? = some (b1.enc x)) (hq : q.L = []) (hk : Sim P I t Rel Δ (some q) (k x) s L Γ) : Sim P I t Rel Δ (some q) (.opl (ldS T1 (.pointer (some a))) (.c (.b b1)) k) s L Γ := by
  refine sim_locl (loc_ld1 x (Rd.own hr) hs ha hv) ?_
  rintro _ _ _ ⟨rfl, rfl, rfl⟩
  exact ⟨by simp [hq], hk⟩
theorem split_m {ε σ : Type} (I : Ifc ε σ) (t : Tok) : Meets PG I (callS F_lex_Split #[.agg #[.int .i64 t.1, .string t.2.1, .int .i64 t.2.2.1, .int .i64 t.2.2.2.1]]) (.tup [.agg bsTok, .b .bool]) (Pure.pure (splitT t)) RelEq [] := by
  refine c_lex_Split t ?_
  unfold t_lex_Split
  refine sim_loc (loc_box _) ?_
  rintro _ _ _ ⟨b1, rfl, rfl, rfl⟩
  refine sim_loc (loc_alloc (z := [.int .i64 0, .string kE, .int .i64 0, .int .i64 0]) (by kernel_rfl)) ?_
  rintro _ _ _ ⟨b2, rfl, rfl, rfl⟩
  refine sim_join (x := { ι := Unit, sp := fun _ => Pure.pure (splitT t), J := fun _ vs L' => Fact.prop (vs = [.bool (!splitOk t)] ∧ L' = (b2, blk T_api_Token [.int .i64 0, .string kE, .int .i64 0, .int .i64 0]) :: (b1, blk T_api_Token (encTok t)) :: []) }) ?_ ?_
  · refine sim_loc (loc_ld1 (b1 := .int .i64) (x := t.1) (Rd.own (List.mem_cons_of_mem _ (List.mem_cons_self ..))) (by kernel_rfl) rfl rfl) ?_
    rintro _ _ _ ⟨rfl, rfl, rfl⟩
    refine qE (fun h => ?_) (fun h => ?_)
    · exact sim_outX rfl () rfl fun F hF => ⟨by simp [splitOk, Tok.kind]; simp at h; simp [h], rfl⟩
    · refine sim_loc (loc_ld1 (b1 := .str) (x := t.2.1) (Rd.own (List.mem_cons_of_mem _ (List.mem_cons_self ..))) (by kernel_rfl) rfl rfl) ?_
      rintro _ _ _ ⟨rfl, rfl, rfl⟩
      refine qE (fun h2 => ?_) (fun h2 => ?_)
      · exact sim_outX rfl () rfl fun F hF => ⟨by simp at h2; have : ¬ 2 ≤ (Tok.text t).size := by unfold Tok.text; omega
                                                  simp [splitOk, this], rfl⟩
      · refine sim_loc (loc_ld1 (b1 := .str) (x := t.2.1) (Rd.own (List.mem_cons_of_mem _ (List.mem_cons_self ..))) (by kernel_rfl) rfl rfl) ?_
        rintro _ _ _ ⟨rfl, rfl, rfl⟩
        simp only [decide_eq_false_iff_not, Int.not_lt] at h2
        refine sim_loc (loc_pure (t1 := tU8) (bAt t.2.1 0) (fun w => run_idxStr (by kernel_rfl) (by decide) (by omega))) ?_
        rintro _ _ _ ⟨rfl, rfl, rfl⟩
        refine sim_outX rfl () rfl fun F hF => ⟨?_, rfl⟩
        have h3 : decide (2 ≤ (Tok.text t).size) = true := decide_eq_true (by unfold Tok.text; omega)
        have h4 : (Tok.kind t == 9) = true := by simpa [Tok.kind] using h
        simp only [splitOk, h3, h4, Bool.true_and]; rfl
  · rintro ⟨⟩ vs L'
    refine ⟨fun F hF => ⟨(_, ()), hF.1⟩, ?_⟩
    rintro ⟨c, ⟨⟩⟩
    refine Sim.prop fun ⟨h1, h2⟩ => ?_
    subst h2
    obtain rfl : c = !splitOk t := by
      have := (List.cons.inj h1).1
      cases this; rfl
    refine qE (fun h => ?_) (fun h => ?_)
    · refine sim_loc (loc_st (L1 := []) (T := T_api_Token) (c := true) rfl (by kernel_rfl) rfl (Nat.le_of_ble_eq_true rfl) (by simp [Value.cells, Value.oneCell'])) ?_
      rintro _ _ _ ⟨rfl, rfl⟩
      exact sim_ret (t := .tup [.agg bsTok, .b .bool]) (noTok, false, ()) (fun r w F H hF hsp => run_resRcA1 (vs := encTok noTok) (by kernel_rfl) (hsp.own _ _ (List.mem_append_right _ (List.mem_cons_self ..))) rfl rfl) (fun F _ => by
        have h5 : splitOk t = false := by simpa using h
        simp [RelEq, Fact.prop, splitT, h5])
    · have h5 : splitOk t = true := by simpa using h
      have h6 : 2 ≤ (Tok.text t).size := by simp [splitOk] at h5; exact h5.1.2
      have hq : QVal PG ⟨[], []⟩ (subS T_string (.string t.2.1) (some (.int .i64 1)) none none) (.string (t.2.1.extract 1 t.2.1.size)) :=
        qval_pure fun w => run_subStrL (by kernel_rfl) (by decide) (by unfold Tok.text at h6; omega)
      have fin : ∀ q, Sim PG I (.tup [.agg bsTok, .b .bool]) (pl RelEq) noLabel q (.op (ldS T_api_Token (.pointer (some ⟨b1, 0, none⟩))) (.c (.agg [.int .i64, .str, .int .i64, .int .i64])) fun r14 =>
          .op (stS T_api_Token (.pointer (some ⟨b2, 0, none⟩)) (.agg #[.int .i64 r14.1, .string r14.2.1, .int .i64 r14.2.2.1, .int .i64 r14.2.2.2.1])) tU fun _ => .ret #[.c (.pointer (some ⟨b2, 0, none⟩)) T_api_Token, .v (.bool true)]) (Pure.pure (splitT t))
          [(b2, blk T_api_Token [.int .i64 0, .string kE, .int .i64 0, .int .i64 0]), (b1, blk T_api_Token (encTok (splitTok t)))] [] := by
        intro q
        refine sim_loc (loc_ldA (bs := bsTok) (x := splitTok t) (Rd.own (List.mem_cons_of_mem _ (List.mem_cons_self ..))) (by kernel_rfl) rfl rfl) ?_
        rintro _ _ _ ⟨rfl, rfl, rfl⟩
        refine sim_loc (loc_st (L1 := []) (T := T_api_Token) (c := true) rfl (by kernel_rfl) rfl (Nat.le_of_ble_eq_true rfl) (by simp [Value.cells, Value.oneCell'])) ?_
        rintro _ _ _ ⟨rfl, rfl⟩
        exact sim_ret (t := .tup [.agg bsTok, .b .bool]) (splitTok t, true, ()) (fun r w F H hF hsp => run_resRcA1 (vs := encTok (splitTok t)) (by kernel_rfl) (hsp.own _ _ (List.mem_append_right _ (List.mem_cons_self ..))) rfl rfl) (fun F _ => by
          simp [RelEq, Fact.prop, splitT, h5])
      refine sim_draw [] (by simp) (sim_both ?_ ?_)
      · refine ldlA (b1 := .str) (t.2.1) (List.mem_cons_of_mem _ (List.mem_cons_self ..)) (by kernel_rfl) rfl rfl rfl ?_
        refine sim_opq (t1 := tS) _ hq ?_
        refine ldlA (b1 := .int .i64) (t.2.2.1) (List.mem_cons_of_mem _ (List.mem_cons_self ..)) (by kernel_rfl) rfl rfl rfl ?_
        refine sim_locl (loc_st (L1 := [_]) (T := T_string) (c := false) rfl (by kernel_rfl) rfl (Nat.le_of_ble_eq_true rfl) (by simp [Value.cells, Value.oneCell'])) ?_
        rintro _ _ _ ⟨rfl, rfl⟩
        refine ⟨by simp, ?_⟩
        refine sim_loc (loc_st (L1 := [_]) (T := T_int) (c := false) rfl (by kernel_rfl) rfl (Nat.le_of_ble_eq_true rfl) (by simp [Value.cells, Value.oneCell'])) ?_
        rintro _ _ _ ⟨rfl, rfl⟩
        exact fin none
      · refine ldlA (b1 := .int .i64) (t.2.2.1) (List.mem_cons_of_mem _ (List.mem_cons_self ..)) (by kernel_rfl) rfl rfl rfl ?_
        refine ldlA (b1 := .str) (t.2.1) (List.mem_cons_of_mem _ (List.mem_cons_self ..)) (by kernel_rfl) rfl rfl rfl ?_
        refine sim_opq (t1 := tS) _ hq ?_
        refine sim_locl (loc_st (L1 := [_]) (T := T_string) (c := false) rfl (by kernel_rfl) rfl (Nat.le_of_ble_eq_true rfl) (by simp [Value.cells, Value.oneCell'])) ?_
        rintro _ _ _ ⟨rfl, rfl⟩
        refine ⟨by simp, ?_⟩
        refine sim_loc (loc_st (L1 := [_]) (T := T_int) (c := false) rfl (by kernel_rfl) rfl (Nat.le_of_ble_eq_true rfl) (by simp [Value.cells, Value.oneCell'])) ?_
        rintro _ _ _ ⟨rfl, rfl⟩
        exact fin none
theorem turn_m {ε σ : Type} (I : Ifc ε σ) (t : Tok) : Meets PG I (callS F_scan_Turn #[.agg #[.int .i64 t.1, .string t.2.1, .int .i64 t.2.2.1, .int .i64 t.2.2.2.1]]) tI (Pure.pure (turnI t)) RelEq [] := by
  refine c_scan_Turn t ?_
  unfold t_scan_Turn
  refine sim_boxF fun b1 => ?_
  refine sim_ldF (b1 := .int .i64) t.1 (by repeat (first | exact mz | apply ms)) (by kernel_rfl) rfl rfl ?_
  have fin : ∀ (q : Option Quiet) (c : Int), c = turnI t → ∀ Γ, Sim PG I tI (pl RelEq) noLabel q (.ret #[.v (.int .i64 c)]) (Pure.pure (turnI t)) [] Γ := fun q c hc Γ =>
    sim_ret1 (t := tI) c rfl (fun F _ => hc)
  refine qE (fun h => ?_) (fun h => ?_)
  · exact fin _ _ (by unfold turnI Tok.kind; rw [h]; rfl) _
  refine qE (fun h2 => ?_) (fun h2 => ?_)
  · exact fin _ _ (by unfold turnI Tok.kind; rw [h, h2]; rfl) _
  refine qE (fun h3 => ?_) (fun h3 => ?_)
  · refine sim_ldF (b1 := .str) t.2.1 (by repeat (first | exact mz | apply ms)) (by kernel_rfl) rfl rfl ?_
    refine sim_joinB (fun c => (fun st => if c = (t.2.1.toList == k_lp.toList || t.2.1.toList == k_lb.toList || t.2.1.toList == k_lc.toList) then some (.ok (turnI t) st) else none)) ?_ fun c => ?_
    · refine qE (fun h4 => ?_) (fun h4 => ?_)
      · exact sim_outB true rfl (by funext st; simp [h4]; rfl)
      refine qE (fun h5 => ?_) (fun h5 => ?_)
      · exact sim_outB true rfl (by funext st; simp [h5]; rfl)
      · exact sim_outB _ rfl (by funext st; rw [h4, h5]; simp; rfl)
    · by_cases hc : c = (t.2.1.toList == k_lp.toList || t.2.1.toList == k_lb.toList || t.2.1.toList == k_lc.toList)
      · refine Sim.spec (s' := Pure.pure (turnI t)) (by funext st; rw [if_pos hc]; rfl) ?_
        refine qE (fun h4 => ?_) (fun h4 => ?_)
        · exact fin _ _ (by unfold turnI Tok.kind Tok.text; rw [h, h2, h3, show (t.2.1.toList == k_lp.toList || t.2.1.toList == k_lb.toList || t.2.1.toList == k_lc.toList) = true from hc ▸ h4]; rfl) _
        have h4' : (t.2.1.toList == k_lp.toList || t.2.1.toList == k_lb.toList || t.2.1.toList == k_lc.toList) = false := hc ▸ h4
        refine qE (fun h5 => ?_) (fun h5 => ?_)
        · exact fin _ _ (by unfold turnI Tok.kind Tok.text; rw [h, h2, h3, h4', h5]; rfl) _
        refine qE (fun h6 => ?_) (fun h6 => ?_)
        · exact fin _ _ (by unfold turnI Tok.kind Tok.text; rw [h, h2, h3, h4', h5, h6]; rfl) _
        refine qE (fun h7 => ?_) (fun h7 => ?_)
        · exact fin _ _ (by unfold turnI Tok.kind Tok.text; rw [h, h2, h3, h4', h5, h6, h7]; rfl) _
        · exact fin _ _ (by unfold turnI Tok.kind Tok.text; rw [h, h2, h3, h4', h5, h6, h7]; rfl) _
      · intro r w F H st res S hst
        simp only [if_neg hc] at hst; cases hst
  · exact fin _ _ (by unfold turnI Tok.kind; rw [h, h2, h3]; rfl) _
theorem getD_mem {α : Type} {l : List α} {i : Nat} {d : α} (h : i < l.length) : l.getD i d ∈ l := by
  have h1 := getD_some (d := d) h
  exact List.mem_of_getElem? h1
theorem PSt.at_ok {st : PSt} (h : st.ok) (k : Nat) : numOk (st.at k) := h.2.2.2 _ (getD_mem (by have := h.1; omega))
theorem PSt.now_ok {st : PSt} (h : st.ok) : numOk st.now := by
  unfold PSt.now; split
  · exact h.2.2.1
  · exact PSt.at_ok h _
theorem PI_ok {pb : Nat} {st : PSt} {H : Own} {F : Heap} (h : ((PI pb).inv st H).p F) : st.ok := by
  obtain ⟨sl, T0, ⟨_, h⟩, _⟩ := h; exact h
theorem nowS_eq {st st' : PSt} {b : Tok} (h : nowS st = some (.ok b st')) : b = st.now ∧ st' = st := by
  unfold nowS at h; cases h; exact ⟨rfl, rfl⟩
theorem nextS_eq {st st' : PSt} {b : Tok} (h : nextS st = some (.ok b st')) : b = st.now := by
  have : nextS st = some (.ok st.now { st with split := false, i := min (st.i + 1) (st.l.length - 1) }) := rfl
  rw [this] at h; cases h; rfl
theorem now_mT (pb : Nat) : Meets PG (PI pb) (callS F_parser_now #[.pointer (some (pAt pb))]) tTok nowS (fun b x => (Fact.prop (numOk b)).both (RelEq b x)) [] :=
  (now_m pb).strong fun st H F b st' hi h => by rw [(nowS_eq h).1]; exact PSt.now_ok (PI_ok hi)
theorem angle_m (pb : Nat) : Meets PG (PI pb) (callS F_parser_angle #[.pointer (some (pAt pb))]) tU angleS (fun _ _ => Fact.prop True) [] := by
  refine c_parser_angle (pAt pb) ?_
  unfold t_parser_angle angleS
  refine sim_op (take_m _ _) (fun _ h => nomatch h) fun x b => Sim.prop fun h => ?_
  subst h
  (first | refine qA (fun h => ?_) fun h => ?_ | refine qB (fun h => ?_) fun h => ?_ | refine qC (fun h => ?_) fun h => ?_ | refine qD (fun h => ?_) fun h => ?_ | refine qE (fun h => ?_) fun h => ?_)
  · exact sim_ret (t := tU) () (fun r w F H _ _ => run_resR0 w) (fun F _ => trivial)
  refine sim_op (now_mT _) (fun _ h => nomatch h) fun t b => Sim.both (Sim.prop fun hnum => Sim.prop fun h => ?_)
  subst h
  refine sim_val (split_m _ t) (fun _ h => nomatch h) ?_
  refine sim_varF (c := true) (z := [.int .i64 0, .string kE, .int .i64 0, .int .i64 0]) (by kernel_rfl) (by kernel_rfl) rfl (by simp [Value.cells, Value.oneCell']) fun b2 => ?_
  refine sim_joinU (fun s => if splitOk t then some (.ok () { s with left := splitTok t, split := true }) else none) ?_ ?_
  · by_cases hs : splitOk t
    · refine qE (fun h => ?_) (fun h => ?_)
      · simp [splitT, hs] at h
      · exact sim_outU rfl (by funext st; simp [hs]; rfl)
    · refine qE (fun h => ?_) (fun h => ?_)
      · refine Sim.spec (s' := failS) (by simp [hs]; rfl) ?_
        exact sim_fails (β1 := Unit) (Rel1 := fun _ _ _ => Fact.prop True) (fail_m _) (fun _ h => nomatch h) (by first | exact errs_fail | exact errs_failb _)
      · simp [splitT, hs] at h
  · by_cases hs : splitOk t
    · have ht : splitT t = (splitTok t, true, ()) := by simp [splitT, hs]
      rw [ht]
      refine sim_ldFA (bs := bsTok) (splitTok t) (by repeat (first | exact mz | apply ms)) (by kernel_rfl) rfl rfl ?_
      refine PI_open fun st sl T0 a hok ha hl => ?_
      refine at_loc (loc_st (L1 := []) (T := T_api_Token) (c := true) rfl (by kernel_rfl) rfl (Nat.le_of_ble_eq_true rfl) (by simp [Value.cells, Value.oneCell'])) ?_
      rintro _ _ _ ⟨rfl, rfl⟩
      refine at_loc (loc_st (L1 := []) (T := T_bool) (c := false) rfl (by kernel_rfl) rfl (Nat.le_of_ble_eq_true rfl) (by simp [Value.cells, Value.oneCell'])) ?_
      rintro _ _ _ ⟨rfl, rfl⟩
      refine at_ret (b := ()) (st := { st with left := splitTok t, split := true }) (H := [(pb, blk T0 (parCells sl { st with left := splitTok t, split := true }))]) (x := ()) ?_ (by simp [parCells, splice, Value.cells, encTok, HB.enc, B.enc]) ?_ ?_ ?_
      · simp [hs]
      · refine fun F hF => PI_shut (st := { st with left := splitTok t, split := true }) ⟨hok.1, hok.2.1, ?_, hok.2.2.2⟩ (hF (Sl 4 encTok sl st.l) (by repeat (first | exact mz | apply ms)))
        have h9 : Tok.kind t = 9 := by simp [splitOk] at hs; exact hs.1.1
        refine ⟨fun hk => ?_, ?_⟩
        · simp [splitTok, Tok.kind] at hk h9; omega
        · have := hnum.2; simp only [splitTok, Tok.text, ByteArray.size_extract] at this ⊢; omega
      · exact fun r w F hF hsp => run_resR0 w
      · exact fun F _ => trivial
    · intro r w F H st res S hst
      simp [hs] at hst

theorem turnI_le (t : Tok) : -1 ≤ turnI t ∧ turnI t ≤ 1 := by
  unfold turnI; split <;> (try split) <;> (try split) <;> (try split) <;> (try split) <;> simp
theorem closedF_end (l : List Tok) (k i : Nat) (n : Int) (h : l.length ≤ i) (hk : k = l.length - i) : closedF l k i n = l.getD (l.length - 1) noTok := by
  have : k = 0 := by omega
  subst this; rfl
def closedAt (i : Nat) (n : Int) : PM Tok := fun s => some (.ok (closedF s.l (s.l.length - i) i n) s)
def lastS : PM Tok := fun s => some (.ok (s.l.getD (s.l.length - 1) noTok) s)
theorem closed_m (pb : Nat) : Meets PG (PI pb) (callS F_parser_closed #[.pointer (some (pAt pb))]) tTok closedS RelEq [] := by
  refine c_parser_closed (pAt pb) ?_
  unfold t_parser_closed
  refine sim_loc (loc_alloc (z := [.int .i64 0, .string kE, .int .i64 0, .int .i64 0]) (by kernel_rfl)) ?_
  rintro _ _ _ ⟨b, rfl, rfl, rfl⟩
  have fin : ∀ {pb : Nat} {L : Own} {st : PSt} {sl : SlD} {T0 : TypeId} {a : Addr} {Δ : Labels Int PSt Tok} {i : Int} (k : Nat) (_ : L = [(b, blk T_api_Token [.int .i64 0, .string kE, .int .i64 0, .int .i64 0])]) (_ : st.ok) (_ : sl.1 = some a) (_ : i = k) (_ : k < st.l.length)
      (q : Option Quiet) (_ : (pb, blk T0 (parCells sl st)) ∈ (pb, blk T0 (parCells sl st)) :: L), SimAt PG (PI pb) tTok (pl RelEq) Δ (some ⟨[Sl 4 encTok sl st.l], [(pb, blk T0 (parCells sl st))]⟩) (.opq (idxAS T_Sapi_Token (.slice sl.1 sl.2.1 sl.2.2) (.int .i64 i)) tA fun r11 =>
          .opq (ldS T_api_Token (.pointer (some r11))) (.c (.agg [.int .i64, .str, .int .i64, .int .i64])) fun r12 =>
          .op (stS T_api_Token (.pointer (some ⟨b, 0, none⟩)) (.agg #[.int .i64 r12.1, .string r12.2.1, .int .i64 r12.2.2.1, .int .i64 r12.2.2.2.1])) tU fun _ =>
          .ret #[.c (.pointer (some ⟨b, 0, none⟩)) T_api_Token]) (some (.ok (st.l.getD k noTok) st)) ((pb, blk T0 (parCells sl st)) :: L) [Sl 4 encTok sl st.l] := by
    intro pb L st sl T0 a Δ i k hL hok ha hi hk q _
    subst hL
    refine at_opq (t1 := tA) _ (qidx encTok_len ha (fun F hF => hF _ (List.mem_cons_self ..)) (by kernel_rfl) _ hi hk) ?_
    refine at_opq (t1 := tTok) (st.l.getD k noTok) (qelem encTok_len ha (fun F hF => hF _ (List.mem_cons_self ..)) (getD_some hk) (by kernel_rfl)) ?_
    refine at_lift ?_
    refine at_loc (loc_st (L1 := [_]) (T := T_api_Token) (c := true) rfl (by kernel_rfl) rfl (Nat.le_of_ble_eq_true rfl) (by simp [Value.cells, Value.oneCell'])) ?_
    rintro _ _ _ ⟨rfl, rfl⟩
    refine at_ret (b := st.l.getD k noTok) (st := st) (H := [(pb, blk T0 (parCells sl st))]) (x := st.l.getD k noTok) rfl (by simp) ?_ ?_ ?_
    · exact fun F hF => PI_shut hok (hF _ (List.mem_cons_self ..))
    · exact fun r w F hF hsp => run_resRcA (vs := encTok (st.l.getD k noTok)) (by kernel_rfl) (hsp.own _ _ (by repeat (first | exact mz | apply ms))) rfl rfl
    · exact fun F _ => rfl
  refine PI_open fun st sl T0 a hok ha hl => ?_
  refine at_loc (loc_ld1 (b1 := .int .i64) (x := (st.i : Int)) (Rd.own (by repeat (first | exact mz | apply ms))) (by kernel_rfl) rfl rfl) ?_
  rintro _ _ _ ⟨rfl, rfl, rfl⟩
  have hi0 : st.i ≤ 1099511627776 := by have := hok.1; have := hok.2.1; omega
  show SimAt PG (PI pb) tTok (pl RelEq) noLabel none _ (closedAt st.i 0 st) ([(pb, blk T0 (parCells sl st))] ++ [_]) _
  refine SimAt.shut (s := closedAt st.i 0) ?_ (fun F hF => PI_shut hok (hF _ (by repeat (first | exact mz | apply ms)))) rfl
  refine Sim.weak (Γ' := []) ?_ (fun _ h => nomatch h)
  generalize st.i = i0 at hi0
  clear hok ha hl
  refine sim_joinU lastS ?_ ?_
  · refine sim_loop (x := { ι := Nat × Int, sp := fun j => closedAt j.1 j.2, J := fun j vs L' => Fact.prop (vs = [.int .i64 j.2, .int .i64 j.1] ∧ L' = [(b, blk T_api_Token [.int .i64 0, .string kE, .int .i64 0, .int .i64 0])] ∧ j.1 ≤ 1099511627776 ∧ -(j.1 : Int) ≤ j.2 ∧ j.2 ≤ j.1) }) (fun j => 1099511627777 - j.1) (i0, 0) rfl ?_ ?_ ?_
    · exact fun F hF => ⟨rfl, rfl, hi0, by simp, by simp⟩
    · rintro ⟨i, n⟩ vs L' F ⟨rfl, _⟩; exact ⟨(n, (i : Int), ()), rfl⟩
    · rintro ⟨i, n⟩ L' ⟨n', i', ⟨⟩⟩
      refine Sim.prop fun ⟨hv, hL, hi, hn1, hn2⟩ => ?_
      subst hL
      have h1 := (List.cons.inj hv).1
      have h2 := (List.cons.inj (List.cons.inj hv).2).1
      obtain rfl : n' = n := by cases h1; rfl
      obtain rfl : i' = (i : Int) := by cases h2; rfl
      simp only at hi hn1 hn2
      refine Sim.weak (Γ' := []) ?_ (fun _ h => nomatch h)
      refine PI_open fun st sl T0 a hok ha hl => ?_
      refine at_loc (loc_ld1 (b1 := .slice) (x := sl) (Rd.own (by repeat (first | exact mz | apply ms))) (by kernel_rfl) rfl rfl) ?_
      rintro _ _ _ ⟨rfl, rfl, rfl⟩
      refine at_ite (fun hlt => ?_) (fun hge => ?_)
      · have hlt' : i < st.l.length := by simp at hlt; omega
        refine at_loc (loc_ld1 (b1 := .slice) (x := sl) (Rd.own (by repeat (first | exact mz | apply ms))) (by kernel_rfl) rfl rfl) ?_
        rintro _ _ _ ⟨rfl, rfl, rfl⟩
        refine at_loc (loc_idx ha (fun F hF => hF _ (List.mem_cons_self ..)) (by kernel_rfl) i rfl hlt') ?_
        rintro _ _ _ ⟨rfl, rfl, rfl⟩
        refine at_loc (loc_elemA (bs := bsTok) encTok_len ha (fun F hF => hF _ (List.mem_cons_self ..)) (getD_some hlt') (by kernel_rfl) (st.l.getD i noTok) rfl) ?_
        rintro _ _ _ ⟨rfl, rfl, rfl⟩
        refine at_val (turn_m _ _) ?_
        have hT := turnI_le (st.l.getD i noTok)
        have hw : IntKind.i64.wrap (n' + turnI (st.l.getD i noTok)) = n' + turnI (st.l.getD i noTok) := wrap_id (by omega) (by omega)
        have hw2 : IntKind.i64.wrap ((i : Int) + 1) = ((i + 1 : Nat) : Int) := by rw [wrap_id (by omega) (by omega)]; simp
        have hk : st.l.length - i = (st.l.length - (i + 1)) + 1 := by omega
        have hok2 := hok.2.1
        refine at_ite (fun hz => ?_) (fun hz => ?_)
        · rw [hw] at hz
          refine at_draw [(pb, blk T0 (parCells sl st))] (fun p hp => by simp at hp; simp [hp]) ?_
          refine at_opq (t1 := tSl) sl (qval_ld1 (QRd.own (List.mem_cons_self ..)) (by kernel_rfl) rfl rfl) ?_
          refine at_opq (t1 := tSl) sl (qval_ld1 (QRd.own (List.mem_cons_self ..)) (by kernel_rfl) rfl rfl) ?_
          have hrun : closedAt i n' st = some (.ok (st.l.getD (min (i + 1) (st.l.length - 1)) noTok) st) := by
            unfold closedAt; rw [hk]; unfold closedF; simp only [hz, if_true]
          show SimAt PG (PI pb) tTok (pl RelEq) _ _ _ (closedAt i n' st) _ _
          rw [hrun]
          refine fin (min (i + 1) (st.l.length - 1)) rfl hok ha ?_ (by omega) none (List.mem_cons_self ..)
          dsimp only
          rw [hw2, wrap_id (by omega) (by omega)]
          split <;> omega
        · rw [hw] at hz
          have hrun : closedAt i n' st = closedAt (i + 1) (n' + turnI (st.l.getD i noTok)) st := by
            unfold closedAt; rw [hk]; conv => lhs; unfold closedF
            simp only [hz]; rfl
          rw [hw, hw2]
          show SimAt PG (PI pb) tTok (pl RelEq) _ _ _ (closedAt i n' st) ([(pb, blk T0 (parCells sl st))] ++ [_]) _
          rw [hrun]
          refine at_out rfl ⟨(i + 1, n' + turnI (st.l.getD i noTok)), ?_⟩ rfl (fun F hF => ⟨rfl, rfl, ?_, ?_, ?_⟩) (fun F hF => PI_shut hok (hF _ (List.mem_cons_self ..)))
          · show 1099511627777 - (i + 1) < 1099511627777 - i; clear hw hw2 hT hz hrun; omega
          · show i + 1 ≤ _; omega
          · show -((i + 1 : Nat) : Int) ≤ n' + turnI (st.l.getD i noTok); omega
          · exact (Int.add_le_add hn2 hT.2 : n' + turnI (st.l.getD i noTok) ≤ (i : Int) + 1)
      · have hge' : st.l.length ≤ i := by simp at hge; omega
        show SimAt PG (PI pb) tTok (pl RelEq) _ _ _ (closedAt i n' st) ([(pb, blk T0 (parCells sl st))] ++ [_]) _
        refine at_out (x := lbU lastS _) rfl () ?_ (fun F hF => ⟨rfl, rfl⟩) (fun F hF => PI_shut hok (hF _ (List.mem_cons_self ..)))
        unfold closedAt; rw [closedF_end _ _ _ _ hge' rfl]; rfl
  · refine PI_open fun st sl T0 a hok ha hl => ?_
    refine at_draw [(pb, blk T0 (parCells sl st))] (fun p hp => by simp at hp; simp [hp]) ?_
    refine at_opq (t1 := tSl) sl (qval_ld1 (QRd.own (List.mem_cons_self ..)) (by kernel_rfl) rfl rfl) ?_
    refine at_opq (t1 := tSl) sl (qval_ld1 (QRd.own (List.mem_cons_self ..)) (by kernel_rfl) rfl rfl) ?_
    obtain ⟨hok1, hok2, hok3⟩ := id hok
    exact fin (st.l.length - 1) rfl hok ha (by rw [wrap_id (by omega) (by omega)]; omega) (by omega) none (List.mem_cons_self ..)
end Go.Proofs.YtjlgcpgjdgeejaaGreatDoor
end

/- What the parser's functions are held to while they call each other; numbers. Conditions: none. -/
section
namespace Go.Proofs.YtjlgcpgjdgeejaaGreatDoor
open Go
set_option linter.unusedSimpArgs false
set_option linter.unusedVariables false
set_option linter.constructorNameAsVariable false
set_option maxRecDepth 100000

def OptF : Option N → Option Addr → Fact
  | none, p => Fact.prop (p = none)
  | some n, p => NodeF n p
def NumM : Prop := ∀ {ε σ : Type} (I : Ifc ε σ) (s : ByteArray), s.size ≤ 18 → (Lib.atoi s.data.toList).isSome = true → Meets PG I (callS F_syntax_number #[.string s]) tI (Pure.pure (numI s)) RelEq []
structure PRecM (R : PRec) : Prop where
  fuel : R.fuel ≤ 549755813888
  num : NumM
  expr : ∀ pb, Meets PG (PI pb) (callS F_parser_expr #[.pointer (some (pAt pb))]) tP R.expr NodeF []
  typed : ∀ pb, Meets PG (PI pb) (callS F_parser_typed #[.pointer (some (pAt pb))]) tP R.typed NodeF []
  block : ∀ pb, Meets PG (PI pb) (callS F_parser_block #[.pointer (some (pAt pb))]) tP R.block NodeF []
  unary : ∀ pb, Meets PG (PI pb) (callS F_parser_unary #[.pointer (some (pAt pb))]) tP R.unary NodeF []
  branch : ∀ pb, Meets PG (PI pb) (callS F_parser_branch #[.pointer (some (pAt pb))]) tP R.branch NodeF []
  statement : ∀ pb, Meets PG (PI pb) (callS F_parser_statement #[.pointer (some (pAt pb))]) tP R.statement NodeF []
  declaration : ∀ pb (t : Tok), Meets PG (PI pb) (callS F_parser_declaration #[.pointer (some (pAt pb)), .agg #[.int .i64 t.1, .string t.2.1, .int .i64 t.2.2.1, .int .i64 t.2.2.2.1]]) tP (R.declaration t) OptF []

section
variable {ε σ β β1 : Type} {P : Program} {I : Ifc ε σ} {t : Ty} {Rel : β → t.den → Own → Fact} {Δ : Labels ε σ β} {q : Option Quiet} {L : Own} {Γ : List Fact} {s : Sp ε σ β}
noncomputable def guardS (φ : σ → Prop) (s : Sp ε σ β) : Sp ε σ β := fun st => @ite _ (φ st) (Classical.propDecidable _) (s st) none
theorem guardS_some {φ : σ → Prop} {s : Sp ε σ β} {st : σ} {res : Res ε σ β} (h : guardS φ s st = some res) : φ st ∧ s st = some res := by
  unfold guardS at h; split at h
  · exact ⟨by assumption, h⟩
  · cases h
theorem guardS_of {φ : σ → Prop} {s : Sp ε σ β} {st : σ} (h : φ st) : guardS φ s st = s st := by unfold guardS; rw [if_pos h]
theorem Sim.unguard {φ : σ → Prop} {m : T} (h : Sim P I t Rel Δ q m s L Γ) : Sim P I t Rel Δ q m (guardS φ s) L Γ := fun r w F H st res S hs => h r w F H st res S (guardS_some hs).2
theorem sim_opG {t1 : Ty} {s0 : Sem Next} {k : t1.den → T} {s1 : Sp ε σ β1} {s2 : β1 → Sp ε σ β} {Rel1 : β1 → t1.den → Fact} {Γ1 : List Fact} (φ : β1 → σ → Prop) (hm : Meets P I s0 t1 s1 Rel1 Γ1)
    (hΓ1 : ∀ A ∈ Γ1, A ∈ Γ) (hφ : ∀ st b st', s1 st = some (.ok b st') → φ b st') (hk : ∀ x b, Sim P I t Rel Δ none (k x) (guardS (φ b) (s2 b)) L (Rel1 b x :: Γ)) : Sim P I t Rel Δ q (.op s0 t1 k) (s1 >>= s2) L Γ := by
  intro r w F H st res S hs hΓ hi hsp hq
  simp only [T.wp]
  refine meets_frame hm hΓ1 hs hΓ hi hsp ?_ ?_
  · rintro b x F' H' K1 st' w' h1 h2 hle ⟨rfl, hR⟩ hinv hS
    exact ⟨x, rfl, wp_le hle (hk x b r w' F' H' st' res S (by rw [guardS_of (hφ st b st' h1)]; exact h2) (Holds.cons hR (hΓ.mono hle)) hinv hS trivial)⟩
  · rintro y c F' w' rfl hle he hS
    exact ⟨F', hle, c, rfl, he, hS⟩
theorem sim_oplG {q : Quiet} {t1 : Ty} {s0 : Sem Next} {k : t1.den → T} {s1 : Sp ε σ β1} {s2 : β1 → Sp ε σ β} {Rel1 : β1 → t1.den → Fact} {Γ1 : List Fact} {φ : σ → Prop} (ψ : β1 → Prop) (hm : Meets P I s0 t1 s1 Rel1 Γ1)
    (hΓ1 : ∀ A ∈ Γ1, A ∈ Γ) (hφ : ∀ st b st', φ st → s1 st = some (.ok b st') → ψ b) (hk : ∀ x b, ψ b → Sim P I t Rel Δ (some q) (k x) (s2 b) L (Rel1 b x :: Γ)) : Sim P I t Rel Δ (some q) (.opl s0 t1 k) (guardS φ (s1 >>= s2)) L Γ := by
  intro r w F H st res S hs hΓ hi hsp hq
  obtain ⟨hst, hs⟩ := guardS_some hs
  simp only [T.wp]
  refine meets_frame hm hΓ1 hs hΓ hi hsp ?_ ?_
  · rintro b x F' H' K1 st' w' h1 h2 hle ⟨rfl, hR⟩ hinv hS
    obtain ⟨hw, hq'⟩ := Stab.keep hq hle hS hq.1
    exact ⟨hw, x, rfl, wp_le hle (hk x b (hφ st b st' hst h1) r w' F' H' st' res S h2 (Holds.cons hR (hΓ.mono hle)) hinv hS hq')⟩
  · rintro y c F' w' rfl hle he hS
    exact ⟨F', hle, c, rfl, he, hS⟩
end
theorem nameS_eq {st st' : PSt} {b : ByteArray} (h : nameS st = some (.ok b st')) : b = st.now.text := by
  have e : nameS st = if st.now.kind != 1 then some (.err st.now.pos) else some (.ok st.now.text { st with split := false, i := min (st.i + 1) (st.l.length - 1) }) := by
    show (if st.now.kind != 1 then failS else _) st = _
    split <;> rfl
  rw [e] at h
  split at h
  · cases h
  · cases h; rfl
theorem name_mT (pb : Nat) : Meets PG (PI pb) (callS F_parser_name #[.pointer (some (pAt pb))]) tS nameS (fun b x => (Fact.prop (b.size ≤ 4194304)).both (RelEq b x)) [] :=
  (name_m pb).strong fun st H F b st' hi h => by rw [nameS_eq h]; exact (PSt.now_ok (PI_ok hi)).2
end Go.Proofs.YtjlgcpgjdgeejaaGreatDoor
end

/- The trees of functions of the program, each with the proof that it is the tree of the translated code. Conditions: none. By program. -/
section
namespace Go.Proofs.YtjlgcpgjdgeejaaGreatDoor
open Go
set_option linter.unusedVariables false
set_option maxRecDepth 100000
noncomputable section
def an_parser_typed : An :=
  .s (.r [none]) (.s (.r [none, some (.c (.agg [.int .i64, .str, .int .i64, .int .i64])), none, none]) (.s (.r [none, some tB]) (.s (.r [none, some tP, none]) (.s (.s (.r [none, some tB, none]) (.c (.s (.r [none, none]) (.x)) (.x))) (.s (.r [none, none, some tSl, some tP, none]) (.s (.b (.l [] (.s (.s (.r [none, some tB]) (.c (.x) (.x))) (.b (.d (.q 0 none (.q 1 none (.q 2 (some tA) (.q 3 none (.q 4 (some tSl) (.q 5 none (.l 6 (some tP) (.l 7 (some tSl) (.l 8 (some tSl) (.q 9 (some tA) (.q 10 none (.l 11 (some tU) (.e)))))))))))))))))) (.s (.r [none, none]) (.x))))))))
def t_parser_typed (a0_p : Addr) : T :=
 .op (callS F_parser_now #[.pointer (some a0_p)]) (.c (.agg [.int .i64, .str, .int .i64, .int .i64])) fun r1 =>
 .op (callS F_parser_take #[.pointer (some a0_p), .string k_bar]) tB fun r2 =>
 .op (callS F_parser_rows #[.pointer (some a0_p)]) tP fun r3 =>
 .op (callS F_parser_is #[.pointer (some a0_p), .string k_bar]) tB fun r4 =>
 .ite (!r4) (
 .ret #[.v (.pointer r3)]) (
 .op (sliceS T_SPsyntax_node 1 #[(0, .pointer r3)]) tSl fun r5 =>
 .op (callS F_syntax_made #[.int .i64 87, .string kE, .int .i64 0, .int .i64 r1.2.2.1, .slice r5.1 r5.2.1 r5.2.2]) tP fun r6 =>
 .loop 0 [] [] fun x7 =>
 .op (callS F_parser_take #[.pointer (some a0_p), .string k_bar]) tB fun r8 =>
 .ite r8 (
 .draw <|
 .opq (nilS (.pointer r6)) tA fun r9 =>
 .opq (ldS T_SPsyntax_node (.pointer (some ⟨r9.block, r9.off + 5, none⟩))) tSl fun r10 =>
 .opl (callS F_parser_rows #[.pointer (some a0_p)]) tP fun r11 =>
 .opl (sliceS T_SPsyntax_node 1 #[(0, .pointer r11)]) tSl fun r12 =>
 .opl (appS #[T_SPsyntax_node, T_SPsyntax_node] T_SPsyntax_node #[.slice r10.1 r10.2.1 r10.2.2, .slice r12.1 r12.2.1 r12.2.2]) tSl fun r13 =>
 .opq (nilS (.pointer r6)) tA fun r14 =>
 .op (stS T_SPsyntax_node (.pointer (some ⟨r14.block, r14.off + 5, none⟩)) (.slice r13.1 r13.2.1 r13.2.2)) tU fun _ =>
 .out 0 []) (
 .ret #[.v (.pointer r6)]))
theorem d_parser_typed (a0_p : Addr) : fnT Tryz.prog Tryz.f88 an_parser_typed [.pointer (some a0_p)] = t_parser_typed a0_p := by kernel_rfl
theorem c_parser_typed {ε σ β : Type} {I : Ifc ε σ} {t : Ty} {s : Sp ε σ β} {Rel : β → t.den → Own → Fact} {Γ : List Fact} (a0_p : Addr) (h : Sim Tryz.prog I t Rel noLabel none (t_parser_typed a0_p) s [] Γ) : MeetsO Tryz.prog I (callS F_parser_typed #[.pointer (some a0_p)]) t s Rel Γ :=
  meets_of_sim (args := [.pointer (some a0_p)]) Tryz.func88 rfl rfl (Nat.le_of_ble_eq_true rfl) (by rw [d_parser_typed]; exact h)

def an_parser_rows : An :=
  .s (.r [none]) (.s (.r [none, some (.c (.agg [.int .i64, .str, .int .i64, .int .i64])), none, none]) (.s (.r [none, some tP, none]) (.s (.b (.l [(4, .b .ptr)] (.s (.s (.j [(16, .b .bool)] (.r [none, some tB, none, none, some (.c (.agg [.int .i64, .str, .int .i64, .int .i64])), some tB, none])) (.c (.x) (.x))) (.b (.s (.r [none, some (.c (.agg [.int .i64, .str, .int .i64, .int .i64]))]) (.s (.r [none, some (.c (.agg [.int .i64, .str, .int .i64, .int .i64]))]) (.r [none, none, some tSl, some tP, none]))))))) (.s (.r [none, none]) (.x)))))
def t_parser_rows (a0_p : Addr) : T :=
 .op (callS F_parser_now #[.pointer (some a0_p)]) (.c (.agg [.int .i64, .str, .int .i64, .int .i64])) fun r1 =>
 .op (callS F_parser_plain #[.pointer (some a0_p)]) tP fun r2 =>
 .loop 0 [.b .ptr] [.pointer r2] fun x3 =>
 .join 1 [.b .bool] (
 .op (callS F_parser_is #[.pointer (some a0_p), .string k_lb]) tB fun r4 =>
 .ite r4 (
 .op (callS F_parser_then #[.pointer (some a0_p), .int .i64 1]) (.c (.agg [.int .i64, .str, .int .i64, .int .i64])) fun r5 =>
 .op (callS F_syntax_says #[.agg #[.int .i64 r5.1, .string r5.2.1, .int .i64 r5.2.2.1, .int .i64 r5.2.2.2.1], .string k_rb]) tB fun r6 =>
 .out 1 [.bool r6]) (
 .out 1 [.bool false])) fun x7 =>
 .ite x7.1 (
 .op (callS F_parser_next #[.pointer (some a0_p)]) (.c (.agg [.int .i64, .str, .int .i64, .int .i64])) fun r8 =>
 .op (callS F_parser_next #[.pointer (some a0_p)]) (.c (.agg [.int .i64, .str, .int .i64, .int .i64])) fun r9 =>
 .op (sliceS T_SPsyntax_node 1 #[(0, .pointer x3.1)]) tSl fun r10 =>
 .op (callS F_syntax_made #[.int .i64 83, .string kE, .int .i64 0, .int .i64 r1.2.2.1, .slice r10.1 r10.2.1 r10.2.2]) tP fun r11 =>
 .out 0 [.pointer r11]) (
 .ret #[.v (.pointer x3.1)])
theorem d_parser_rows (a0_p : Addr) : fnT Tryz.prog Tryz.f144 an_parser_rows [.pointer (some a0_p)] = t_parser_rows a0_p := by kernel_rfl
theorem c_parser_rows {ε σ β : Type} {I : Ifc ε σ} {t : Ty} {s : Sp ε σ β} {Rel : β → t.den → Own → Fact} {Γ : List Fact} (a0_p : Addr) (h : Sim Tryz.prog I t Rel noLabel none (t_parser_rows a0_p) s [] Γ) : MeetsO Tryz.prog I (callS F_parser_rows #[.pointer (some a0_p)]) t s Rel Γ :=
  meets_of_sim (args := [.pointer (some a0_p)]) Tryz.func144 rfl rfl (Nat.le_of_ble_eq_true rfl) (by rw [d_parser_rows]; exact h)

def an_syntax_number : An :=
  .s (.r [none]) (.s (.r [none, some (.tup [.b (.int .i64), .b .val]), none, none, none, none, none]) (.s (.r [none, none]) (.x)))
def t_syntax_number (a0_s : ByteArray) : T :=
 .op (callS F_strconv_Atoi #[.string a0_s]) (.tup [.b (.int .i64), .b .val]) fun r1 =>
 .ret #[.v (.int .i64 r1.1)]
theorem d_syntax_number (a0_s : ByteArray) : fnT Tryz.prog Tryz.f226 an_syntax_number [.string a0_s] = t_syntax_number a0_s := by kernel_rfl
theorem c_syntax_number {ε σ β : Type} {I : Ifc ε σ} {t : Ty} {s : Sp ε σ β} {Rel : β → t.den → Own → Fact} {Γ : List Fact} (a0_s : ByteArray) (h : Sim Tryz.prog I t Rel noLabel none (t_syntax_number a0_s) s [] Γ) : MeetsO Tryz.prog I (callS F_syntax_number #[.string a0_s]) t s Rel Γ :=
  meets_of_sim (args := [.string a0_s]) Tryz.func226 rfl rfl (Nat.le_of_ble_eq_true rfl) (by rw [d_syntax_number]; exact h)

def an_parser_plain : An :=
  .s (.r [none]) (.s (.r [none, some (.c (.agg [.int .i64, .str, .int .i64, .int .i64])), some tA, some tU]) (.s (.b (.s (.j [(7, .b .bool)] (.r [none, some tB, none, none, some (.c (.agg [.int .i64, .str, .int .i64, .int .i64])), some tB, none, none])) (.c (.s (.r [none, some tP, none]) (.x)) (.s (.r [none, some tB, none]) (.c (.s (.r [none, some tP, none]) (.s (.r [none, some tU]) (.s (.r [none, none]) (.x)))) (.s (.r [none, some tI, none, none]) (.c (.s (.r [none, some (.c (.agg [.int .i64, .str, .int .i64, .int .i64]))]) (.s (.d (.q 0 none (.q 1 (some tS) (.q 3 none (.q 4 (some tI) (.l 2 (some tI) (.l 5 (some tP) (.q 6 none (.e))))))))) (.x))) (.s (.r [none, some tB, none]) (.c (.s (.s (.r [none, some (.c (.agg [.int .i64, .str, .int .i64, .int .i64])), none, none]) (.j [] (.c (.r [none, some tU]) (.x)))) (.s (.d (.q 0 none (.q 5 none (.q 6 (some tI) (.l 1 (some (.c (.agg [.int .i64, .str, .int .i64, .int .i64]))) (.q 2 none (.l 3 (some tI) (.q 4 none (.l 7 (some tP) (.q 8 none (.e))))))))))) (.x))) (.s (.r [none, some tI, none, none]) (.c (.s (.r [none, some (.c (.agg [.int .i64, .str, .int .i64, .int .i64]))]) (.s (.r [none, some tS, none, some tI, some tP, none]) (.x))) (.s (.r [none, some tB, none]) (.c (.s (.r [none, some tP, none]) (.x)) (.x)))))))))))))) (.s (.r [none, some tP, none]) (.x))))
def t_parser_plain (a0_a0 : Addr) : T :=
 .op (callS F_parser_now #[.pointer (some a0_a0)]) (.c (.agg [.int .i64, .str, .int .i64, .int .i64])) fun r1 =>
 .op (allocS T_api_Token) tA fun r2 =>
 .op (stS T_api_Token (.pointer (some r2)) (.agg #[.int .i64 r1.1, .string r1.2.1, .int .i64 r1.2.2.1, .int .i64 r1.2.2.2.1])) tU fun _ =>
 .join 0 [.b .bool] (
 .op (callS F_parser_is #[.pointer (some a0_a0), .string k_lp]) tB fun r4 =>
 .ite r4 (
 .op (callS F_parser_closed #[.pointer (some a0_a0)]) (.c (.agg [.int .i64, .str, .int .i64, .int .i64])) fun r5 =>
 .op (callS F_syntax_says #[.agg #[.int .i64 r5.1, .string r5.2.1, .int .i64 r5.2.2.1, .int .i64 r5.2.2.2.1], .string k_eq_gt]) tB fun r6 =>
 .out 0 [.bool r6]) (
 .out 0 [.bool false])) fun x7 =>
 .ite x7.1 (
 .op (callS F_parser_arrowType #[.pointer (some a0_a0)]) tP fun r8 =>
 .ret #[.v (.pointer r8)]) (
 .op (callS F_parser_take #[.pointer (some a0_a0), .string k_lp]) tB fun r9 =>
 .ite r9 (
 .op (callS F_parser_typed #[.pointer (some a0_a0)]) tP fun r10 =>
 .op (callS F_parser_must #[.pointer (some a0_a0), .string k_rp]) tU fun _ =>
 .ret #[.v (.pointer r10)]) (
 .op (ldS T_int (.pointer (some r2))) tI fun r12 =>
 .ite ((r12 : Int) == 3) (
 .op (callS F_parser_next #[.pointer (some a0_a0)]) (.c (.agg [.int .i64, .str, .int .i64, .int .i64])) fun r13 =>
 .draw <|
 .opq (ldS T_string (.pointer (some ⟨r2.block, r2.off + 1, none⟩))) tS fun r14 =>
 .opq (ldS T_int (.pointer (some ⟨r2.block, r2.off + 2, none⟩))) tI fun r15 =>
 .opl (callS F_syntax_number #[.string r14]) tI fun r16 =>
 .opl (callS F_syntax_made #[.int .i64 81, .string kE, .int .i64 r16, .int .i64 r15, .slice none 0 0]) tP fun r17 =>
 .ret #[.v (.pointer r17)]) (
 .op (callS F_parser_take #[.pointer (some a0_a0), .string k_minus]) tB fun r18 =>
 .ite r18 (
 .op (callS F_parser_now #[.pointer (some a0_a0)]) (.c (.agg [.int .i64, .str, .int .i64, .int .i64])) fun r19 =>
 .join 0 [] (
 .ite ((r19.1 : Int) != 3) (
 .op (callS F_parser_fail #[.pointer (some a0_a0)]) tU fun _ =>
 .out 0 []) (
 .out 0 [])) fun x21 =>
 .draw <|
 .opq (ldS T_int (.pointer (some ⟨r2.block, r2.off + 2, none⟩))) tI fun r22 =>
 .opl (callS F_parser_next #[.pointer (some a0_a0)]) (.c (.agg [.int .i64, .str, .int .i64, .int .i64])) fun r23 =>
 .opl (callS F_syntax_number #[.string r23.2.1]) tI fun r24 =>
 .opl (callS F_syntax_made #[.int .i64 81, .string kE, .int .i64 (IntKind.i64.wrap (0 - r24)), .int .i64 r22, .slice none 0 0]) tP fun r25 =>
 .ret #[.v (.pointer r25)]) (
 .op (ldS T_int (.pointer (some r2))) tI fun r26 =>
 .ite ((r26 : Int) == 4) (
 .op (callS F_parser_next #[.pointer (some a0_a0)]) (.c (.agg [.int .i64, .str, .int .i64, .int .i64])) fun r27 =>
 .op (ldS T_string (.pointer (some ⟨r2.block, r2.off + 1, none⟩))) tS fun r28 =>
 .op (ldS T_int (.pointer (some ⟨r2.block, r2.off + 2, none⟩))) tI fun r29 =>
 .op (callS F_syntax_made #[.int .i64 82, .string r28, .int .i64 0, .int .i64 r29, .slice none 0 0]) tP fun r30 =>
 .ret #[.v (.pointer r30)]) (
 .op (callS F_parser_is #[.pointer (some a0_a0), .string k_lc]) tB fun r31 =>
 .ite r31 (
 .op (callS F_parser_objectType #[.pointer (some a0_a0)]) tP fun r32 =>
 .ret #[.v (.pointer r32)]) (
 .op (callS F_parser_ref #[.pointer (some a0_a0)]) tP fun r33 =>
 .ret #[.v (.pointer r33)]))))))
theorem d_parser_plain (a0_a0 : Addr) : fnT Tryz.prog Tryz.f194 an_parser_plain [.pointer (some a0_a0)] = t_parser_plain a0_a0 := by kernel_rfl
theorem c_parser_plain {ε σ β : Type} {I : Ifc ε σ} {t : Ty} {s : Sp ε σ β} {Rel : β → t.den → Own → Fact} {Γ : List Fact} (a0_a0 : Addr) (h : Sim Tryz.prog I t Rel noLabel none (t_parser_plain a0_a0) s [] Γ) : MeetsO Tryz.prog I (callS F_parser_plain #[.pointer (some a0_a0)]) t s Rel Γ :=
  meets_of_sim (args := [.pointer (some a0_a0)]) Tryz.func194 rfl rfl (Nat.le_of_ble_eq_true rfl) (by rw [d_parser_plain]; exact h)

def an_parser_arrowType : An :=
  .s (.r [none]) (.s (.r [none, some (.c (.agg [.int .i64, .str, .int .i64, .int .i64])), none, none]) (.s (.r [none, some tU]) (.s (.r [none, some tP, none]) (.s (.r [none, some tU]) (.s (.r [none, some tU]) (.s (.r [none, none, none, some tP, some tSl, some tP, none]) (.x)))))))
def t_parser_arrowType (a0_p : Addr) : T :=
 .op (callS F_parser_now #[.pointer (some a0_p)]) (.c (.agg [.int .i64, .str, .int .i64, .int .i64])) fun r1 =>
 .op (callS F_parser_must #[.pointer (some a0_p), .string k_lp]) tU fun _ =>
 .op (callS F_parser_params #[.pointer (some a0_p), .bool false]) tP fun r3 =>
 .op (callS F_parser_must #[.pointer (some a0_p), .string k_rp]) tU fun _ =>
 .op (callS F_parser_must #[.pointer (some a0_p), .string k_eq_gt]) tU fun _ =>
 .op (callS F_parser_typed #[.pointer (some a0_p)]) tP fun r6 =>
 .op (sliceS T_SPsyntax_node 2 #[(0, .pointer r3), (1, .pointer r6)]) tSl fun r7 =>
 .op (callS F_syntax_made #[.int .i64 86, .string kE, .int .i64 0, .int .i64 r1.2.2.1, .slice r7.1 r7.2.1 r7.2.2]) tP fun r8 =>
 .ret #[.v (.pointer r8)]
theorem d_parser_arrowType (a0_p : Addr) : fnT Tryz.prog Tryz.f225 an_parser_arrowType [.pointer (some a0_p)] = t_parser_arrowType a0_p := by kernel_rfl
theorem c_parser_arrowType {ε σ β : Type} {I : Ifc ε σ} {t : Ty} {s : Sp ε σ β} {Rel : β → t.den → Own → Fact} {Γ : List Fact} (a0_p : Addr) (h : Sim Tryz.prog I t Rel noLabel none (t_parser_arrowType a0_p) s [] Γ) : MeetsO Tryz.prog I (callS F_parser_arrowType #[.pointer (some a0_p)]) t s Rel Γ :=
  meets_of_sim (args := [.pointer (some a0_p)]) Tryz.func225 rfl rfl (Nat.le_of_ble_eq_true rfl) (by rw [d_parser_arrowType]; exact h)

def an_parser_ref : An :=
  .s (.r [none]) (.s (.r [none, some (.c (.agg [.int .i64, .str, .int .i64, .int .i64])), some tA, some tU]) (.s (.b (.s (.s (.r [none, some tB, none]) (.j [(7, .b .bool)] (.c (.x) (.s (.r [none, some tB, none]) (.c (.x) (.s (.r [none, some tB, none]) (.c (.x) (.r [none, some tB, none])))))))) (.c (.s (.d (.q 0 none (.q 1 (some tS) (.q 2 none (.q 3 (some tI) (.q 4 none (.l 5 (some tP) (.l 6 (some tSl) (.l 7 (some tP) (.q 8 none (.e))))))))))) (.x)) (.x)))) (.s (.r [none, some tS, none]) (.s (.j [(4, .b .str)] (.b (.l [(4, .b .str)] (.s (.s (.r [none, some tB]) (.c (.x) (.x))) (.b (.r [none, none, some tS, some tS, some tS, none])))))) (.s (.d (.q 0 none (.q 1 none (.q 2 (some tI) (.q 3 none (.l 4 (some tP) (.l 5 (some tSl) (.l 6 (some tP) (.q 7 none (.e)))))))))) (.x))))))
def t_parser_ref (a0_p : Addr) : T :=
 .op (callS F_parser_now #[.pointer (some a0_p)]) (.c (.agg [.int .i64, .str, .int .i64, .int .i64])) fun r1 =>
 .op (allocS T_api_Token) tA fun r2 =>
 .op (stS T_api_Token (.pointer (some r2)) (.agg #[.int .i64 r1.1, .string r1.2.1, .int .i64 r1.2.2.1, .int .i64 r1.2.2.2.1])) tU fun _ =>
 .op (callS F_parser_take #[.pointer (some a0_p), .string knull]) tB fun r4 =>
 .join 0 [.b .bool] (
 .ite r4 (
 .out 0 [.bool true]) (
 .op (callS F_parser_take #[.pointer (some a0_p), .string kundefined]) tB fun r5 =>
 .ite r5 (
 .out 0 [.bool true]) (
 .op (callS F_parser_take #[.pointer (some a0_p), .string ktrue]) tB fun r6 =>
 .ite r6 (
 .out 0 [.bool true]) (
 .op (callS F_parser_take #[.pointer (some a0_p), .string kfalse]) tB fun r7 =>
 .out 0 [.bool r7])))) fun x8 =>
 .ite x8.1 (
 .draw <|
 .opq (ldS T_string (.pointer (some ⟨r2.block, r2.off + 1, none⟩))) tS fun r9 =>
 .opq (ldS T_int (.pointer (some ⟨r2.block, r2.off + 2, none⟩))) tI fun r10 =>
 .opl (callS F_parser_empty #[.pointer (some a0_p)]) tP fun r11 =>
 .opl (sliceS T_SPsyntax_node 1 #[(0, .pointer r11)]) tSl fun r12 =>
 .opl (callS F_syntax_made #[.int .i64 80, .string r9, .int .i64 0, .int .i64 r10, .slice r12.1 r12.2.1 r12.2.2]) tP fun r13 =>
 .ret #[.v (.pointer r13)]) (
 .op (callS F_parser_name #[.pointer (some a0_p)]) tS fun r14 =>
 .join 0 [.b .str] (
 .loop 1 [.b .str] [.string r14] fun x15 =>
 .op (callS F_parser_take #[.pointer (some a0_p), .string k_dot]) tB fun r16 =>
 .ite r16 (
 .op (callS F_parser_name #[.pointer (some a0_p)]) tS fun r17 =>
 .op (binS .add T_string (.string k_dot) (.string r17)) tS fun r18 =>
 .op (binS .add T_string (.string x15.1) (.string r18)) tS fun r19 =>
 .out 1 [.string r19]) (
 .out 0 [.string x15.1])) fun x20 =>
 .draw <|
 .opq (ldS T_int (.pointer (some ⟨r2.block, r2.off + 2, none⟩))) tI fun r21 =>
 .opl (callS F_parser_args #[.pointer (some a0_p)]) tP fun r22 =>
 .opl (sliceS T_SPsyntax_node 1 #[(0, .pointer r22)]) tSl fun r23 =>
 .opl (callS F_syntax_made #[.int .i64 80, .string x20.1, .int .i64 0, .int .i64 r21, .slice r23.1 r23.2.1 r23.2.2]) tP fun r24 =>
 .ret #[.v (.pointer r24)])
theorem d_parser_ref (a0_p : Addr) : fnT Tryz.prog Tryz.f220 an_parser_ref [.pointer (some a0_p)] = t_parser_ref a0_p := by kernel_rfl
theorem c_parser_ref {ε σ β : Type} {I : Ifc ε σ} {t : Ty} {s : Sp ε σ β} {Rel : β → t.den → Own → Fact} {Γ : List Fact} (a0_p : Addr) (h : Sim Tryz.prog I t Rel noLabel none (t_parser_ref a0_p) s [] Γ) : MeetsO Tryz.prog I (callS F_parser_ref #[.pointer (some a0_p)]) t s Rel Γ :=
  meets_of_sim (args := [.pointer (some a0_p)]) Tryz.func220 rfl rfl (Nat.le_of_ble_eq_true rfl) (by rw [d_parser_ref]; exact h)

def an_parser_refs : An :=
  .s (.r [none]) (.s (.r [none, some (.c (.agg [.int .i64, .str, .int .i64, .int .i64])), none, none]) (.s (.s (.r [none, none, some tB, none]) (.c (.s (.r [none, some tP, none]) (.x)) (.x))) (.s (.r [none, none, none, some tP, none]) (.s (.r [none, none, some tA, none, none, some tU]) (.s (.r [none, none]) (.x))))))
def t_parser_refs (a0_p : Addr) (a1_word : ByteArray) : T :=
 .op (callS F_parser_now #[.pointer (some a0_p)]) (.c (.agg [.int .i64, .str, .int .i64, .int .i64])) fun r1 =>
 .op (callS F_parser_take #[.pointer (some a0_p), .string a1_word]) tB fun r2 =>
 .ite (!r2) (
 .op (callS F_parser_empty #[.pointer (some a0_p)]) tP fun r3 =>
 .ret #[.v (.pointer r3)]) (
 .op (callS F_parser_list #[.pointer (some a0_p), .func (.func F_parser_ref) #[.pointer (some a0_p)] #[]]) tP fun r4 =>
 .op (nilS (.pointer r4)) tA fun r5 =>
 .op (stS T_int (.pointer (some ⟨r5.block, r5.off + 4, none⟩)) (.int .i64 r1.2.2.1)) tU fun _ =>
 .ret #[.v (.pointer r4)])
theorem d_parser_refs (a0_p : Addr) (a1_word : ByteArray) : fnT Tryz.prog Tryz.f186 an_parser_refs [.pointer (some a0_p), .string a1_word] = t_parser_refs a0_p a1_word := by kernel_rfl
theorem c_parser_refs {ε σ β : Type} {I : Ifc ε σ} {t : Ty} {s : Sp ε σ β} {Rel : β → t.den → Own → Fact} {Γ : List Fact} (a0_p : Addr) (a1_word : ByteArray) (h : Sim Tryz.prog I t Rel noLabel none (t_parser_refs a0_p a1_word) s [] Γ) : MeetsO Tryz.prog I (callS F_parser_refs #[.pointer (some a0_p), .string a1_word]) t s Rel Γ :=
  meets_of_sim (args := [.pointer (some a0_p), .string a1_word]) Tryz.func186 rfl rfl (Nat.le_of_ble_eq_true rfl) (by rw [d_parser_refs]; exact h)

def an_parser_args : An :=
  .s (.r [none]) (.s (.r [none, some (.c (.agg [.int .i64, .str, .int .i64, .int .i64])), none, none]) (.s (.s (.r [none, some tB, none]) (.c (.s (.r [none, some tP, none]) (.x)) (.x))) (.s (.r [none, none, none, some tP, none]) (.s (.r [none, none, some tA, none, none, some tU]) (.s (.r [none, some tU]) (.s (.r [none, none]) (.x)))))))
def t_parser_args (a0_p : Addr) : T :=
 .op (callS F_parser_now #[.pointer (some a0_p)]) (.c (.agg [.int .i64, .str, .int .i64, .int .i64])) fun r1 =>
 .op (callS F_parser_take #[.pointer (some a0_p), .string k_lt]) tB fun r2 =>
 .ite (!r2) (
 .op (callS F_parser_empty #[.pointer (some a0_p)]) tP fun r3 =>
 .ret #[.v (.pointer r3)]) (
 .op (callS F_parser_list #[.pointer (some a0_p), .func (.func F_parser_typed) #[.pointer (some a0_p)] #[]]) tP fun r4 =>
 .op (nilS (.pointer r4)) tA fun r5 =>
 .op (stS T_int (.pointer (some ⟨r5.block, r5.off + 4, none⟩)) (.int .i64 r1.2.2.1)) tU fun _ =>
 .op (callS F_parser_angle #[.pointer (some a0_p)]) tU fun _ =>
 .ret #[.v (.pointer r4)])
theorem d_parser_args (a0_p : Addr) : fnT Tryz.prog Tryz.f215 an_parser_args [.pointer (some a0_p)] = t_parser_args a0_p := by kernel_rfl
theorem c_parser_args {ε σ β : Type} {I : Ifc ε σ} {t : Ty} {s : Sp ε σ β} {Rel : β → t.den → Own → Fact} {Γ : List Fact} (a0_p : Addr) (h : Sim Tryz.prog I t Rel noLabel none (t_parser_args a0_p) s [] Γ) : MeetsO Tryz.prog I (callS F_parser_args #[.pointer (some a0_p)]) t s Rel Γ :=
  meets_of_sim (args := [.pointer (some a0_p)]) Tryz.func215 rfl rfl (Nat.le_of_ble_eq_true rfl) (by rw [d_parser_args]; exact h)

def an_parser_vars : An :=
  .s (.r [some tA, none]) (.s (.r [some tP, some (.c (.agg [.int .i64, .str, .int .i64, .int .i64])), none, none]) (.s (.s (.r [some tP, some tB, none]) (.c (.s (.r [some tP, some tP, none]) (.x)) (.x))) (.s (.r [some tP, none, some tP, none]) (.s (.r [none, none, some tA, none, none, some tU]) (.s (.r [some tP, some tU]) (.s (.r [none, none]) (.x)))))))
def t_parser_vars (a0_p : Addr) : T :=
 .op (boxS T_Psyntax_parser (.pointer (some a0_p))) tA fun r1 =>
 .op (ldS T_Psyntax_parser (.pointer (some r1))) tP fun r2 =>
 .op (callS F_parser_now #[.pointer r2]) (.c (.agg [.int .i64, .str, .int .i64, .int .i64])) fun r3 =>
 .op (ldS T_Psyntax_parser (.pointer (some r1))) tP fun r4 =>
 .op (callS F_parser_take #[.pointer r4, .string k_lt]) tB fun r5 =>
 .ite (!r5) (
 .op (ldS T_Psyntax_parser (.pointer (some r1))) tP fun r6 =>
 .op (callS F_parser_empty #[.pointer r6]) tP fun r7 =>
 .ret #[.v (.pointer r7)]) (
 .op (ldS T_Psyntax_parser (.pointer (some r1))) tP fun r8 =>
 .op (callS F_parser_list #[.pointer r8, .func (.func F_parser_vars_1) #[] #[.pointer (some r1)]]) tP fun r9 =>
 .op (nilS (.pointer r9)) tA fun r10 =>
 .op (stS T_int (.pointer (some ⟨r10.block, r10.off + 4, none⟩)) (.int .i64 r3.2.2.1)) tU fun _ =>
 .op (ldS T_Psyntax_parser (.pointer (some r1))) tP fun r12 =>
 .op (callS F_parser_angle #[.pointer r12]) tU fun _ =>
 .ret #[.v (.pointer r9)])
theorem d_parser_vars (a0_p : Addr) : fnT Tryz.prog Tryz.f185 an_parser_vars [.pointer (some a0_p)] = t_parser_vars a0_p := by kernel_rfl
theorem c_parser_vars {ε σ β : Type} {I : Ifc ε σ} {t : Ty} {s : Sp ε σ β} {Rel : β → t.den → Own → Fact} {Γ : List Fact} (a0_p : Addr) (h : Sim Tryz.prog I t Rel noLabel none (t_parser_vars a0_p) s [] Γ) : MeetsO Tryz.prog I (callS F_parser_vars #[.pointer (some a0_p)]) t s Rel Γ :=
  meets_of_sim (args := [.pointer (some a0_p)]) Tryz.func185 rfl rfl (Nat.le_of_ble_eq_true rfl) (by rw [d_parser_vars]; exact h)

def an_parser_vars_1 : An :=
  .s (.r [none]) (.s (.r [some tP, some (.c (.agg [.int .i64, .str, .int .i64, .int .i64])), none, none]) (.s (.r [some tP, some tS, none, some tP, none]) (.x)))
def t_parser_vars_1 (a0_a0 : Addr) : T :=
 .op (ldS T_Psyntax_parser (.pointer (some a0_a0))) tP fun r1 =>
 .op (callS F_parser_now #[.pointer r1]) (.c (.agg [.int .i64, .str, .int .i64, .int .i64])) fun r2 =>
 .op (ldS T_Psyntax_parser (.pointer (some a0_a0))) tP fun r3 =>
 .op (callS F_parser_name #[.pointer r3]) tS fun r4 =>
 .op (callS F_syntax_made #[.int .i64 67, .string r4, .int .i64 0, .int .i64 r2.2.2.1, .slice none 0 0]) tP fun r5 =>
 .ret #[.v (.pointer r5)]
theorem d_parser_vars_1 (a0_a0 : Addr) : fnT Tryz.prog Tryz.f218 an_parser_vars_1 [.pointer (some a0_a0)] = t_parser_vars_1 a0_a0 := by kernel_rfl
theorem c_parser_vars_1 {ε σ β : Type} {I : Ifc ε σ} {t : Ty} {s : Sp ε σ β} {Rel : β → t.den → Own → Fact} {Γ : List Fact} (a0_a0 : Addr) (h : Sim Tryz.prog I t Rel noLabel none (t_parser_vars_1 a0_a0) s [] Γ) : MeetsO Tryz.prog I (callS F_parser_vars_1 #[.pointer (some a0_a0)]) t s Rel Γ :=
  meets_of_sim (args := [.pointer (some a0_a0)]) Tryz.func218 rfl rfl (Nat.le_of_ble_eq_true rfl) (by rw [d_parser_vars_1]; exact h)

def an_parser_optional : An :=
  .s (.r [none]) (.s (.s (.r [none, some tB]) (.c (.s (.r [none, some tP, none]) (.x)) (.x))) (.s (.r [none, some tP, none]) (.x)))
def t_parser_optional (a0_p : Addr) : T :=
 .op (callS F_parser_take #[.pointer (some a0_p), .string k_colon]) tB fun r1 =>
 .ite r1 (
 .op (callS F_parser_typed #[.pointer (some a0_p)]) tP fun r2 =>
 .ret #[.v (.pointer r2)]) (
 .op (callS F_parser_none #[.pointer (some a0_p)]) tP fun r3 =>
 .ret #[.v (.pointer r3)])
theorem d_parser_optional (a0_p : Addr) : fnT Tryz.prog Tryz.f214 an_parser_optional [.pointer (some a0_p)] = t_parser_optional a0_p := by kernel_rfl
theorem c_parser_optional {ε σ β : Type} {I : Ifc ε σ} {t : Ty} {s : Sp ε σ β} {Rel : β → t.den → Own → Fact} {Γ : List Fact} (a0_p : Addr) (h : Sim Tryz.prog I t Rel noLabel none (t_parser_optional a0_p) s [] Γ) : MeetsO Tryz.prog I (callS F_parser_optional #[.pointer (some a0_p)]) t s Rel Γ :=
  meets_of_sim (args := [.pointer (some a0_p)]) Tryz.func214 rfl rfl (Nat.le_of_ble_eq_true rfl) (by rw [d_parser_optional]; exact h)

def an_parser_objectType : An :=
  .s (.r [none]) (.b (.s (.r [none, some (.c (.agg [.int .i64, .str, .int .i64, .int .i64])), none, some tP, none]) (.s (.r [none, some tU]) (.s (.x) (.s (.j [] (.b (.l [] (.s (.s (.r [none, some tB, none]) (.c (.x) (.x))) (.b (.s (.d (.q 0 none (.q 1 none (.q 2 (some tA) (.q 3 none (.q 4 (some tSl) (.q 5 none (.l 6 (some tP) (.l 7 (some tSl) (.l 8 (some tSl) (.q 9 (some tA) (.q 10 none (.l 11 (some tU) (.e)))))))))))))) (.s (.r [none, some tB, none, none, none, some tB, none, none]) (.c (.x) (.x))))))))) (.s (.r [none, some tU]) (.s (.r [none, none]) (.x))))))))
def t_parser_objectType (a0_p : Addr) : T :=
 .op (callS F_parser_now #[.pointer (some a0_p)]) (.c (.agg [.int .i64, .str, .int .i64, .int .i64])) fun r1 =>
 .op (callS F_syntax_made #[.int .i64 84, .string kE, .int .i64 0, .int .i64 r1.2.2.1, .slice none 0 0]) tP fun r2 =>
 .op (callS F_parser_must #[.pointer (some a0_p), .string k_lc]) tU fun _ =>
 .join 0 [] (
 .loop 1 [] [] fun x4 =>
 .op (callS F_parser_is #[.pointer (some a0_p), .string k_rc]) tB fun r5 =>
 .ite (!r5) (
 .draw <|
 .opq (nilS (.pointer r2)) tA fun r6 =>
 .opq (ldS T_SPsyntax_node (.pointer (some ⟨r6.block, r6.off + 5, none⟩))) tSl fun r7 =>
 .opl (callS F_parser_piece #[.pointer (some a0_p)]) tP fun r8 =>
 .opl (sliceS T_SPsyntax_node 1 #[(0, .pointer r8)]) tSl fun r9 =>
 .opl (appS #[T_SPsyntax_node, T_SPsyntax_node] T_SPsyntax_node #[.slice r7.1 r7.2.1 r7.2.2, .slice r9.1 r9.2.1 r9.2.2]) tSl fun r10 =>
 .opq (nilS (.pointer r2)) tA fun r11 =>
 .op (stS T_SPsyntax_node (.pointer (some ⟨r11.block, r11.off + 5, none⟩)) (.slice r10.1 r10.2.1 r10.2.2)) tU fun _ =>
 .op (callS F_parser_take #[.pointer (some a0_p), .string k_semi]) tB fun r13 =>
 .ite (!r13) (
 .op (callS F_parser_take #[.pointer (some a0_p), .string k_comma]) tB fun r14 =>
 .ite (!r14) (
 .out 0 []) (
 .out 1 [])) (
 .out 1 [])) (
 .out 0 [])) fun x15 =>
 .op (callS F_parser_must #[.pointer (some a0_p), .string k_rc]) tU fun _ =>
 .ret #[.v (.pointer r2)]
theorem d_parser_objectType (a0_p : Addr) : fnT Tryz.prog Tryz.f187 an_parser_objectType [.pointer (some a0_p)] = t_parser_objectType a0_p := by kernel_rfl
theorem c_parser_objectType {ε σ β : Type} {I : Ifc ε σ} {t : Ty} {s : Sp ε σ β} {Rel : β → t.den → Own → Fact} {Γ : List Fact} (a0_p : Addr) (h : Sim Tryz.prog I t Rel noLabel none (t_parser_objectType a0_p) s [] Γ) : MeetsO Tryz.prog I (callS F_parser_objectType #[.pointer (some a0_p)]) t s Rel Γ :=
  meets_of_sim (args := [.pointer (some a0_p)]) Tryz.func187 rfl rfl (Nat.le_of_ble_eq_true rfl) (by rw [d_parser_objectType]; exact h)

def an_parser_piece : An :=
  .s (.r [none]) (.s (.r [none, some (.c (.agg [.int .i64, .str, .int .i64, .int .i64])), none, none]) (.s (.r [none, some tS, none]) (.s (.s (.r [none, some tB]) (.c (.s (.r [none, some (.c (.agg [.int .i64, .str, .int .i64, .int .i64])), none, none]) (.s (.r [none, some tU]) (.s (.r [none, some tP, none]) (.s (.r [none, some tU]) (.s (.r [none, some tU]) (.s (.r [none, none, none, none, none, some tP, some tSl, some tP, some tSl, some tP, none]) (.x))))))) (.x))) (.s (.r [none]) (.s (.s (.r [none, some tB]) (.j [(7, .b (.int .i64))] (.c (.r [none]) (.x)))) (.s (.r [none, some tU]) (.s (.r [none, none, none, none, some tP, some tSl, some tP, none]) (.x))))))))
def t_parser_piece (a0_p : Addr) : T :=
 .op (callS F_parser_now #[.pointer (some a0_p)]) (.c (.agg [.int .i64, .str, .int .i64, .int .i64])) fun r1 =>
 .op (callS F_parser_name #[.pointer (some a0_p)]) tS fun r2 =>
 .op (callS F_parser_is #[.pointer (some a0_p), .string k_lp]) tB fun r3 =>
 .ite r3 (
 .op (callS F_parser_now #[.pointer (some a0_p)]) (.c (.agg [.int .i64, .str, .int .i64, .int .i64])) fun r4 =>
 .op (callS F_parser_must #[.pointer (some a0_p), .string k_lp]) tU fun _ =>
 .op (callS F_parser_params #[.pointer (some a0_p), .bool false]) tP fun r6 =>
 .op (callS F_parser_must #[.pointer (some a0_p), .string k_rp]) tU fun _ =>
 .op (callS F_parser_must #[.pointer (some a0_p), .string k_colon]) tU fun _ =>
 .op (callS F_parser_typed #[.pointer (some a0_p)]) tP fun r9 =>
 .op (sliceS T_SPsyntax_node 2 #[(0, .pointer r6), (1, .pointer r9)]) tSl fun r10 =>
 .op (callS F_syntax_made #[.int .i64 86, .string kE, .int .i64 0, .int .i64 r4.2.2.1, .slice r10.1 r10.2.1 r10.2.2]) tP fun r11 =>
 .op (sliceS T_SPsyntax_node 1 #[(0, .pointer r11)]) tSl fun r12 =>
 .op (callS F_syntax_made #[.int .i64 85, .string r2, .int .i64 0, .int .i64 r1.2.2.1, .slice r12.1 r12.2.1 r12.2.2]) tP fun r13 =>
 .ret #[.v (.pointer r13)]) (
 .op (callS F_parser_take #[.pointer (some a0_p), .string k_quest]) tB fun r14 =>
 .join 0 [.b (.int .i64)] (
 .ite r14 (
 .out 0 [.int .i64 1]) (
 .out 0 [.int .i64 0])) fun x15 =>
 .op (callS F_parser_must #[.pointer (some a0_p), .string k_colon]) tU fun _ =>
 .op (callS F_parser_typed #[.pointer (some a0_p)]) tP fun r17 =>
 .op (sliceS T_SPsyntax_node 1 #[(0, .pointer r17)]) tSl fun r18 =>
 .op (callS F_syntax_made #[.int .i64 85, .string r2, .int .i64 x15.1, .int .i64 r1.2.2.1, .slice r18.1 r18.2.1 r18.2.2]) tP fun r19 =>
 .ret #[.v (.pointer r19)])
theorem d_parser_piece (a0_p : Addr) : fnT Tryz.prog Tryz.f221 an_parser_piece [.pointer (some a0_p)] = t_parser_piece a0_p := by kernel_rfl
theorem c_parser_piece {ε σ β : Type} {I : Ifc ε σ} {t : Ty} {s : Sp ε σ β} {Rel : β → t.den → Own → Fact} {Γ : List Fact} (a0_p : Addr) (h : Sim Tryz.prog I t Rel noLabel none (t_parser_piece a0_p) s [] Γ) : MeetsO Tryz.prog I (callS F_parser_piece #[.pointer (some a0_p)]) t s Rel Γ :=
  meets_of_sim (args := [.pointer (some a0_p)]) Tryz.func221 rfl rfl (Nat.le_of_ble_eq_true rfl) (by rw [d_parser_piece]; exact h)

def an_parser_params : An :=
  .s (.r [some tA, some tA, none]) (.s (.s (.r [some tP, some tB]) (.c (.s (.r [some tP, some tP, none]) (.x)) (.x))) (.s (.r [some tP, none, some tP, none]) (.x)))
def t_parser_params (a0_p : Addr) (a1_marks : Bool) : T :=
 .op (boxS T_Psyntax_parser (.pointer (some a0_p))) tA fun r1 =>
 .op (boxS T_bool (.bool a1_marks)) tA fun r2 =>
 .op (ldS T_Psyntax_parser (.pointer (some r1))) tP fun r3 =>
 .op (callS F_parser_is #[.pointer r3, .string k_rp]) tB fun r4 =>
 .ite r4 (
 .op (ldS T_Psyntax_parser (.pointer (some r1))) tP fun r5 =>
 .op (callS F_parser_empty #[.pointer r5]) tP fun r6 =>
 .ret #[.v (.pointer r6)]) (
 .op (ldS T_Psyntax_parser (.pointer (some r1))) tP fun r7 =>
 .op (callS F_parser_list #[.pointer r7, .func (.func F_parser_params_1) #[] #[.pointer (some r1), .pointer (some r2)]]) tP fun r8 =>
 .ret #[.v (.pointer r8)])
theorem d_parser_params (a0_p : Addr) (a1_marks : Bool) : fnT Tryz.prog Tryz.f192 an_parser_params [.pointer (some a0_p), .bool a1_marks] = t_parser_params a0_p a1_marks := by kernel_rfl
theorem c_parser_params {ε σ β : Type} {I : Ifc ε σ} {t : Ty} {s : Sp ε σ β} {Rel : β → t.den → Own → Fact} {Γ : List Fact} (a0_p : Addr) (a1_marks : Bool) (h : Sim Tryz.prog I t Rel noLabel none (t_parser_params a0_p a1_marks) s [] Γ) : MeetsO Tryz.prog I (callS F_parser_params #[.pointer (some a0_p), .bool a1_marks]) t s Rel Γ :=
  meets_of_sim (args := [.pointer (some a0_p), .bool a1_marks]) Tryz.func192 rfl rfl (Nat.le_of_ble_eq_true rfl) (by rw [d_parser_params]; exact h)

def an_parser_params_1 : An :=
  .s (.r [none]) (.s (.r [some tP, some (.c (.agg [.int .i64, .str, .int .i64, .int .i64])), none, none, none]) (.s (.s (.j [(13, .b .bool)] (.r [some tB, none, some tP, some tB, none])) (.j [(4, .b (.int .i64))] (.c (.r [none, some tI, none]) (.x)))) (.s (.s (.j [(20, .b .bool)] (.r [some tB, none, some tP, some tB, none])) (.j [(4, .b (.int .i64))] (.c (.r [none, some tI, none]) (.x)))) (.s (.r [some tP, some tS, none]) (.s (.s (.r [some tP, some tB]) (.j [(4, .b (.int .i64))] (.c (.r [none, some tI, none]) (.x)))) (.s (.r [none, none, none, some tP, some tP, some tSl, some tP, none]) (.x)))))))
def t_parser_params_1 (a0_a0 : Addr) (a1_a1 : Addr) : T :=
 .op (ldS T_Psyntax_parser (.pointer (some a0_a0))) tP fun r1 =>
 .op (callS F_parser_now #[.pointer r1]) (.c (.agg [.int .i64, .str, .int .i64, .int .i64])) fun r2 =>
 .join 0 [.b .bool] (
 .op (ldS T_bool (.pointer (some a1_a1))) tB fun r3 =>
 .ite r3 (
 .op (ldS T_Psyntax_parser (.pointer (some a0_a0))) tP fun r4 =>
 .op (callS F_parser_take #[.pointer r4, .string kpublic]) tB fun r5 =>
 .out 0 [.bool r5]) (
 .out 0 [.bool false])) fun x6 =>
 .join 0 [.b (.int .i64)] (
 .ite x6.1 (
 .op (binS .or T_int (.int .i64 0) (.int .i64 2)) tI fun r7 =>
 .out 0 [.int .i64 r7]) (
 .out 0 [.int .i64 0])) fun x8 =>
 .join 0 [.b .bool] (
 .op (ldS T_bool (.pointer (some a1_a1))) tB fun r9 =>
 .ite r9 (
 .op (ldS T_Psyntax_parser (.pointer (some a0_a0))) tP fun r10 =>
 .op (callS F_parser_take #[.pointer r10, .string kreadonly]) tB fun r11 =>
 .out 0 [.bool r11]) (
 .out 0 [.bool false])) fun x12 =>
 .join 0 [.b (.int .i64)] (
 .ite x12.1 (
 .op (binS .or T_int (.int .i64 x8.1) (.int .i64 4)) tI fun r13 =>
 .out 0 [.int .i64 r13]) (
 .out 0 [.int .i64 x8.1])) fun x14 =>
 .op (ldS T_Psyntax_parser (.pointer (some a0_a0))) tP fun r15 =>
 .op (callS F_parser_name #[.pointer r15]) tS fun r16 =>
 .op (ldS T_Psyntax_parser (.pointer (some a0_a0))) tP fun r17 =>
 .op (callS F_parser_take #[.pointer r17, .string k_quest]) tB fun r18 =>
 .join 0 [.b (.int .i64)] (
 .ite r18 (
 .op (binS .or T_int (.int .i64 x14.1) (.int .i64 1)) tI fun r19 =>
 .out 0 [.int .i64 r19]) (
 .out 0 [.int .i64 x14.1])) fun x20 =>
 .op (ldS T_Psyntax_parser (.pointer (some a0_a0))) tP fun r21 =>
 .op (callS F_parser_optional #[.pointer r21]) tP fun r22 =>
 .op (sliceS T_SPsyntax_node 1 #[(0, .pointer r22)]) tSl fun r23 =>
 .op (callS F_syntax_made #[.int .i64 66, .string r16, .int .i64 x20.1, .int .i64 r2.2.2.1, .slice r23.1 r23.2.1 r23.2.2]) tP fun r24 =>
 .ret #[.v (.pointer r24)]
theorem d_parser_params_1 (a0_a0 : Addr) (a1_a1 : Addr) : fnT Tryz.prog Tryz.f222 an_parser_params_1 [.pointer (some a0_a0), .pointer (some a1_a1)] = t_parser_params_1 a0_a0 a1_a1 := by kernel_rfl
theorem c_parser_params_1 {ε σ β : Type} {I : Ifc ε σ} {t : Ty} {s : Sp ε σ β} {Rel : β → t.den → Own → Fact} {Γ : List Fact} (a0_a0 : Addr) (a1_a1 : Addr) (h : Sim Tryz.prog I t Rel noLabel none (t_parser_params_1 a0_a0 a1_a1) s [] Γ) : MeetsO Tryz.prog I (callS F_parser_params_1 #[.pointer (some a0_a0), .pointer (some a1_a1)]) t s Rel Γ :=
  meets_of_sim (args := [.pointer (some a0_a0), .pointer (some a1_a1)]) Tryz.func222 rfl rfl (Nat.le_of_ble_eq_true rfl) (by rw [d_parser_params_1]; exact h)
end
end Go.Proofs.YtjlgcpgjdgeejaaGreatDoor
end

/- The parser of types. Conditions: none. -/
section
namespace Go.Proofs.YtjlgcpgjdgeejaaGreatDoor
open Go
set_option linter.unusedSimpArgs false
set_option linter.unusedVariables false
set_option linter.constructorNameAsVariable false
set_option maxRecDepth 100000

theorem args_m {R : PRec} (hR : PRecM R) (pb : Nat) : Meets PG (PI pb) (callS F_parser_args #[.pointer (some (pAt pb))]) tP (argsS R) NodeF [] := by
  refine c_parser_args (pAt pb) ?_
  unfold t_parser_args argsS
  (with_reducible repeat (first | refine sA ?_ | refine sB ?_ | refine sC ?_ | refine sD ?_ | refine sE ?_ | refine sF ?_))
  first | refine sim_op (now_m _) (fun _ h => nomatch h) fun r1 b => Sim.prop fun h => ?_ | refine sim_op1 (now_m _) (fun _ h => nomatch h) fun r1 b => Sim.prop fun h => ?_
  subst h
  (with_reducible repeat (first | refine sA ?_ | refine sB ?_ | refine sC ?_ | refine sD ?_ | refine sE ?_ | refine sF ?_))
  first | refine sim_op (take_m _ _) (fun _ h => nomatch h) fun r2 b => Sim.prop fun h => ?_ | refine sim_op1 (take_m _ _) (fun _ h => nomatch h) fun r2 b => Sim.prop fun h => ?_
  subst h
  (with_reducible repeat (first | refine sA ?_ | refine sB ?_ | refine sC ?_ | refine sD ?_ | refine sE ?_ | refine sF ?_))
  (first | refine qA (fun h => ?_) fun h => ?_ | refine qB (fun h => ?_) fun h => ?_ | refine qC (fun h => ?_) fun h => ?_ | refine qD (fun h => ?_) fun h => ?_ | refine qE (fun h => ?_) fun h => ?_) -- (!r2)
  · skip
    (with_reducible repeat (first | refine sA ?_ | refine sB ?_ | refine sC ?_ | refine sD ?_ | refine sE ?_ | refine sF ?_))
    first | refine sim_op (empty_m _) (fun _ h => nomatch h) fun r3 nr3 => ?_ | refine sim_op1 (empty_m _) (fun _ h => nomatch h) fun r3 nr3 => ?_
    (with_reducible repeat (first | refine sA ?_ | refine sB ?_ | refine sC ?_ | refine sD ?_ | refine sE ?_ | refine sF ?_))
    exact sim_ret1 (t := tP) _ rfl (fun F hF => hF _ (by repeat (first | exact mz | apply ms)))
  · skip
    (with_reducible repeat (first | refine sA ?_ | refine sB ?_ | refine sC ?_ | refine sD ?_ | refine sE ?_ | refine sF ?_))
    first | refine sim_opO (list_m pb _ _ R.fuel (Nat.le_trans hR.fuel (by decide)) (MeetsO.congr (run_callv1 _ _) (hR.typed _))) (fun _ h => nomatch h) fun r4 nr4 Kr4 => ?_ | refine sim_op1O (list_m pb _ _ R.fuel (Nat.le_trans hR.fuel (by decide)) (MeetsO.congr (run_callv1 _ _) (hR.typed _))) (fun _ h => nomatch h) fun r4 nr4 Kr4 => ?_
    refine sim_setPos (by repeat (first | exact mz | apply ms)) fun Kr4 => ?_
    refine sim_doneM (by repeat (first | exact mz | apply ms)) ?_
    (with_reducible repeat (first | refine sA ?_ | refine sB ?_ | refine sC ?_ | refine sD ?_ | refine sE ?_ | refine sF ?_))
    first | refine sim_op (angle_m _) (fun _ h => nomatch h) fun x b => ?_ | refine sim_op1 (angle_m _) (fun _ h => nomatch h) fun x b => ?_
    (with_reducible repeat (first | refine sA ?_ | refine sB ?_ | refine sC ?_ | refine sD ?_ | refine sE ?_ | refine sF ?_))
    exact sim_ret1 (t := tP) _ rfl (fun F hF => hF _ (by repeat (first | exact mz | apply ms)))
theorem vars_1_m (pb b : Nat) : Meets PG (PI pb) (callS F_parser_vars_1 #[.pointer (some (pAt b))]) tP varS NodeF [Fact.at b (blk T_Psyntax_parser [.pointer (some (pAt pb))])] := by
  refine c_parser_vars_1 (pAt b) ?_
  unfold t_parser_vars_1 varS
  refine sim_ldF (b1 := .ptr) _ (by repeat (first | exact mz | apply ms)) (by kernel_rfl) rfl rfl ?_
  (with_reducible repeat (first | refine sA ?_ | refine sB ?_ | refine sC ?_ | refine sD ?_ | refine sE ?_ | refine sF ?_))
  first | refine sim_op (now_m _) (fun _ h => nomatch h) fun r2 b => Sim.prop fun h => ?_ | refine sim_op1 (now_m _) (fun _ h => nomatch h) fun r2 b => Sim.prop fun h => ?_
  subst h
  refine sim_ldF (b1 := .ptr) _ (by repeat (first | exact mz | apply ms)) (by kernel_rfl) rfl rfl ?_
  (with_reducible repeat (first | refine sA ?_ | refine sB ?_ | refine sC ?_ | refine sD ?_ | refine sE ?_ | refine sF ?_))
  first | refine sim_op (name_m _) (fun _ h => nomatch h) fun r4 b => Sim.prop fun h => ?_ | refine sim_op1 (name_m _) (fun _ h => nomatch h) fun r4 b => Sim.prop fun h => ?_
  subst h
  refine sim_made0 fun r5 => ?_
  (with_reducible repeat (first | refine sA ?_ | refine sB ?_ | refine sC ?_ | refine sD ?_ | refine sE ?_ | refine sF ?_))
  exact sim_ret1 (t := tP) _ rfl (fun F hF => hF _ (by repeat (first | exact mz | apply ms)))
theorem vars_m {R : PRec} (hR : PRecM R) (pb : Nat) : Meets PG (PI pb) (callS F_parser_vars #[.pointer (some (pAt pb))]) tP (varsS R) NodeF [] := by
  refine c_parser_vars (pAt pb) ?_
  unfold t_parser_vars varsS
  refine sim_boxF fun br1 => ?_
  refine sim_ldF (b1 := .ptr) _ (by repeat (first | exact mz | apply ms)) (by kernel_rfl) rfl rfl ?_
  (with_reducible repeat (first | refine sA ?_ | refine sB ?_ | refine sC ?_ | refine sD ?_ | refine sE ?_ | refine sF ?_))
  first | refine sim_op (now_m _) (fun _ h => nomatch h) fun r3 b => Sim.prop fun h => ?_ | refine sim_op1 (now_m _) (fun _ h => nomatch h) fun r3 b => Sim.prop fun h => ?_
  subst h
  refine sim_ldF (b1 := .ptr) _ (by repeat (first | exact mz | apply ms)) (by kernel_rfl) rfl rfl ?_
  (with_reducible repeat (first | refine sA ?_ | refine sB ?_ | refine sC ?_ | refine sD ?_ | refine sE ?_ | refine sF ?_))
  first | refine sim_op (take_m _ _) (fun _ h => nomatch h) fun r5 b => Sim.prop fun h => ?_ | refine sim_op1 (take_m _ _) (fun _ h => nomatch h) fun r5 b => Sim.prop fun h => ?_
  subst h
  (with_reducible repeat (first | refine sA ?_ | refine sB ?_ | refine sC ?_ | refine sD ?_ | refine sE ?_ | refine sF ?_))
  (first | refine qA (fun h => ?_) fun h => ?_ | refine qB (fun h => ?_) fun h => ?_ | refine qC (fun h => ?_) fun h => ?_ | refine qD (fun h => ?_) fun h => ?_ | refine qE (fun h => ?_) fun h => ?_) -- (!r5)
  · skip
    refine sim_ldF (b1 := .ptr) _ (by repeat (first | exact mz | apply ms)) (by kernel_rfl) rfl rfl ?_
    (with_reducible repeat (first | refine sA ?_ | refine sB ?_ | refine sC ?_ | refine sD ?_ | refine sE ?_ | refine sF ?_))
    first | refine sim_op (empty_m _) (fun _ h => nomatch h) fun r7 nr7 => ?_ | refine sim_op1 (empty_m _) (fun _ h => nomatch h) fun r7 nr7 => ?_
    (with_reducible repeat (first | refine sA ?_ | refine sB ?_ | refine sC ?_ | refine sD ?_ | refine sE ?_ | refine sF ?_))
    exact sim_ret1 (t := tP) _ rfl (fun F hF => hF _ (by repeat (first | exact mz | apply ms)))
  · skip
    refine sim_ldF (b1 := .ptr) _ (by repeat (first | exact mz | apply ms)) (by kernel_rfl) rfl rfl ?_
    (with_reducible repeat (first | refine sA ?_ | refine sB ?_ | refine sC ?_ | refine sD ?_ | refine sE ?_ | refine sF ?_))
    first | refine sim_opO (list_m pb _ _ R.fuel (Nat.le_trans hR.fuel (by decide)) (MeetsO.congr (run_callv2 _ _) (vars_1_m _ _))) (fun A hA => by obtain rfl := List.mem_singleton.1 hA; exact (by repeat (first | exact mz | apply ms))) fun r9 nr9 Kr9 => ?_ | refine sim_op1O (list_m pb _ _ R.fuel (Nat.le_trans hR.fuel (by decide)) (MeetsO.congr (run_callv2 _ _) (vars_1_m _ _))) (fun A hA => by obtain rfl := List.mem_singleton.1 hA; exact (by repeat (first | exact mz | apply ms))) fun r9 nr9 Kr9 => ?_
    refine sim_setPos (by repeat (first | exact mz | apply ms)) fun Kr9 => ?_
    refine sim_doneM (by repeat (first | exact mz | apply ms)) ?_
    refine sim_ldF (b1 := .ptr) _ (by repeat (first | exact mz | apply ms)) (by kernel_rfl) rfl rfl ?_
    (with_reducible repeat (first | refine sA ?_ | refine sB ?_ | refine sC ?_ | refine sD ?_ | refine sE ?_ | refine sF ?_))
    first | refine sim_op (angle_m _) (fun _ h => nomatch h) fun x b => ?_ | refine sim_op1 (angle_m _) (fun _ h => nomatch h) fun x b => ?_
    (with_reducible repeat (first | refine sA ?_ | refine sB ?_ | refine sC ?_ | refine sD ?_ | refine sE ?_ | refine sF ?_))
    exact sim_ret1 (t := tP) _ rfl (fun F hF => hF _ (by repeat (first | exact mz | apply ms)))
theorem ref_m {R : PRec} (hR : PRecM R) (pb : Nat) : Meets PG (PI pb) (callS F_parser_ref #[.pointer (some (pAt pb))]) tP (refS R) NodeF [] := by
  refine c_parser_ref (pAt pb) ?_
  unfold t_parser_ref refS
  (with_reducible repeat (first | refine sA ?_ | refine sB ?_ | refine sC ?_ | refine sD ?_ | refine sE ?_ | refine sF ?_))
  first | refine sim_op (now_m _) (fun _ h => nomatch h) fun r1 b => Sim.prop fun h => ?_ | refine sim_op1 (now_m _) (fun _ h => nomatch h) fun r1 b => Sim.prop fun h => ?_
  subst h
  refine sim_varF (c := true) (z := [.int .i64 0, .string kE, .int .i64 0, .int .i64 0]) (by kernel_rfl) (by kernel_rfl) rfl (by simp [Value.cells, Value.oneCell']) fun br2 => ?_
  (with_reducible repeat (first | refine sA ?_ | refine sB ?_ | refine sC ?_ | refine sD ?_ | refine sE ?_ | refine sF ?_))
  first | refine sim_op (take_m _ _) (fun _ h => nomatch h) fun r4 b => Sim.prop fun h => ?_ | refine sim_op1 (take_m _ _) (fun _ h => nomatch h) fun r4 b => Sim.prop fun h => ?_
  subst h
  refine sim_joinBb ?_ fun x8 => ?_
  · skip
    (with_reducible repeat (first | refine sA ?_ | refine sB ?_ | refine sC ?_ | refine sD ?_ | refine sE ?_ | refine sF ?_))
    (first | refine qA (fun h => ?_) fun h => ?_ | refine qB (fun h => ?_) fun h => ?_ | refine qC (fun h => ?_) fun h => ?_ | refine qD (fun h => ?_) fun h => ?_ | refine qE (fun h => ?_) fun h => ?_) -- r4
    · skip
      exact sim_outB _ rfl rfl
    · skip
      (with_reducible repeat (first | refine sA ?_ | refine sB ?_ | refine sC ?_ | refine sD ?_ | refine sE ?_ | refine sF ?_))
      first | refine sim_op (take_m _ _) (fun _ h => nomatch h) fun r5 b => Sim.prop fun h => ?_ | refine sim_op1 (take_m _ _) (fun _ h => nomatch h) fun r5 b => Sim.prop fun h => ?_
      subst h
      (with_reducible repeat (first | refine sA ?_ | refine sB ?_ | refine sC ?_ | refine sD ?_ | refine sE ?_ | refine sF ?_))
      (first | refine qA (fun h => ?_) fun h => ?_ | refine qB (fun h => ?_) fun h => ?_ | refine qC (fun h => ?_) fun h => ?_ | refine qD (fun h => ?_) fun h => ?_ | refine qE (fun h => ?_) fun h => ?_) -- r5
      · skip
        exact sim_outB _ rfl rfl
      · skip
        (with_reducible repeat (first | refine sA ?_ | refine sB ?_ | refine sC ?_ | refine sD ?_ | refine sE ?_ | refine sF ?_))
        first | refine sim_op (take_m _ _) (fun _ h => nomatch h) fun r6 b => Sim.prop fun h => ?_ | refine sim_op1 (take_m _ _) (fun _ h => nomatch h) fun r6 b => Sim.prop fun h => ?_
        subst h
        (with_reducible repeat (first | refine sA ?_ | refine sB ?_ | refine sC ?_ | refine sD ?_ | refine sE ?_ | refine sF ?_))
        (first | refine qA (fun h => ?_) fun h => ?_ | refine qB (fun h => ?_) fun h => ?_ | refine qC (fun h => ?_) fun h => ?_ | refine qD (fun h => ?_) fun h => ?_ | refine qE (fun h => ?_) fun h => ?_) -- r6
        · skip
          exact sim_outB _ rfl rfl
        · skip
          (with_reducible repeat (first | refine sA ?_ | refine sB ?_ | refine sC ?_ | refine sD ?_ | refine sE ?_ | refine sF ?_))
          first | refine sim_op (take_m _ _) (fun _ h => nomatch h) fun r7 b => Sim.prop fun h => ?_ | refine sim_op1 (take_m _ _) (fun _ h => nomatch h) fun r7 b => Sim.prop fun h => ?_
          subst h
          exact sim_outB _ rfl rfl
  · skip
    (with_reducible repeat (first | refine sA ?_ | refine sB ?_ | refine sC ?_ | refine sD ?_ | refine sE ?_ | refine sF ?_))
    (first | refine qA (fun h => ?_) fun h => ?_ | refine qB (fun h => ?_) fun h => ?_ | refine qC (fun h => ?_) fun h => ?_ | refine qD (fun h => ?_) fun h => ?_ | refine qE (fun h => ?_) fun h => ?_) -- x8.1
    · skip
      refine sim_draw [] (fun _ h => nomatch h) ?_
      refine sim_ldFq (b1 := .str) _ (by repeat (first | exact mz | apply ms)) (by kernel_rfl) rfl rfl ?_
      refine sim_ldFq (b1 := .int .i64) _ (by repeat (first | exact mz | apply ms)) (by kernel_rfl) rfl rfl ?_
      (with_reducible repeat (first | refine sA ?_ | refine sB ?_ | refine sC ?_ | refine sD ?_ | refine sE ?_ | refine sF ?_))
      refine sim_opl (empty_m _) (fun _ h => nomatch h) fun r11 nr11 => ?_
      refine sim_nodel [r11] [nr11] rfl (by decide) (by decide) (by kernel_rfl) (fun F hF => (.cons _ _ _ _ (hF (NodeF nr11 r11) (by repeat (first | exact mz | apply ms))) .nil)) (fun p hp => by first | exact absurd hp List.not_mem_nil | (simp at hp; simp [hp])) fun r13 => ?_
      (with_reducible repeat (first | refine sA ?_ | refine sB ?_ | refine sC ?_ | refine sD ?_ | refine sE ?_ | refine sF ?_))
      exact sim_ret1 (t := tP) _ rfl (fun F hF => hF _ (by repeat (first | exact mz | apply ms)))
    · skip
      (with_reducible repeat (first | refine sA ?_ | refine sB ?_ | refine sC ?_ | refine sD ?_ | refine sE ?_ | refine sF ?_))
      refine sim_op (name_mT _) (fun _ h => nomatch h) fun r14 b => Sim.both (Sim.prop fun hsz => Sim.prop fun h => ?_)
      subst h
      refine sim_joinSb ?_ fun x20 => ?_
      · refine sim_fuel (δ := ByteArray) (fun k s => dotsS k s >>= fun s => argsS R >>= fun a => pure (mkN 80 s 0 (Tok.pos r1) [a])) (fun k s vs L' => Fact.prop (vs = [.string s] ∧ L' = [] ∧ s.size + k * 4194305 ≤ 4611686018427387904)) R.fuel r14 (fun _ => rfl) rfl
          (fun F hF => ⟨rfl, rfl, by have := hR.fuel; omega⟩) (by rintro k s vs L' F ⟨rfl, _⟩; exact ⟨(s, ()), rfl⟩) ?_
        rintro k s L' ⟨s', ⟨⟩⟩
        refine Sim.prop fun ⟨hv, hL, hs⟩ => ?_
        subst hL
        obtain rfl : s' = s := by
          have := (List.cons.inj hv).1
          cases this; rfl
        rw [show dotsS (k + 1) s' = (do let b ← takeS k_dot; cond b (do let x ← nameS; dotsS k (s' ++ (k_dot ++ x))) (pure s')) from rfl]
        (with_reducible repeat (first | refine sA ?_ | refine sB ?_ | refine sC ?_ | refine sD ?_ | refine sE ?_ | refine sF ?_))
        first | refine sim_op (take_m _ _) (fun _ h => nomatch h) fun r16 b => Sim.prop fun h => ?_ | refine sim_op1 (take_m _ _) (fun _ h => nomatch h) fun r16 b => Sim.prop fun h => ?_
        subst h
        (first | refine qA (fun h => ?_) fun h => ?_ | refine qB (fun h => ?_) fun h => ?_ | refine qC (fun h => ?_) fun h => ?_ | refine qD (fun h => ?_) fun h => ?_ | refine qE (fun h => ?_) fun h => ?_) -- r16
        · (with_reducible repeat (first | refine sA ?_ | refine sB ?_ | refine sC ?_ | refine sD ?_ | refine sE ?_ | refine sF ?_))
          refine sim_op (name_mT _) (fun _ h => nomatch h) fun r17 b => Sim.both (Sim.prop fun hsz => Sim.prop fun h => ?_)
          subst h
          refine sim_cat (by have : k_dot.size = 1 := rfl; omega) ?_
          refine sim_cat (by have : k_dot.size = 1 := rfl; dsimp only; rw [ByteArray.size_append]; omega) ?_
          refine sim_outX rfl ⟨(k, s' ++ (k_dot ++ r17)), Nat.lt_succ_self k⟩ rfl fun F hF => ⟨rfl, rfl, ?_⟩
          have : k_dot.size = 1 := rfl
          simp only [ByteArray.size_append]; omega
        · exact sim_outS s' rfl rfl
      · skip
        refine sim_draw [] (fun _ h => nomatch h) ?_
        refine sim_ldFq (b1 := .int .i64) _ (by repeat (first | exact mz | apply ms)) (by kernel_rfl) rfl rfl ?_
        (with_reducible repeat (first | refine sA ?_ | refine sB ?_ | refine sC ?_ | refine sD ?_ | refine sE ?_ | refine sF ?_))
        refine sim_opl (args_m hR _) (fun _ h => nomatch h) fun r22 nr22 => ?_
        refine sim_nodel [r22] [nr22] rfl (by decide) (by decide) (by kernel_rfl) (fun F hF => (.cons _ _ _ _ (hF (NodeF nr22 r22) (by repeat (first | exact mz | apply ms))) .nil)) (fun p hp => by first | exact absurd hp List.not_mem_nil | (simp at hp; simp [hp])) fun r24 => ?_
        (with_reducible repeat (first | refine sA ?_ | refine sB ?_ | refine sC ?_ | refine sD ?_ | refine sE ?_ | refine sF ?_))
        exact sim_ret1 (t := tP) _ rfl (fun F hF => hF _ (by repeat (first | exact mz | apply ms)))
theorem refs_m {R : PRec} (hR : PRecM R) (pb : Nat) (word : ByteArray) : Meets PG (PI pb) (callS F_parser_refs #[.pointer (some (pAt pb)), .string word]) tP (refsS R word) NodeF [] := by
  refine c_parser_refs (pAt pb) word ?_
  unfold t_parser_refs refsS
  (with_reducible repeat (first | refine sA ?_ | refine sB ?_ | refine sC ?_ | refine sD ?_ | refine sE ?_ | refine sF ?_))
  first | refine sim_op (now_m _) (fun _ h => nomatch h) fun r1 b => Sim.prop fun h => ?_ | refine sim_op1 (now_m _) (fun _ h => nomatch h) fun r1 b => Sim.prop fun h => ?_
  subst h
  (with_reducible repeat (first | refine sA ?_ | refine sB ?_ | refine sC ?_ | refine sD ?_ | refine sE ?_ | refine sF ?_))
  first | refine sim_op (take_m _ _) (fun _ h => nomatch h) fun r2 b => Sim.prop fun h => ?_ | refine sim_op1 (take_m _ _) (fun _ h => nomatch h) fun r2 b => Sim.prop fun h => ?_
  subst h
  (with_reducible repeat (first | refine sA ?_ | refine sB ?_ | refine sC ?_ | refine sD ?_ | refine sE ?_ | refine sF ?_))
  (first | refine qA (fun h => ?_) fun h => ?_ | refine qB (fun h => ?_) fun h => ?_ | refine qC (fun h => ?_) fun h => ?_ | refine qD (fun h => ?_) fun h => ?_ | refine qE (fun h => ?_) fun h => ?_) -- (!r2)
  · skip
    (with_reducible repeat (first | refine sA ?_ | refine sB ?_ | refine sC ?_ | refine sD ?_ | refine sE ?_ | refine sF ?_))
    first | refine sim_op (empty_m _) (fun _ h => nomatch h) fun r3 nr3 => ?_ | refine sim_op1 (empty_m _) (fun _ h => nomatch h) fun r3 nr3 => ?_
    (with_reducible repeat (first | refine sA ?_ | refine sB ?_ | refine sC ?_ | refine sD ?_ | refine sE ?_ | refine sF ?_))
    exact sim_ret1 (t := tP) _ rfl (fun F hF => hF _ (by repeat (first | exact mz | apply ms)))
  · skip
    (with_reducible repeat (first | refine sA ?_ | refine sB ?_ | refine sC ?_ | refine sD ?_ | refine sE ?_ | refine sF ?_))
    first | refine sim_opO (list_m pb _ _ R.fuel (Nat.le_trans hR.fuel (by decide)) (MeetsO.congr (run_callv1 _ _) (ref_m hR _))) (fun _ h => nomatch h) fun r4 nr4 Kr4 => ?_ | refine sim_op1O (list_m pb _ _ R.fuel (Nat.le_trans hR.fuel (by decide)) (MeetsO.congr (run_callv1 _ _) (ref_m hR _))) (fun _ h => nomatch h) fun r4 nr4 Kr4 => ?_
    refine sim_setPos (by repeat (first | exact mz | apply ms)) fun Kr4 => ?_
    refine sim_doneM (by repeat (first | exact mz | apply ms)) ?_
    (with_reducible repeat (first | refine sA ?_ | refine sB ?_ | refine sC ?_ | refine sD ?_ | refine sE ?_ | refine sF ?_))
    exact sim_ret1 (t := tP) _ rfl (fun F hF => hF _ (by repeat (first | exact mz | apply ms)))
theorem optional_m {R : PRec} (hR : PRecM R) (pb : Nat) : Meets PG (PI pb) (callS F_parser_optional #[.pointer (some (pAt pb))]) tP (optionalS R) NodeF [] := by
  refine c_parser_optional (pAt pb) ?_
  unfold t_parser_optional optionalS
  (with_reducible repeat (first | refine sA ?_ | refine sB ?_ | refine sC ?_ | refine sD ?_ | refine sE ?_ | refine sF ?_))
  first | refine sim_op (take_m _ _) (fun _ h => nomatch h) fun r1 b => Sim.prop fun h => ?_ | refine sim_op1 (take_m _ _) (fun _ h => nomatch h) fun r1 b => Sim.prop fun h => ?_
  subst h
  (with_reducible repeat (first | refine sA ?_ | refine sB ?_ | refine sC ?_ | refine sD ?_ | refine sE ?_ | refine sF ?_))
  (first | refine qA (fun h => ?_) fun h => ?_ | refine qB (fun h => ?_) fun h => ?_ | refine qC (fun h => ?_) fun h => ?_ | refine qD (fun h => ?_) fun h => ?_ | refine qE (fun h => ?_) fun h => ?_) -- r1
  · skip
    (with_reducible repeat (first | refine sA ?_ | refine sB ?_ | refine sC ?_ | refine sD ?_ | refine sE ?_ | refine sF ?_))
    first | refine sim_op (hR.typed _) (fun _ h => nomatch h) fun r2 nr2 => ?_ | refine sim_op1 (hR.typed _) (fun _ h => nomatch h) fun r2 nr2 => ?_
    (with_reducible repeat (first | refine sA ?_ | refine sB ?_ | refine sC ?_ | refine sD ?_ | refine sE ?_ | refine sF ?_))
    exact sim_ret1 (t := tP) _ rfl (fun F hF => hF _ (by repeat (first | exact mz | apply ms)))
  · skip
    (with_reducible repeat (first | refine sA ?_ | refine sB ?_ | refine sC ?_ | refine sD ?_ | refine sE ?_ | refine sF ?_))
    first | refine sim_op (none_m _) (fun _ h => nomatch h) fun r3 nr3 => ?_ | refine sim_op1 (none_m _) (fun _ h => nomatch h) fun r3 nr3 => ?_
    (with_reducible repeat (first | refine sA ?_ | refine sB ?_ | refine sC ?_ | refine sD ?_ | refine sE ?_ | refine sF ?_))
    exact sim_ret1 (t := tP) _ rfl (fun F hF => hF _ (by repeat (first | exact mz | apply ms)))
theorem params_1_m {R : PRec} (hR : PRecM R) (pb b c : Nat) (marks : Bool) : Meets PG (PI pb) (callS F_parser_params_1 #[.pointer (some (pAt b)), .pointer (some (pAt c))]) tP (paramS R marks) NodeF [Fact.at b (blk T_Psyntax_parser [.pointer (some (pAt pb))]), Fact.at c (blk T_bool [.bool marks])] := by
  refine c_parser_params_1 (pAt b) (pAt c) ?_
  unfold t_parser_params_1 paramS
  refine sim_ldF (b1 := .ptr) _ (by repeat (first | exact mz | apply ms)) (by kernel_rfl) rfl rfl ?_
  (with_reducible repeat (first | refine sA ?_ | refine sB ?_ | refine sC ?_ | refine sD ?_ | refine sE ?_ | refine sF ?_))
  first | refine sim_op (now_m _) (fun _ h => nomatch h) fun r2 b => Sim.prop fun h => ?_ | refine sim_op1 (now_m _) (fun _ h => nomatch h) fun r2 b => Sim.prop fun h => ?_
  subst h
  refine sim_joinBb ?_ fun x6 => ?_
  · skip
    refine sim_ldF (b1 := .bool) _ (by repeat (first | exact mz | apply ms)) (by kernel_rfl) rfl rfl ?_
    (with_reducible repeat (first | refine sA ?_ | refine sB ?_ | refine sC ?_ | refine sD ?_ | refine sE ?_ | refine sF ?_))
    (first | refine qA (fun h => ?_) fun h => ?_ | refine qB (fun h => ?_) fun h => ?_ | refine qC (fun h => ?_) fun h => ?_ | refine qD (fun h => ?_) fun h => ?_ | refine qE (fun h => ?_) fun h => ?_) -- r3
    · skip
      refine sim_ldF (b1 := .ptr) _ (by repeat (first | exact mz | apply ms)) (by kernel_rfl) rfl rfl ?_
      (with_reducible repeat (first | refine sA ?_ | refine sB ?_ | refine sC ?_ | refine sD ?_ | refine sE ?_ | refine sF ?_))
      first | refine sim_op (take_m _ _) (fun _ h => nomatch h) fun r5 b => Sim.prop fun h => ?_ | refine sim_op1 (take_m _ _) (fun _ h => nomatch h) fun r5 b => Sim.prop fun h => ?_
      subst h
      exact sim_outB _ rfl rfl
    · skip
      exact sim_outB _ rfl rfl
  · skip
    refine sim_joinIb ?_ fun x8 => ?_
    · skip
      (with_reducible repeat (first | refine sA ?_ | refine sB ?_ | refine sC ?_ | refine sD ?_ | refine sE ?_ | refine sF ?_))
      (first | refine qA (fun h => ?_) fun h => ?_ | refine qB (fun h => ?_) fun h => ?_ | refine qC (fun h => ?_) fun h => ?_ | refine qD (fun h => ?_) fun h => ?_ | refine qE (fun h => ?_) fun h => ?_) -- x6.1
      · skip
        refine sim_orI ?_
        exact sim_outI _ rfl rfl
      · skip
        exact sim_outI _ rfl rfl
    · skip
      refine sim_joinBb ?_ fun x12 => ?_
      · skip
        refine sim_ldF (b1 := .bool) _ (by repeat (first | exact mz | apply ms)) (by kernel_rfl) rfl rfl ?_
        (with_reducible repeat (first | refine sA ?_ | refine sB ?_ | refine sC ?_ | refine sD ?_ | refine sE ?_ | refine sF ?_))
        (first | refine qA (fun h => ?_) fun h => ?_ | refine qB (fun h => ?_) fun h => ?_ | refine qC (fun h => ?_) fun h => ?_ | refine qD (fun h => ?_) fun h => ?_ | refine qE (fun h => ?_) fun h => ?_) -- r9
        · skip
          refine sim_ldF (b1 := .ptr) _ (by repeat (first | exact mz | apply ms)) (by kernel_rfl) rfl rfl ?_
          (with_reducible repeat (first | refine sA ?_ | refine sB ?_ | refine sC ?_ | refine sD ?_ | refine sE ?_ | refine sF ?_))
          first | refine sim_op (take_m _ _) (fun _ h => nomatch h) fun r11 b => Sim.prop fun h => ?_ | refine sim_op1 (take_m _ _) (fun _ h => nomatch h) fun r11 b => Sim.prop fun h => ?_
          subst h
          exact sim_outB _ rfl rfl
        · skip
          exact sim_outB _ rfl rfl
      · skip
        refine sim_joinIb ?_ fun x14 => ?_
        · skip
          (with_reducible repeat (first | refine sA ?_ | refine sB ?_ | refine sC ?_ | refine sD ?_ | refine sE ?_ | refine sF ?_))
          (first | refine qA (fun h => ?_) fun h => ?_ | refine qB (fun h => ?_) fun h => ?_ | refine qC (fun h => ?_) fun h => ?_ | refine qD (fun h => ?_) fun h => ?_ | refine qE (fun h => ?_) fun h => ?_) -- x12.1
          · skip
            refine sim_orI ?_
            exact sim_outI _ rfl rfl
          · skip
            exact sim_outI _ rfl rfl
        · skip
          refine sim_ldF (b1 := .ptr) _ (by repeat (first | exact mz | apply ms)) (by kernel_rfl) rfl rfl ?_
          (with_reducible repeat (first | refine sA ?_ | refine sB ?_ | refine sC ?_ | refine sD ?_ | refine sE ?_ | refine sF ?_))
          first | refine sim_op (name_m _) (fun _ h => nomatch h) fun r16 b => Sim.prop fun h => ?_ | refine sim_op1 (name_m _) (fun _ h => nomatch h) fun r16 b => Sim.prop fun h => ?_
          subst h
          refine sim_ldF (b1 := .ptr) _ (by repeat (first | exact mz | apply ms)) (by kernel_rfl) rfl rfl ?_
          (with_reducible repeat (first | refine sA ?_ | refine sB ?_ | refine sC ?_ | refine sD ?_ | refine sE ?_ | refine sF ?_))
          first | refine sim_op (take_m _ _) (fun _ h => nomatch h) fun r18 b => Sim.prop fun h => ?_ | refine sim_op1 (take_m _ _) (fun _ h => nomatch h) fun r18 b => Sim.prop fun h => ?_
          subst h
          refine sim_joinIb ?_ fun x20 => ?_
          · skip
            (with_reducible repeat (first | refine sA ?_ | refine sB ?_ | refine sC ?_ | refine sD ?_ | refine sE ?_ | refine sF ?_))
            (first | refine qA (fun h => ?_) fun h => ?_ | refine qB (fun h => ?_) fun h => ?_ | refine qC (fun h => ?_) fun h => ?_ | refine qD (fun h => ?_) fun h => ?_ | refine qE (fun h => ?_) fun h => ?_) -- r18
            · skip
              refine sim_orI ?_
              exact sim_outI _ rfl rfl
            · skip
              exact sim_outI _ rfl rfl
          · skip
            refine sim_ldF (b1 := .ptr) _ (by repeat (first | exact mz | apply ms)) (by kernel_rfl) rfl rfl ?_
            (with_reducible repeat (first | refine sA ?_ | refine sB ?_ | refine sC ?_ | refine sD ?_ | refine sE ?_ | refine sF ?_))
            first | refine sim_op (optional_m hR _) (fun _ h => nomatch h) fun r22 nr22 => ?_ | refine sim_op1 (optional_m hR _) (fun _ h => nomatch h) fun r22 nr22 => ?_
            refine sim_node [r22] [nr22] rfl (by decide) (by decide) (by kernel_rfl) (fun F hF => (.cons _ _ _ _ (hF (NodeF nr22 r22) (by repeat (first | exact mz | apply ms))) .nil)) fun r24 => ?_
            (with_reducible repeat (first | refine sA ?_ | refine sB ?_ | refine sC ?_ | refine sD ?_ | refine sE ?_ | refine sF ?_))
            exact sim_ret1 (t := tP) _ rfl (fun F hF => hF _ (by repeat (first | exact mz | apply ms)))
theorem params_m {R : PRec} (hR : PRecM R) (pb : Nat) (marks : Bool) : Meets PG (PI pb) (callS F_parser_params #[.pointer (some (pAt pb)), .bool marks]) tP (paramsS R marks) NodeF [] := by
  refine c_parser_params (pAt pb) marks ?_
  unfold t_parser_params paramsS
  refine sim_boxF fun br1 => ?_
  refine sim_boxF fun br2 => ?_
  refine sim_ldF (b1 := .ptr) _ (by repeat (first | exact mz | apply ms)) (by kernel_rfl) rfl rfl ?_
  (with_reducible repeat (first | refine sA ?_ | refine sB ?_ | refine sC ?_ | refine sD ?_ | refine sE ?_ | refine sF ?_))
  first | refine sim_op (is_m _ _) (fun _ h => nomatch h) fun r4 b => Sim.prop fun h => ?_ | refine sim_op1 (is_m _ _) (fun _ h => nomatch h) fun r4 b => Sim.prop fun h => ?_
  subst h
  (with_reducible repeat (first | refine sA ?_ | refine sB ?_ | refine sC ?_ | refine sD ?_ | refine sE ?_ | refine sF ?_))
  (first | refine qA (fun h => ?_) fun h => ?_ | refine qB (fun h => ?_) fun h => ?_ | refine qC (fun h => ?_) fun h => ?_ | refine qD (fun h => ?_) fun h => ?_ | refine qE (fun h => ?_) fun h => ?_) -- r4
  · skip
    refine sim_ldF (b1 := .ptr) _ (by repeat (first | exact mz | apply ms)) (by kernel_rfl) rfl rfl ?_
    (with_reducible repeat (first | refine sA ?_ | refine sB ?_ | refine sC ?_ | refine sD ?_ | refine sE ?_ | refine sF ?_))
    first | refine sim_op (empty_m _) (fun _ h => nomatch h) fun r6 nr6 => ?_ | refine sim_op1 (empty_m _) (fun _ h => nomatch h) fun r6 nr6 => ?_
    (with_reducible repeat (first | refine sA ?_ | refine sB ?_ | refine sC ?_ | refine sD ?_ | refine sE ?_ | refine sF ?_))
    exact sim_ret1 (t := tP) _ rfl (fun F hF => hF _ (by repeat (first | exact mz | apply ms)))
  · skip
    refine sim_ldF (b1 := .ptr) _ (by repeat (first | exact mz | apply ms)) (by kernel_rfl) rfl rfl ?_
    (with_reducible repeat (first | refine sA ?_ | refine sB ?_ | refine sC ?_ | refine sD ?_ | refine sE ?_ | refine sF ?_))
    first | refine sim_opO (list_m pb _ _ R.fuel (Nat.le_trans hR.fuel (by decide)) (MeetsO.congr (run_callv3 _ _ _) (params_1_m hR _ _ _ marks))) (fun A hA => by simp only [List.mem_cons, List.not_mem_nil, or_false] at hA; rcases hA with rfl | rfl <;> exact (by repeat (first | exact mz | apply ms))) fun r8 nr8 Kr8 => ?_ | refine sim_op1O (list_m pb _ _ R.fuel (Nat.le_trans hR.fuel (by decide)) (MeetsO.congr (run_callv3 _ _ _) (params_1_m hR _ _ _ marks))) (fun A hA => by simp only [List.mem_cons, List.not_mem_nil, or_false] at hA; rcases hA with rfl | rfl <;> exact (by repeat (first | exact mz | apply ms))) fun r8 nr8 Kr8 => ?_
    refine sim_doneM (by repeat (first | exact mz | apply ms)) ?_
    (with_reducible repeat (first | refine sA ?_ | refine sB ?_ | refine sC ?_ | refine sD ?_ | refine sE ?_ | refine sF ?_))
    exact sim_ret1 (t := tP) _ rfl (fun F hF => hF _ (by repeat (first | exact mz | apply ms)))
theorem piece_m {R : PRec} (hR : PRecM R) (pb : Nat) : Meets PG (PI pb) (callS F_parser_piece #[.pointer (some (pAt pb))]) tP (pieceS R) NodeF [] := by
  refine c_parser_piece (pAt pb) ?_
  unfold t_parser_piece pieceS
  (with_reducible repeat (first | refine sA ?_ | refine sB ?_ | refine sC ?_ | refine sD ?_ | refine sE ?_ | refine sF ?_))
  first | refine sim_op (now_m _) (fun _ h => nomatch h) fun r1 b => Sim.prop fun h => ?_ | refine sim_op1 (now_m _) (fun _ h => nomatch h) fun r1 b => Sim.prop fun h => ?_
  subst h
  (with_reducible repeat (first | refine sA ?_ | refine sB ?_ | refine sC ?_ | refine sD ?_ | refine sE ?_ | refine sF ?_))
  first | refine sim_op (name_m _) (fun _ h => nomatch h) fun r2 b => Sim.prop fun h => ?_ | refine sim_op1 (name_m _) (fun _ h => nomatch h) fun r2 b => Sim.prop fun h => ?_
  subst h
  (with_reducible repeat (first | refine sA ?_ | refine sB ?_ | refine sC ?_ | refine sD ?_ | refine sE ?_ | refine sF ?_))
  first | refine sim_op (is_m _ _) (fun _ h => nomatch h) fun r3 b => Sim.prop fun h => ?_ | refine sim_op1 (is_m _ _) (fun _ h => nomatch h) fun r3 b => Sim.prop fun h => ?_
  subst h
  (with_reducible repeat (first | refine sA ?_ | refine sB ?_ | refine sC ?_ | refine sD ?_ | refine sE ?_ | refine sF ?_))
  (first | refine qA (fun h => ?_) fun h => ?_ | refine qB (fun h => ?_) fun h => ?_ | refine qC (fun h => ?_) fun h => ?_ | refine qD (fun h => ?_) fun h => ?_ | refine qE (fun h => ?_) fun h => ?_) -- r3
  · skip
    (with_reducible repeat (first | refine sA ?_ | refine sB ?_ | refine sC ?_ | refine sD ?_ | refine sE ?_ | refine sF ?_))
    first | refine sim_op (now_m _) (fun _ h => nomatch h) fun r4 b => Sim.prop fun h => ?_ | refine sim_op1 (now_m _) (fun _ h => nomatch h) fun r4 b => Sim.prop fun h => ?_
    subst h
    (with_reducible repeat (first | refine sA ?_ | refine sB ?_ | refine sC ?_ | refine sD ?_ | refine sE ?_ | refine sF ?_))
    first | refine sim_op (must_m _ _) (fun _ h => nomatch h) fun x b => ?_ | refine sim_op1 (must_m _ _) (fun _ h => nomatch h) fun x b => ?_
    (with_reducible repeat (first | refine sA ?_ | refine sB ?_ | refine sC ?_ | refine sD ?_ | refine sE ?_ | refine sF ?_))
    first | refine sim_op (params_m hR _ _) (fun _ h => nomatch h) fun r6 nr6 => ?_ | refine sim_op1 (params_m hR _ _) (fun _ h => nomatch h) fun r6 nr6 => ?_
    (with_reducible repeat (first | refine sA ?_ | refine sB ?_ | refine sC ?_ | refine sD ?_ | refine sE ?_ | refine sF ?_))
    first | refine sim_op (must_m _ _) (fun _ h => nomatch h) fun x b => ?_ | refine sim_op1 (must_m _ _) (fun _ h => nomatch h) fun x b => ?_
    (with_reducible repeat (first | refine sA ?_ | refine sB ?_ | refine sC ?_ | refine sD ?_ | refine sE ?_ | refine sF ?_))
    first | refine sim_op (must_m _ _) (fun _ h => nomatch h) fun x b => ?_ | refine sim_op1 (must_m _ _) (fun _ h => nomatch h) fun x b => ?_
    (with_reducible repeat (first | refine sA ?_ | refine sB ?_ | refine sC ?_ | refine sD ?_ | refine sE ?_ | refine sF ?_))
    first | refine sim_op (hR.typed _) (fun _ h => nomatch h) fun r9 nr9 => ?_ | refine sim_op1 (hR.typed _) (fun _ h => nomatch h) fun r9 nr9 => ?_
    refine sim_node [r6, r9] [nr6, nr9] rfl (by decide) (by decide) (by kernel_rfl) (fun F hF => (.cons _ _ _ _ (hF (NodeF nr6 r6) (by repeat (first | exact mz | apply ms))) (.cons _ _ _ _ (hF (NodeF nr9 r9) (by repeat (first | exact mz | apply ms))) .nil))) fun r11 => ?_
    refine sim_node [r11] [(mkN _ _ _ _ _)] rfl (by decide) (by decide) (by kernel_rfl) (fun F hF => (.cons _ _ _ _ (hF (NodeF (mkN _ _ _ _ _) r11) (by repeat (first | exact mz | apply ms))) .nil)) fun r13 => ?_
    (with_reducible repeat (first | refine sA ?_ | refine sB ?_ | refine sC ?_ | refine sD ?_ | refine sE ?_ | refine sF ?_))
    exact sim_ret1 (t := tP) _ rfl (fun F hF => hF _ (by repeat (first | exact mz | apply ms)))
  · skip
    (with_reducible repeat (first | refine sA ?_ | refine sB ?_ | refine sC ?_ | refine sD ?_ | refine sE ?_ | refine sF ?_))
    first | refine sim_op (take_m _ _) (fun _ h => nomatch h) fun r14 b => Sim.prop fun h => ?_ | refine sim_op1 (take_m _ _) (fun _ h => nomatch h) fun r14 b => Sim.prop fun h => ?_
    subst h
    refine sim_joinIb ?_ fun x15 => ?_
    · skip
      (with_reducible repeat (first | refine sA ?_ | refine sB ?_ | refine sC ?_ | refine sD ?_ | refine sE ?_ | refine sF ?_))
      (first | refine qA (fun h => ?_) fun h => ?_ | refine qB (fun h => ?_) fun h => ?_ | refine qC (fun h => ?_) fun h => ?_ | refine qD (fun h => ?_) fun h => ?_ | refine qE (fun h => ?_) fun h => ?_) -- r14
      · skip
        exact sim_outI _ rfl rfl
      · skip
        exact sim_outI _ rfl rfl
    · skip
      (with_reducible repeat (first | refine sA ?_ | refine sB ?_ | refine sC ?_ | refine sD ?_ | refine sE ?_ | refine sF ?_))
      first | refine sim_op (must_m _ _) (fun _ h => nomatch h) fun x b => ?_ | refine sim_op1 (must_m _ _) (fun _ h => nomatch h) fun x b => ?_
      (with_reducible repeat (first | refine sA ?_ | refine sB ?_ | refine sC ?_ | refine sD ?_ | refine sE ?_ | refine sF ?_))
      first | refine sim_op (hR.typed _) (fun _ h => nomatch h) fun r17 nr17 => ?_ | refine sim_op1 (hR.typed _) (fun _ h => nomatch h) fun r17 nr17 => ?_
      refine sim_node [r17] [nr17] rfl (by decide) (by decide) (by kernel_rfl) (fun F hF => (.cons _ _ _ _ (hF (NodeF nr17 r17) (by repeat (first | exact mz | apply ms))) .nil)) fun r19 => ?_
      (with_reducible repeat (first | refine sA ?_ | refine sB ?_ | refine sC ?_ | refine sD ?_ | refine sE ?_ | refine sF ?_))
      exact sim_ret1 (t := tP) _ rfl (fun F hF => hF _ (by repeat (first | exact mz | apply ms)))
theorem objectType_m {R : PRec} (hR : PRecM R) (pb : Nat) : Meets PG (PI pb) (callS F_parser_objectType #[.pointer (some (pAt pb))]) tP (objectTypeS R) NodeF [] := by
  refine c_parser_objectType (pAt pb) ?_
  unfold t_parser_objectType objectTypeS
  (with_reducible repeat (first | refine sA ?_ | refine sB ?_ | refine sC ?_ | refine sD ?_ | refine sE ?_ | refine sF ?_))
  first | refine sim_op (now_m _) (fun _ h => nomatch h) fun r1 b => Sim.prop fun h => ?_ | refine sim_op1 (now_m _) (fun _ h => nomatch h) fun r1 b => Sim.prop fun h => ?_
  subst h
  refine sim_own0 fun r2 Kr2 => ?_
  (with_reducible repeat (first | refine sA ?_ | refine sB ?_ | refine sC ?_ | refine sD ?_ | refine sE ?_ | refine sF ?_))
  first | refine sim_op (must_m _ _) (fun _ h => nomatch h) fun x b => ?_ | refine sim_op1 (must_m _ _) (fun _ h => nomatch h) fun x b => ?_
  refine sim_joinO (fun n => do mustS k_rc; pure n) r2 [] ?_ fun n K => ?_
  · skip
    refine sim_fuelO (piecesS R) R.fuel _ (fun _ => rfl) rfl (by have := hR.fuel; simp [mkN, N.kids]; omega) (by repeat (first | exact mz | apply ms)) fun k n K hn => ?_
    (with_reducible repeat (first | refine sA ?_ | refine sB ?_ | refine sC ?_ | refine sD ?_ | refine sE ?_ | refine sF ?_))
    first | refine sim_op (is_m _ _) (fun _ h => nomatch h) fun r5 b => Sim.prop fun h => ?_ | refine sim_op1 (is_m _ _) (fun _ h => nomatch h) fun r5 b => Sim.prop fun h => ?_
    subst h
    (with_reducible repeat (first | refine sA ?_ | refine sB ?_ | refine sC ?_ | refine sD ?_ | refine sE ?_ | refine sF ?_))
    (first | refine qA (fun h => ?_) fun h => ?_ | refine qB (fun h => ?_) fun h => ?_ | refine qC (fun h => ?_) fun h => ?_ | refine qD (fun h => ?_) fun h => ?_ | refine qE (fun h => ?_) fun h => ?_) -- (!r5)
    · skip
      refine sim_growM (by repeat (first | exact mz | apply ms)) fun b sl ps K2 hx hb => ?_
      (with_reducible repeat (first | refine sA ?_ | refine sB ?_ | refine sC ?_ | refine sD ?_ | refine sE ?_ | refine sF ?_))
      refine sim_opl (piece_m hR _) (fun _ h => nomatch h) fun r8 nr8 => ?_
      subst hx
      refine sim_push hb (by repeat (first | exact mz | apply ms)) (by repeat (first | exact mz | apply ms)) (by omega) fun K => ?_
      (with_reducible repeat (first | refine sA ?_ | refine sB ?_ | refine sC ?_ | refine sD ?_ | refine sE ?_ | refine sF ?_))
      first | refine sim_op (take_m _ _) (fun _ h => nomatch h) fun r13 b => Sim.prop fun h => ?_ | refine sim_op1 (take_m _ _) (fun _ h => nomatch h) fun r13 b => Sim.prop fun h => ?_
      subst h
      (with_reducible repeat (first | refine sA ?_ | refine sB ?_ | refine sC ?_ | refine sD ?_ | refine sE ?_ | refine sF ?_))
      (first | refine qA (fun h => ?_) fun h => ?_ | refine qB (fun h => ?_) fun h => ?_ | refine qC (fun h => ?_) fun h => ?_ | refine qD (fun h => ?_) fun h => ?_ | refine qE (fun h => ?_) fun h => ?_) -- (!r13)
      · skip
        (with_reducible repeat (first | refine sA ?_ | refine sB ?_ | refine sC ?_ | refine sD ?_ | refine sE ?_ | refine sF ?_))
        first | refine sim_op (take_m _ _) (fun _ h => nomatch h) fun r14 b => Sim.prop fun h => ?_ | refine sim_op1 (take_m _ _) (fun _ h => nomatch h) fun r14 b => Sim.prop fun h => ?_
        subst h
        (with_reducible repeat (first | refine sA ?_ | refine sB ?_ | refine sC ?_ | refine sD ?_ | refine sE ?_ | refine sF ?_))
        (first | refine qA (fun h => ?_) fun h => ?_ | refine qB (fun h => ?_) fun h => ?_ | refine qC (fun h => ?_) fun h => ?_ | refine qD (fun h => ?_) fun h => ?_ | refine qE (fun h => ?_) fun h => ?_) -- (!r14)
        · skip
          exact sim_outJO _ rfl rfl (by repeat (first | exact mz | apply ms))
        · skip
          refine sim_outO _ rfl rfl (by simp [N.push_len] at hn ⊢; omega) (by repeat (first | exact mz | apply ms))
      · skip
        refine sim_outO _ rfl rfl (by simp [N.push_len] at hn ⊢; omega) (by repeat (first | exact mz | apply ms))
    · skip
      exact sim_outJO _ rfl rfl (by repeat (first | exact mz | apply ms))
  · skip
    (with_reducible repeat (first | refine sA ?_ | refine sB ?_ | refine sC ?_ | refine sD ?_ | refine sE ?_ | refine sF ?_))
    first | refine sim_op (must_m _ _) (fun _ h => nomatch h) fun x b => ?_ | refine sim_op1 (must_m _ _) (fun _ h => nomatch h) fun x b => ?_
    refine sim_doneM (n := _) (x := r2) (by repeat (first | exact mz | apply ms)) ?_
    (with_reducible repeat (first | refine sA ?_ | refine sB ?_ | refine sC ?_ | refine sD ?_ | refine sE ?_ | refine sF ?_))
    exact sim_ret1 (t := tP) _ rfl (fun F hF => hF _ (by repeat (first | exact mz | apply ms)))
theorem arrowType_m {R : PRec} (hR : PRecM R) (pb : Nat) : Meets PG (PI pb) (callS F_parser_arrowType #[.pointer (some (pAt pb))]) tP (arrowTypeS R) NodeF [] := by
  refine c_parser_arrowType (pAt pb) ?_
  unfold t_parser_arrowType arrowTypeS
  (with_reducible repeat (first | refine sA ?_ | refine sB ?_ | refine sC ?_ | refine sD ?_ | refine sE ?_ | refine sF ?_))
  first | refine sim_op (now_m _) (fun _ h => nomatch h) fun r1 b => Sim.prop fun h => ?_ | refine sim_op1 (now_m _) (fun _ h => nomatch h) fun r1 b => Sim.prop fun h => ?_
  subst h
  (with_reducible repeat (first | refine sA ?_ | refine sB ?_ | refine sC ?_ | refine sD ?_ | refine sE ?_ | refine sF ?_))
  first | refine sim_op (must_m _ _) (fun _ h => nomatch h) fun x b => ?_ | refine sim_op1 (must_m _ _) (fun _ h => nomatch h) fun x b => ?_
  (with_reducible repeat (first | refine sA ?_ | refine sB ?_ | refine sC ?_ | refine sD ?_ | refine sE ?_ | refine sF ?_))
  first | refine sim_op (params_m hR _ _) (fun _ h => nomatch h) fun r3 nr3 => ?_ | refine sim_op1 (params_m hR _ _) (fun _ h => nomatch h) fun r3 nr3 => ?_
  (with_reducible repeat (first | refine sA ?_ | refine sB ?_ | refine sC ?_ | refine sD ?_ | refine sE ?_ | refine sF ?_))
  first | refine sim_op (must_m _ _) (fun _ h => nomatch h) fun x b => ?_ | refine sim_op1 (must_m _ _) (fun _ h => nomatch h) fun x b => ?_
  (with_reducible repeat (first | refine sA ?_ | refine sB ?_ | refine sC ?_ | refine sD ?_ | refine sE ?_ | refine sF ?_))
  first | refine sim_op (must_m _ _) (fun _ h => nomatch h) fun x b => ?_ | refine sim_op1 (must_m _ _) (fun _ h => nomatch h) fun x b => ?_
  (with_reducible repeat (first | refine sA ?_ | refine sB ?_ | refine sC ?_ | refine sD ?_ | refine sE ?_ | refine sF ?_))
  first | refine sim_op (hR.typed _) (fun _ h => nomatch h) fun r6 nr6 => ?_ | refine sim_op1 (hR.typed _) (fun _ h => nomatch h) fun r6 nr6 => ?_
  refine sim_node [r3, r6] [nr3, nr6] rfl (by decide) (by decide) (by kernel_rfl) (fun F hF => (.cons _ _ _ _ (hF (NodeF nr3 r3) (by repeat (first | exact mz | apply ms))) (.cons _ _ _ _ (hF (NodeF nr6 r6) (by repeat (first | exact mz | apply ms))) .nil))) fun r8 => ?_
  (with_reducible repeat (first | refine sA ?_ | refine sB ?_ | refine sC ?_ | refine sD ?_ | refine sE ?_ | refine sF ?_))
  exact sim_ret1 (t := tP) _ rfl (fun F hF => hF _ (by repeat (first | exact mz | apply ms)))
theorem plain_m {R : PRec} (hR : PRecM R) (pb : Nat) : Meets PG (PI pb) (callS F_parser_plain #[.pointer (some (pAt pb))]) tP (plainS R) NodeF [] := by
  refine c_parser_plain (pAt pb) ?_
  unfold t_parser_plain plainS
  (with_reducible repeat (first | refine sA ?_ | refine sB ?_ | refine sC ?_ | refine sD ?_ | refine sE ?_ | refine sF ?_))
  refine sim_op (now_mT _) (fun _ h => nomatch h) fun r1 b => Sim.both (Sim.prop fun hnum => Sim.prop fun h => ?_)
  subst h
  refine sim_varF (c := true) (z := [.int .i64 0, .string kE, .int .i64 0, .int .i64 0]) (by kernel_rfl) (by kernel_rfl) rfl (by simp [Value.cells, Value.oneCell']) fun br2 => ?_
  refine sim_joinBb ?_ fun x7 => ?_
  · skip
    (with_reducible repeat (first | refine sA ?_ | refine sB ?_ | refine sC ?_ | refine sD ?_ | refine sE ?_ | refine sF ?_))
    first | refine sim_op (is_m _ _) (fun _ h => nomatch h) fun r4 b => Sim.prop fun h => ?_ | refine sim_op1 (is_m _ _) (fun _ h => nomatch h) fun r4 b => Sim.prop fun h => ?_
    subst h
    (with_reducible repeat (first | refine sA ?_ | refine sB ?_ | refine sC ?_ | refine sD ?_ | refine sE ?_ | refine sF ?_))
    (first | refine qA (fun h => ?_) fun h => ?_ | refine qB (fun h => ?_) fun h => ?_ | refine qC (fun h => ?_) fun h => ?_ | refine qD (fun h => ?_) fun h => ?_ | refine qE (fun h => ?_) fun h => ?_) -- r4
    · skip
      (with_reducible repeat (first | refine sA ?_ | refine sB ?_ | refine sC ?_ | refine sD ?_ | refine sE ?_ | refine sF ?_))
      first | refine sim_op (closed_m _) (fun _ h => nomatch h) fun r5 b => Sim.prop fun h => ?_ | refine sim_op1 (closed_m _) (fun _ h => nomatch h) fun r5 b => Sim.prop fun h => ?_
      subst h
      refine sim_val (says_m _ _ _) (fun _ h => nomatch h) ?_
      exact sim_outB _ rfl rfl
    · skip
      exact sim_outB _ rfl rfl
  · skip
    (with_reducible repeat (first | refine sA ?_ | refine sB ?_ | refine sC ?_ | refine sD ?_ | refine sE ?_ | refine sF ?_))
    (first | refine qA (fun h => ?_) fun h => ?_ | refine qB (fun h => ?_) fun h => ?_ | refine qC (fun h => ?_) fun h => ?_ | refine qD (fun h => ?_) fun h => ?_ | refine qE (fun h => ?_) fun h => ?_) -- x7.1
    · skip
      (with_reducible repeat (first | refine sA ?_ | refine sB ?_ | refine sC ?_ | refine sD ?_ | refine sE ?_ | refine sF ?_))
      first | refine sim_op (arrowType_m hR _) (fun _ h => nomatch h) fun r8 nr8 => ?_ | refine sim_op1 (arrowType_m hR _) (fun _ h => nomatch h) fun r8 nr8 => ?_
      (with_reducible repeat (first | refine sA ?_ | refine sB ?_ | refine sC ?_ | refine sD ?_ | refine sE ?_ | refine sF ?_))
      exact sim_ret1 (t := tP) _ rfl (fun F hF => hF _ (by repeat (first | exact mz | apply ms)))
    · skip
      (with_reducible repeat (first | refine sA ?_ | refine sB ?_ | refine sC ?_ | refine sD ?_ | refine sE ?_ | refine sF ?_))
      first | refine sim_op (take_m _ _) (fun _ h => nomatch h) fun r9 b => Sim.prop fun h => ?_ | refine sim_op1 (take_m _ _) (fun _ h => nomatch h) fun r9 b => Sim.prop fun h => ?_
      subst h
      (with_reducible repeat (first | refine sA ?_ | refine sB ?_ | refine sC ?_ | refine sD ?_ | refine sE ?_ | refine sF ?_))
      (first | refine qA (fun h => ?_) fun h => ?_ | refine qB (fun h => ?_) fun h => ?_ | refine qC (fun h => ?_) fun h => ?_ | refine qD (fun h => ?_) fun h => ?_ | refine qE (fun h => ?_) fun h => ?_) -- r9
      · skip
        (with_reducible repeat (first | refine sA ?_ | refine sB ?_ | refine sC ?_ | refine sD ?_ | refine sE ?_ | refine sF ?_))
        first | refine sim_op (hR.typed _) (fun _ h => nomatch h) fun r10 nr10 => ?_ | refine sim_op1 (hR.typed _) (fun _ h => nomatch h) fun r10 nr10 => ?_
        (with_reducible repeat (first | refine sA ?_ | refine sB ?_ | refine sC ?_ | refine sD ?_ | refine sE ?_ | refine sF ?_))
        first | refine sim_op (must_m _ _) (fun _ h => nomatch h) fun x b => ?_ | refine sim_op1 (must_m _ _) (fun _ h => nomatch h) fun x b => ?_
        (with_reducible repeat (first | refine sA ?_ | refine sB ?_ | refine sC ?_ | refine sD ?_ | refine sE ?_ | refine sF ?_))
        exact sim_ret1 (t := tP) _ rfl (fun F hF => hF _ (by repeat (first | exact mz | apply ms)))
      · skip
        refine sim_ldF (b1 := .int .i64) _ (by repeat (first | exact mz | apply ms)) (by kernel_rfl) rfl rfl ?_
        (with_reducible repeat (first | refine sA ?_ | refine sB ?_ | refine sC ?_ | refine sD ?_ | refine sE ?_ | refine sF ?_))
        (first | refine qA (fun h => ?_) fun h => ?_ | refine qB (fun h => ?_) fun h => ?_ | refine qC (fun h => ?_) fun h => ?_ | refine qD (fun h => ?_) fun h => ?_ | refine qE (fun h => ?_) fun h => ?_) -- ((r12 : Int) == 3)
        · have hk : Tok.kind r1 = 3 := by simpa [Tok.kind] using h
          (with_reducible repeat (first | refine sA ?_ | refine sB ?_ | refine sC ?_ | refine sD ?_ | refine sE ?_ | refine sF ?_))
          first | refine sim_op (next_m _) (fun _ h => nomatch h) fun r13 b => Sim.prop fun h => ?_ | refine sim_op1 (next_m _) (fun _ h => nomatch h) fun r13 b => Sim.prop fun h => ?_
          subst h
          refine sim_draw [] (fun _ h => nomatch h) ?_
          refine sim_ldFq (b1 := .str) _ (by repeat (first | exact mz | apply ms)) (by kernel_rfl) rfl rfl ?_
          refine sim_ldFq (b1 := .int .i64) _ (by repeat (first | exact mz | apply ms)) (by kernel_rfl) rfl rfl ?_
          refine sim_vall (hR.num _ _ (hnum.1 hk).1 (hnum.1 hk).2) (fun _ h => nomatch h) ?_
          refine sim_made0l fun r17 => ?_
          (with_reducible repeat (first | refine sA ?_ | refine sB ?_ | refine sC ?_ | refine sD ?_ | refine sE ?_ | refine sF ?_))
          exact sim_ret1 (t := tP) _ rfl (fun F hF => hF _ (by repeat (first | exact mz | apply ms)))
        · skip
          (with_reducible repeat (first | refine sA ?_ | refine sB ?_ | refine sC ?_ | refine sD ?_ | refine sE ?_ | refine sF ?_))
          first | refine sim_op (take_m _ _) (fun _ h => nomatch h) fun r18 b => Sim.prop fun h => ?_ | refine sim_op1 (take_m _ _) (fun _ h => nomatch h) fun r18 b => Sim.prop fun h => ?_
          subst h
          (with_reducible repeat (first | refine sA ?_ | refine sB ?_ | refine sC ?_ | refine sD ?_ | refine sE ?_ | refine sF ?_))
          (first | refine qA (fun h => ?_) fun h => ?_ | refine qB (fun h => ?_) fun h => ?_ | refine qC (fun h => ?_) fun h => ?_ | refine qD (fun h => ?_) fun h => ?_ | refine qE (fun h => ?_) fun h => ?_) -- r18
          · skip
            (with_reducible repeat (first | refine sA ?_ | refine sB ?_ | refine sC ?_ | refine sD ?_ | refine sE ?_ | refine sF ?_))
            refine sim_opG (fun u st => st.now = u) (now_mT _) (fun _ h => nomatch h) (fun st b st' h => by obtain ⟨h1, h2⟩ := nowS_eq h; rw [h1, h2]) fun r19 b => Sim.both (Sim.prop fun hnum2 => Sim.prop fun h => ?_)
            subst h
            refine sim_joinU (guardS (fun st => st.now = r19 ∧ Tok.kind r19 = 3) (do let v ← nextS; pure (mkN 81 kE (IntKind.i64.wrap (0 - numI v.text)) (Tok.pos r1) []))) ?_ ?_
            · refine qE (fun h => ?_) (fun h => ?_)
              · refine Sim.unguard ?_
                rw [show (Tok.kind r19 != 3) = true from h]
                exact sim_fails (β1 := Unit) (Rel1 := fun _ _ _ => Fact.prop True) (fail_m _) (fun _ h => nomatch h) (by first | exact errs_fail | exact errs_failb _)
              · refine sim_outU rfl ?_
                rw [show (Tok.kind r19 != 3) = false from h]
                have h3 : Tok.kind r19 = 3 := by simpa [Tok.kind] using h
                funext st
                unfold guardS
                by_cases hn : st.now = r19
                · rw [if_pos hn, if_pos ⟨hn, h3⟩]; rfl
                · rw [if_neg hn, if_neg (fun h => hn h.1)]
            · skip
              refine sim_draw [] (fun _ h => nomatch h) ?_
              refine sim_ldFq (b1 := .int .i64) _ (by repeat (first | exact mz | apply ms)) (by kernel_rfl) rfl rfl ?_
              refine sim_oplG (fun v => v = r19 ∧ Tok.kind r19 = 3) (next_m _) (fun _ h => nomatch h) (fun st b st' h1 h2 => ⟨by rw [nextS_eq h2, h1.1], h1.2⟩) fun r23 b hb => Sim.prop fun h => ?_
              subst h
              obtain ⟨rfl, hk⟩ := hb
              refine sim_vall (hR.num _ _ (hnum2.1 hk).1 (hnum2.1 hk).2) (fun _ h => nomatch h) ?_
              refine sim_made0l fun r25 => ?_
              (with_reducible repeat (first | refine sA ?_ | refine sB ?_ | refine sC ?_ | refine sD ?_ | refine sE ?_ | refine sF ?_))
              exact sim_ret1 (t := tP) _ rfl (fun F hF => hF _ (by repeat (first | exact mz | apply ms)))
          · skip
            refine sim_ldF (b1 := .int .i64) _ (by repeat (first | exact mz | apply ms)) (by kernel_rfl) rfl rfl ?_
            (with_reducible repeat (first | refine sA ?_ | refine sB ?_ | refine sC ?_ | refine sD ?_ | refine sE ?_ | refine sF ?_))
            (first | refine qA (fun h => ?_) fun h => ?_ | refine qB (fun h => ?_) fun h => ?_ | refine qC (fun h => ?_) fun h => ?_ | refine qD (fun h => ?_) fun h => ?_ | refine qE (fun h => ?_) fun h => ?_) -- ((r26 : Int) == 4)
            · skip
              (with_reducible repeat (first | refine sA ?_ | refine sB ?_ | refine sC ?_ | refine sD ?_ | refine sE ?_ | refine sF ?_))
              first | refine sim_op (next_m _) (fun _ h => nomatch h) fun r27 b => Sim.prop fun h => ?_ | refine sim_op1 (next_m _) (fun _ h => nomatch h) fun r27 b => Sim.prop fun h => ?_
              subst h
              refine sim_ldF (b1 := .str) _ (by repeat (first | exact mz | apply ms)) (by kernel_rfl) rfl rfl ?_
              refine sim_ldF (b1 := .int .i64) _ (by repeat (first | exact mz | apply ms)) (by kernel_rfl) rfl rfl ?_
              refine sim_made0 fun r30 => ?_
              (with_reducible repeat (first | refine sA ?_ | refine sB ?_ | refine sC ?_ | refine sD ?_ | refine sE ?_ | refine sF ?_))
              exact sim_ret1 (t := tP) _ rfl (fun F hF => hF _ (by repeat (first | exact mz | apply ms)))
            · skip
              (with_reducible repeat (first | refine sA ?_ | refine sB ?_ | refine sC ?_ | refine sD ?_ | refine sE ?_ | refine sF ?_))
              first | refine sim_op (is_m _ _) (fun _ h => nomatch h) fun r31 b => Sim.prop fun h => ?_ | refine sim_op1 (is_m _ _) (fun _ h => nomatch h) fun r31 b => Sim.prop fun h => ?_
              subst h
              (with_reducible repeat (first | refine sA ?_ | refine sB ?_ | refine sC ?_ | refine sD ?_ | refine sE ?_ | refine sF ?_))
              (first | refine qA (fun h => ?_) fun h => ?_ | refine qB (fun h => ?_) fun h => ?_ | refine qC (fun h => ?_) fun h => ?_ | refine qD (fun h => ?_) fun h => ?_ | refine qE (fun h => ?_) fun h => ?_) -- r31
              · skip
                (with_reducible repeat (first | refine sA ?_ | refine sB ?_ | refine sC ?_ | refine sD ?_ | refine sE ?_ | refine sF ?_))
                first | refine sim_op (objectType_m hR _) (fun _ h => nomatch h) fun r32 nr32 => ?_ | refine sim_op1 (objectType_m hR _) (fun _ h => nomatch h) fun r32 nr32 => ?_
                (with_reducible repeat (first | refine sA ?_ | refine sB ?_ | refine sC ?_ | refine sD ?_ | refine sE ?_ | refine sF ?_))
                exact sim_ret1 (t := tP) _ rfl (fun F hF => hF _ (by repeat (first | exact mz | apply ms)))
              · skip
                (with_reducible repeat (first | refine sA ?_ | refine sB ?_ | refine sC ?_ | refine sD ?_ | refine sE ?_ | refine sF ?_))
                first | refine sim_op (ref_m hR _) (fun _ h => nomatch h) fun r33 nr33 => ?_ | refine sim_op1 (ref_m hR _) (fun _ h => nomatch h) fun r33 nr33 => ?_
                (with_reducible repeat (first | refine sA ?_ | refine sB ?_ | refine sC ?_ | refine sD ?_ | refine sE ?_ | refine sF ?_))
                exact sim_ret1 (t := tP) _ rfl (fun F hF => hF _ (by repeat (first | exact mz | apply ms)))
theorem rows_m {R : PRec} (hR : PRecM R) (pb : Nat) : Meets PG (PI pb) (callS F_parser_rows #[.pointer (some (pAt pb))]) tP (rowsS R) NodeF [] := by
  refine c_parser_rows (pAt pb) ?_
  unfold t_parser_rows rowsS
  (with_reducible repeat (first | refine sA ?_ | refine sB ?_ | refine sC ?_ | refine sD ?_ | refine sE ?_ | refine sF ?_))
  first | refine sim_op (now_m _) (fun _ h => nomatch h) fun r1 b => Sim.prop fun h => ?_ | refine sim_op1 (now_m _) (fun _ h => nomatch h) fun r1 b => Sim.prop fun h => ?_
  subst h
  (with_reducible repeat (first | refine sA ?_ | refine sB ?_ | refine sC ?_ | refine sD ?_ | refine sE ?_ | refine sF ?_))
  first | refine sim_op (plain_m hR _) (fun _ h => nomatch h) fun r2 nr2 => ?_ | refine sim_op1 (plain_m hR _) (fun _ h => nomatch h) fun r2 nr2 => ?_
  refine sim_fuelN (arraysS (Tok.pos r1)) R.fuel _ (fun _ => rfl) rfl (by repeat (first | exact mz | apply ms)) fun k n x3 => ?_
  refine sim_joinBb ?_ fun x7 => ?_
  · skip
    (with_reducible repeat (first | refine sA ?_ | refine sB ?_ | refine sC ?_ | refine sD ?_ | refine sE ?_ | refine sF ?_))
    first | refine sim_op (is_m _ _) (fun _ h => nomatch h) fun r4 b => Sim.prop fun h => ?_ | refine sim_op1 (is_m _ _) (fun _ h => nomatch h) fun r4 b => Sim.prop fun h => ?_
    subst h
    (with_reducible repeat (first | refine sA ?_ | refine sB ?_ | refine sC ?_ | refine sD ?_ | refine sE ?_ | refine sF ?_))
    (first | refine qA (fun h => ?_) fun h => ?_ | refine qB (fun h => ?_) fun h => ?_ | refine qC (fun h => ?_) fun h => ?_ | refine qD (fun h => ?_) fun h => ?_ | refine qE (fun h => ?_) fun h => ?_) -- r4
    · skip
      (with_reducible repeat (first | refine sA ?_ | refine sB ?_ | refine sC ?_ | refine sD ?_ | refine sE ?_ | refine sF ?_))
      first | refine sim_op (then_m _ _ (by decide) (by decide)) (fun _ h => nomatch h) fun r5 b => Sim.prop fun h => ?_ | refine sim_op1 (then_m _ _ (by decide) (by decide)) (fun _ h => nomatch h) fun r5 b => Sim.prop fun h => ?_
      subst h
      refine sim_val (says_m _ _ _) (fun _ h => nomatch h) ?_
      exact sim_outB _ rfl rfl
    · skip
      exact sim_outB _ rfl rfl
  · skip
    (with_reducible repeat (first | refine sA ?_ | refine sB ?_ | refine sC ?_ | refine sD ?_ | refine sE ?_ | refine sF ?_))
    (first | refine qA (fun h => ?_) fun h => ?_ | refine qB (fun h => ?_) fun h => ?_ | refine qC (fun h => ?_) fun h => ?_ | refine qD (fun h => ?_) fun h => ?_ | refine qE (fun h => ?_) fun h => ?_) -- x7.1
    · skip
      (with_reducible repeat (first | refine sA ?_ | refine sB ?_ | refine sC ?_ | refine sD ?_ | refine sE ?_ | refine sF ?_))
      first | refine sim_op (next_m _) (fun _ h => nomatch h) fun r8 b => Sim.prop fun h => ?_ | refine sim_op1 (next_m _) (fun _ h => nomatch h) fun r8 b => Sim.prop fun h => ?_
      subst h
      (with_reducible repeat (first | refine sA ?_ | refine sB ?_ | refine sC ?_ | refine sD ?_ | refine sE ?_ | refine sF ?_))
      first | refine sim_op (next_m _) (fun _ h => nomatch h) fun r9 b => Sim.prop fun h => ?_ | refine sim_op1 (next_m _) (fun _ h => nomatch h) fun r9 b => Sim.prop fun h => ?_
      subst h
      refine sim_node [_] [_] rfl (by decide) (by decide) (by kernel_rfl) (fun F hF => (.cons _ _ _ _ (hF (NodeF _ _) (by repeat (first | exact mz | apply ms))) .nil)) fun r11 => ?_
      refine sim_outN _ rfl rfl (by repeat (first | exact mz | apply ms))
    · skip
      (with_reducible repeat (first | refine sA ?_ | refine sB ?_ | refine sC ?_ | refine sD ?_ | refine sE ?_ | refine sF ?_))
      exact sim_ret1 (t := tP) _ rfl (fun F hF => hF _ (by repeat (first | exact mz | apply ms)))
theorem typed_m {R : PRec} (hR : PRecM R) (pb : Nat) : Meets PG (PI pb) (callS F_parser_typed #[.pointer (some (pAt pb))]) tP (typedS R) NodeF [] := by
  refine c_parser_typed (pAt pb) ?_
  unfold t_parser_typed typedS
  (with_reducible repeat (first | refine sA ?_ | refine sB ?_ | refine sC ?_ | refine sD ?_ | refine sE ?_ | refine sF ?_))
  first | refine sim_op (now_m _) (fun _ h => nomatch h) fun r1 b => Sim.prop fun h => ?_ | refine sim_op1 (now_m _) (fun _ h => nomatch h) fun r1 b => Sim.prop fun h => ?_
  subst h
  (with_reducible repeat (first | refine sA ?_ | refine sB ?_ | refine sC ?_ | refine sD ?_ | refine sE ?_ | refine sF ?_))
  first | refine sim_op (take_m _ _) (fun _ h => nomatch h) fun r2 b => Sim.prop fun h => ?_ | refine sim_op1 (take_m _ _) (fun _ h => nomatch h) fun r2 b => Sim.prop fun h => ?_
  subst h
  (with_reducible repeat (first | refine sA ?_ | refine sB ?_ | refine sC ?_ | refine sD ?_ | refine sE ?_ | refine sF ?_))
  first | refine sim_op (rows_m hR _) (fun _ h => nomatch h) fun r3 nr3 => ?_ | refine sim_op1 (rows_m hR _) (fun _ h => nomatch h) fun r3 nr3 => ?_
  (with_reducible repeat (first | refine sA ?_ | refine sB ?_ | refine sC ?_ | refine sD ?_ | refine sE ?_ | refine sF ?_))
  first | refine sim_op (is_m _ _) (fun _ h => nomatch h) fun r4 b => Sim.prop fun h => ?_ | refine sim_op1 (is_m _ _) (fun _ h => nomatch h) fun r4 b => Sim.prop fun h => ?_
  subst h
  (with_reducible repeat (first | refine sA ?_ | refine sB ?_ | refine sC ?_ | refine sD ?_ | refine sE ?_ | refine sF ?_))
  (first | refine qA (fun h => ?_) fun h => ?_ | refine qB (fun h => ?_) fun h => ?_ | refine qC (fun h => ?_) fun h => ?_ | refine qD (fun h => ?_) fun h => ?_ | refine qE (fun h => ?_) fun h => ?_) -- (!r4)
  · skip
    (with_reducible repeat (first | refine sA ?_ | refine sB ?_ | refine sC ?_ | refine sD ?_ | refine sE ?_ | refine sF ?_))
    exact sim_ret1 (t := tP) _ rfl (fun F hF => hF _ (by repeat (first | exact mz | apply ms)))
  · skip
    refine sim_own [r3] [nr3] rfl (by decide) (by decide) (by kernel_rfl) (fun F hF => (.cons _ _ _ _ (hF (NodeF nr3 r3) (by repeat (first | exact mz | apply ms))) .nil)) fun r6 Kr6 => ?_
    refine sim_fuelO (unionS R) R.fuel _ (fun _ => rfl) rfl (by have := hR.fuel; simp [mkN, N.kids]; omega) (by repeat (first | exact mz | apply ms)) fun k n K hn => ?_
    (with_reducible repeat (first | refine sA ?_ | refine sB ?_ | refine sC ?_ | refine sD ?_ | refine sE ?_ | refine sF ?_))
    first | refine sim_op (take_m _ _) (fun _ h => nomatch h) fun r8 b => Sim.prop fun h => ?_ | refine sim_op1 (take_m _ _) (fun _ h => nomatch h) fun r8 b => Sim.prop fun h => ?_
    subst h
    (with_reducible repeat (first | refine sA ?_ | refine sB ?_ | refine sC ?_ | refine sD ?_ | refine sE ?_ | refine sF ?_))
    (first | refine qA (fun h => ?_) fun h => ?_ | refine qB (fun h => ?_) fun h => ?_ | refine qC (fun h => ?_) fun h => ?_ | refine qD (fun h => ?_) fun h => ?_ | refine qE (fun h => ?_) fun h => ?_) -- r8
    · skip
      refine sim_growM (by repeat (first | exact mz | apply ms)) fun b sl ps K2 hx hb => ?_
      (with_reducible repeat (first | refine sA ?_ | refine sB ?_ | refine sC ?_ | refine sD ?_ | refine sE ?_ | refine sF ?_))
      refine sim_opl (rows_m hR _) (fun _ h => nomatch h) fun r11 nr11 => ?_
      subst hx
      refine sim_push hb (by repeat (first | exact mz | apply ms)) (by repeat (first | exact mz | apply ms)) (by omega) fun K => ?_
      refine sim_outO _ rfl rfl (by simp [N.push_len] at hn ⊢; omega) (by repeat (first | exact mz | apply ms))
    · skip
      refine sim_doneM (n := _) (x := r6) (by repeat (first | exact mz | apply ms)) ?_
      (with_reducible repeat (first | refine sA ?_ | refine sB ?_ | refine sC ?_ | refine sD ?_ | refine sE ?_ | refine sF ?_))
      exact sim_ret1 (t := tP) _ rfl (fun F hF => hF _ (by repeat (first | exact mz | apply ms)))
end Go.Proofs.YtjlgcpgjdgeejaaGreatDoor
end

/- The trees of functions of the program, each with the proof that it is the tree of the translated code. Conditions: none. By program. -/
section
namespace Go.Proofs.YtjlgcpgjdgeejaaGreatDoor
open Go
set_option linter.unusedVariables false
set_option maxRecDepth 100000
noncomputable section
def an_parser_calls_1 : An :=
  .b (.s (.r [some tB]) (.c (.r [none]) (.s (.r [some (.tup [.agg [.int .i64], .b .bool]), none, none]) (.c (.s (.r [some tA, some tU]) (.r [some tU])) (.s (.r [none]) (.r [none, some tU]))))))
def t_parser_calls_1 (a0 : Addr) (v : Value) : T :=
 .op (binNS .eql T_interface v .nilIface) tB fun r1 =>
 .ite r1 (
 .out 0 []) (
 .op (asS v T_interface T_syntax_refused true) (.tup [.agg [.int .i64], .b .bool]) fun r2 =>
 .ite r2.2.1 (
 .op (allocS T_syntax_refused) tA fun r3 =>
 .op (stS T_syntax_refused (.pointer (some r3)) (.agg #[.int .i64 r2.1.1])) tU fun _ =>
 .op (stS T_bool (.pointer (some a0)) (.bool false)) tU fun _ =>
 .out 0 []) (
 .op (panicS v) tU fun _ =>
 .out 0 []))
theorem d_parser_calls_1 (a0 : Addr) (v : Value) : den Tryz.prog (NN.of 10) #[] (bodyOf Tryz.f266).rgt an_parser_calls_1 1 ((startE [.pointer (some a0)]).putE 4 (.v v)) (fun _ => .out 0 []) (fun ex _ => match ex with | .ret => .out 0 [] | _ => .bad) = t_parser_calls_1 a0 v := by kernel_rfl
theorem cS_parser_calls_1 (a0 : Addr) {w : World} {u u' : FrameMode} {v : Value} {Post : World → Prop} (hm : (u = .returning ∧ v = .nilIface ∧ u' = .returning) ∨ ∃ older, u = .panicking ({ v := v, recovered := false } :: older) ∧ u' = .panicking ({ v := v, recovered := true } :: older))
    (h : (t_parser_calls_1 a0 v).wp Tryz.prog (fun _ => True) (fun _ _ w' => Post w') (fun _ _ => False) w) : CallsD Tryz.prog 266 #[.pointer (some a0)] u w fun e u2 w' => e = .returned (.tuple #[]) ∧ u2 = u' ∧ Post w' := by
  refine fnS_sound (caps := [.pointer (some a0)]) (c := (bodyOf Tryz.f266).rgt) (t := 4) (an := an_parser_calls_1) Tryz.func266 rfl rfl rfl rfl rfl (Nat.le_of_ble_eq_true rfl) (Nat.le_of_ble_eq_true rfl) hm ?_
  have e := d_parser_calls_1 a0 v
  exact e ▸ h

def an1_parser_calls : An :=
  .r [some tA]
def an2_parser_calls : An :=
  .r [none, none, some (.c (.agg [.slice, .int .i64, .int .i64, .str, .int .i64, .int .i64, .bool])), some tA, some tU]
def an3_parser_calls : An :=
  .s (.r [some tP]) (.s (.r [some tB, some tU]) (.x))
def t1_parser_calls (a0_p : Addr) : T :=
  .op (allocS T_bool) tA fun r1 =>
  .op (ldS T_syntax_parser (.pointer (some a0_p))) (.c (.agg [.slice, .int .i64, .int .i64, .str, .int .i64, .int .i64, .bool])) fun r2 =>
  .op (allocS T_syntax_parser) tA fun r3 =>
  .op (stS T_syntax_parser (.pointer (some r3)) (.agg #[.slice r2.1.1 r2.1.2.1 r2.1.2.2, .int .i64 r2.2.1, .int .i64 r2.2.2.1, .string r2.2.2.2.1, .int .i64 r2.2.2.2.2.1, .int .i64 r2.2.2.2.2.2.1, .bool r2.2.2.2.2.2.2.1])) tU fun _ =>
  .out 0 [.pointer (some r1), .pointer (some r3)]
def t3_parser_calls (s2 : Addr) (s3 : Addr) : T :=
  .op (callS F_parser_args #[.pointer (some s3)]) tP fun r5 =>
  .op (callS F_parser_is #[.pointer (some s3), .string k_lp]) tB fun r6 =>
  .op (stS T_bool (.pointer (some s2)) (.bool r6)) tU fun _ =>
  .out 0 []
theorem d1_parser_calls (a0_p : Addr) : den Tryz.prog (NN.of 10) #[] (bodyOf Tryz.f258).lft an1_parser_calls 1 (startE [.pointer (some a0_p)]) (fun e => den Tryz.prog (NN.of 10) #[] (bodyOf Tryz.f258).rgt.lft an2_parser_calls 1 e (outT 0 [2, 3]) (fun _ _ => .bad)) (fun _ _ => .bad) = t1_parser_calls a0_p := by kernel_rfl
theorem d3_parser_calls (s2 : Addr) (s3 : Addr) (D : List Deferred) (K : Nat → Value) : den Tryz.prog ⟨3, 10, D, K, none⟩ #[] (bodyOf Tryz.f258).rgt.rgt.rgt an3_parser_calls 1 (Env.puts (fun _ => none) [2, 3] [.pointer (some s2), .pointer (some s3)]) (fun _ => .out 0 []) (fun ex _ => match ex with | .ret => .out 0 [] | _ => .bad) = t3_parser_calls s2 s3 := by kernel_rfl
theorem cD_parser_calls (a0_p : Addr) {w : World} {R : Ending → World → Prop} {Mid : List Value → World → Prop} (hsh : ∀ vs w', Mid vs w' → ∃ (s2 : Addr) (s3 : Addr), vs = [.pointer (some s2), .pointer (some s3)])
    (h1 : (t1_parser_calls a0_p).wp Tryz.prog (fun _ => True) (fun _ vs w' => Mid vs w') (fun _ _ => False) w)
    (h2 : ∀ (s2 : Addr) (s3 : Addr) w', Mid [.pointer (some s2), .pointer (some s3)] w' → (t3_parser_calls s2 s3).wp Tryz.prog (fun _ => True) (fun _ _ w'' => LeaveD Tryz.prog 266 #[.pointer (some s2)] #[.c (.pointer (some s2)) T_bool] R .returning w'') (fun en w'' => match en with | .panicked c => LeaveD Tryz.prog 266 #[.pointer (some s2)] #[.c (.pointer (some s2)) T_bool] R (.panicking c) w'' | _ => False) w') :
    Calls Tryz.prog F_parser_calls #[.pointer (some a0_p)] w R := by
  refine fnD_sound (args := [.pointer (some a0_p)]) (c1 := (bodyOf Tryz.f258).lft) (c2 := (bodyOf Tryz.f258).rgt.lft) (c3 := (bodyOf Tryz.f258).rgt.rgt.rgt) (lo := 3) (slots := [2, 3]) (t := 7) (an1 := an1_parser_calls) (an2 := an2_parser_calls) (an3 := an3_parser_calls) (Mid := Mid) Tryz.func258 Tryz.func266 rfl rfl rfl rfl rfl rfl rfl rfl rfl (Nat.le_of_ble_eq_true rfl) (by decide) (Nat.le_of_ble_eq_true rfl) (by kernel_rfl) (by kernel_rfl) ?_ ?_
  · have e := d1_parser_calls a0_p
    exact e ▸ h1
  · rintro vs w' hM ⟨lo, hi, D, K, rd⟩ hlo hhi hrd
    obtain ⟨s2, s3, rfl⟩ := hsh vs w' hM
    obtain rfl : lo = 3 := hlo
    obtain rfl : hi = 10 := hhi
    obtain rfl : rd = none := hrd
    have e := d3_parser_calls s2 s3 D K
    have ec : Array.map (Env.at (Env.puts (fun _ => none) [2, 3] [.pointer (some s2), .pointer (some s3)])) #[Operand.tmp 2] = #[.pointer (some s2)] := by kernel_rfl
    have er : Array.map (rvOf (Env.puts (fun _ => none) [2, 3] [.pointer (some s2), .pointer (some s3)])) Tryz.f258.results = #[.c (.pointer (some s2)) T_bool] := by kernel_rfl
    rw [ec, er]
    exact e ▸ h2 s2 s3 w' hM

def an_syntax_Run_1 : An :=
  .b (.s (.r [some tB]) (.c (.r [none]) (.s (.r [some (.tup [.agg [.int .i64], .b .bool]), none, none]) (.c (.s (.r [some tA, some tU]) (.d (.q 0 none (.q 1 none (.q 2 (some tI) (.l 3 (some tU) (.l 4 (some tU) (.l 5 (some tU) (.e))))))))) (.s (.r [none]) (.r [none, some tU]))))))
def t_syntax_Run_1 (a0 : Addr) (a1 : Addr) (a2 : Addr) (v : Value) : T :=
 .op (binNS .eql T_interface v .nilIface) tB fun r1 =>
 .ite r1 (
 .out 0 []) (
 .op (asS v T_interface T_syntax_refused true) (.tup [.agg [.int .i64], .b .bool]) fun r2 =>
 .ite r2.2.1 (
 .op (allocS T_syntax_refused) tA fun r3 =>
 .op (stS T_syntax_refused (.pointer (some r3)) (.agg #[.int .i64 r2.1.1])) tU fun _ =>
 .draw <|
 .opq (ldS T_int (.pointer (some r3))) tI fun r5 =>
 .opl (stS T_api_Tree (.pointer (some a0)) (.agg #[.slice none 0 0])) tU fun _ =>
 .op (stS T_int (.pointer (some a1)) (.int .i64 r5)) tU fun _ =>
 .op (stS T_bool (.pointer (some a2)) (.bool false)) tU fun _ =>
 .out 0 []) (
 .op (panicS v) tU fun _ =>
 .out 0 []))
theorem d_syntax_Run_1 (a0 : Addr) (a1 : Addr) (a2 : Addr) (v : Value) : den Tryz.prog (NN.of 15) #[] (bodyOf Tryz.f83).rgt an_syntax_Run_1 1 ((startE [.pointer (some a0), .pointer (some a1), .pointer (some a2)]).putE 6 (.v v)) (fun _ => .out 0 []) (fun ex _ => match ex with | .ret => .out 0 [] | _ => .bad) = t_syntax_Run_1 a0 a1 a2 v := by kernel_rfl
theorem cS_syntax_Run_1 (a0 : Addr) (a1 : Addr) (a2 : Addr) {w : World} {u u' : FrameMode} {v : Value} {Post : World → Prop} (hm : (u = .returning ∧ v = .nilIface ∧ u' = .returning) ∨ ∃ older, u = .panicking ({ v := v, recovered := false } :: older) ∧ u' = .panicking ({ v := v, recovered := true } :: older))
    (h : (t_syntax_Run_1 a0 a1 a2 v).wp Tryz.prog (fun _ => True) (fun _ _ w' => Post w') (fun _ _ => False) w) : CallsD Tryz.prog 83 #[.pointer (some a0), .pointer (some a1), .pointer (some a2)] u w fun e u2 w' => e = .returned (.tuple #[]) ∧ u2 = u' ∧ Post w' := by
  refine fnS_sound (caps := [.pointer (some a0), .pointer (some a1), .pointer (some a2)]) (c := (bodyOf Tryz.f83).rgt) (t := 6) (an := an_syntax_Run_1) Tryz.func83 rfl rfl rfl rfl rfl (Nat.le_of_ble_eq_true rfl) (Nat.le_of_ble_eq_true rfl) hm ?_
  have e := d_syntax_Run_1 a0 a1 a2 v
  exact e ▸ h

def an1_syntax_Run : An :=
  .r [some tA, some tA, some tA]
def an2_syntax_Run : An :=
  .r [none, none, some tA, none]
def an3_syntax_Run : An :=
  .s (.r [none]) (.s (.s (.r [none]) (.j [(8, .b .ptr)] (.b (.s (.r [none, none]) (.c (.s (.r [some tP, none]) (.b (.l [] (.s (.s (.r [none, some (.c (.agg [.int .i64, .str, .int .i64, .int .i64])), none, none]) (.c (.x) (.x))) (.b (.d (.q 0 none (.q 1 none (.q 2 (some tA) (.q 3 none (.q 4 (some tSl) (.q 5 none (.l 6 (some tP) (.l 7 (some tSl) (.l 8 (some tSl) (.q 9 (some tA) (.q 10 none (.l 11 (some tU) (.e))))))))))))))))))) (.s (.r [none, none]) (.c (.r [none, some tP, none]) (.s (.r [none, none]) (.c (.r [none, some tP, none]) (.x)))))))))) (.s (.s (.r [none, some (.c (.agg [.int .i64, .str, .int .i64, .int .i64])), none, none]) (.j [] (.c (.r [none, some tU]) (.x)))) (.s (.r [none, some (.c (.agg [.slice])), some tU, some tU, some tU]) (.x))))
def t1_syntax_Run (a0_l : Option Addr × Nat × Nat) (a1_whole : Int) : T :=
  .op (allocS T_api_Tree) tA fun r1 =>
  .op (allocS T_int) tA fun r2 =>
  .op (allocS T_bool) tA fun r3 =>
  .op (boxS T_syntax_parser (.agg #[.slice a0_l.1 a0_l.2.1 a0_l.2.2, .int .i64 0, .int .i64 0, .string kE, .int .i64 0, .int .i64 0, .bool false])) tA fun r4 =>
  .out 0 [.int .i64 a1_whole, .pointer (some r1), .pointer (some r2), .pointer (some r3), .pointer (some r4)]
def t3_syntax_Run (s1 : Int) (s4 : Addr) (s5 : Addr) (s6 : Addr) (s7 : Option Addr) : T :=
  .join 1 [.b .ptr] (
    .ite ((s1 : Int) == 0) (
      .op (callS F_syntax_made #[.int .i64 3, .string kE, .int .i64 0, .int .i64 0, .slice none 0 0]) tP fun r5 =>
      .loop 2 [] [] fun x6 =>
        .op (callS F_parser_now #[.pointer s7]) (.c (.agg [.int .i64, .str, .int .i64, .int .i64])) fun r7 =>
        .ite ((r7.1 : Int) != 10) (
          .draw <|
          .opq (nilS (.pointer r5)) tA fun r8 =>
          .opq (ldS T_SPsyntax_node (.pointer (some ⟨r8.block, r8.off + 5, none⟩))) tSl fun r9 =>
          .opl (callS F_parser_statement #[.pointer s7]) tP fun r10 =>
          .opl (sliceS T_SPsyntax_node 1 #[(0, .pointer r10)]) tSl fun r11 =>
          .opl (appS #[T_SPsyntax_node, T_SPsyntax_node] T_SPsyntax_node #[.slice r9.1 r9.2.1 r9.2.2, .slice r11.1 r11.2.1 r11.2.2]) tSl fun r12 =>
          .opq (nilS (.pointer r5)) tA fun r13 =>
          .op (stS T_SPsyntax_node (.pointer (some ⟨r13.block, r13.off + 5, none⟩)) (.slice r12.1 r12.2.1 r12.2.2)) tU fun _ =>
          .out 2 []) (
          .out 1 [.pointer r5])) (
      .ite ((s1 : Int) == 1) (
        .op (callS F_parser_expr #[.pointer s7]) tP fun r15 =>
        .out 1 [.pointer r15]) (
        .ite ((s1 : Int) == 2) (
          .op (callS F_parser_typed #[.pointer s7]) tP fun r16 =>
          .out 1 [.pointer r16]) (
          .out 1 [.pointer none])))) fun x17 =>
  .op (callS F_parser_now #[.pointer s7]) (.c (.agg [.int .i64, .str, .int .i64, .int .i64])) fun r18 =>
  .join 1 [] (
    .ite ((r18.1 : Int) != 10) (
      .op (callS F_parser_fail #[.pointer s7]) tU fun _ =>
      .out 1 []) (
      .out 1 [])) fun x20 =>
  .op (callS F_syntax_laid #[.pointer x17.1]) (.c (.agg [.slice])) fun r21 =>
  .op (stS T_api_Tree (.pointer (some s4)) (.agg #[.slice r21.1.1 r21.1.2.1 r21.1.2.2])) tU fun _ =>
  .op (stS T_int (.pointer (some s5)) (.int .i64 0)) tU fun _ =>
  .op (stS T_bool (.pointer (some s6)) (.bool true)) tU fun _ =>
  .out 0 []
theorem d1_syntax_Run (a0_l : Option Addr × Nat × Nat) (a1_whole : Int) : den Tryz.prog (NN.of 48) #[] (bodyOf Tryz.f53).lft an1_syntax_Run 1 (startE [.slice a0_l.1 a0_l.2.1 a0_l.2.2, .int .i64 a1_whole]) (fun e => den Tryz.prog (NN.of 48) #[] (bodyOf Tryz.f53).rgt.lft an2_syntax_Run 1 e (outT 0 [1, 4, 5, 6, 7]) (fun _ _ => .bad)) (fun _ _ => .bad) = t1_syntax_Run a0_l a1_whole := by kernel_rfl
theorem d3_syntax_Run (s1 : Int) (s4 : Addr) (s5 : Addr) (s6 : Addr) (s7 : Option Addr) (D : List Deferred) (K : Nat → Value) : den Tryz.prog ⟨7, 48, D, K, none⟩ #[] (bodyOf Tryz.f53).rgt.rgt.rgt an3_syntax_Run 1 (Env.puts (fun _ => none) [1, 4, 5, 6, 7] [.int .i64 s1, .pointer (some s4), .pointer (some s5), .pointer (some s6), .pointer s7]) (fun _ => .out 0 []) (fun ex _ => match ex with | .ret => .out 0 [] | _ => .bad) = t3_syntax_Run s1 s4 s5 s6 s7 := by kernel_rfl
theorem cD_syntax_Run (a0_l : Option Addr × Nat × Nat) (a1_whole : Int) {w : World} {R : Ending → World → Prop} {Mid : List Value → World → Prop} (hsh : ∀ vs w', Mid vs w' → ∃ (s1 : Int) (s4 : Addr) (s5 : Addr) (s6 : Addr) (s7 : Option Addr), vs = [.int .i64 s1, .pointer (some s4), .pointer (some s5), .pointer (some s6), .pointer s7])
    (h1 : (t1_syntax_Run a0_l a1_whole).wp Tryz.prog (fun _ => True) (fun _ vs w' => Mid vs w') (fun _ _ => False) w)
    (h2 : ∀ (s1 : Int) (s4 : Addr) (s5 : Addr) (s6 : Addr) (s7 : Option Addr) w', Mid [.int .i64 s1, .pointer (some s4), .pointer (some s5), .pointer (some s6), .pointer s7] w' → (t3_syntax_Run s1 s4 s5 s6 s7).wp Tryz.prog (fun _ => True) (fun _ _ w'' => LeaveD Tryz.prog 83 #[.pointer (some s4), .pointer (some s5), .pointer (some s6)] #[.c (.pointer (some s4)) T_api_Tree, .c (.pointer (some s5)) T_int, .c (.pointer (some s6)) T_bool] R .returning w'') (fun en w'' => match en with | .panicked c => LeaveD Tryz.prog 83 #[.pointer (some s4), .pointer (some s5), .pointer (some s6)] #[.c (.pointer (some s4)) T_api_Tree, .c (.pointer (some s5)) T_int, .c (.pointer (some s6)) T_bool] R (.panicking c) w'' | _ => False) w') :
    Calls Tryz.prog F_syntax_Run #[.slice a0_l.1 a0_l.2.1 a0_l.2.2, .int .i64 a1_whole] w R := by
  refine fnD_sound (args := [.slice a0_l.1 a0_l.2.1 a0_l.2.2, .int .i64 a1_whole]) (c1 := (bodyOf Tryz.f53).lft) (c2 := (bodyOf Tryz.f53).rgt.lft) (c3 := (bodyOf Tryz.f53).rgt.rgt.rgt) (lo := 7) (slots := [1, 4, 5, 6, 7]) (t := 12) (an1 := an1_syntax_Run) (an2 := an2_syntax_Run) (an3 := an3_syntax_Run) (Mid := Mid) Tryz.func53 Tryz.func83 rfl rfl rfl rfl rfl rfl rfl rfl rfl (Nat.le_of_ble_eq_true rfl) (by decide) (Nat.le_of_ble_eq_true rfl) (by kernel_rfl) (by kernel_rfl) ?_ ?_
  · have e := d1_syntax_Run a0_l a1_whole
    exact e ▸ h1
  · rintro vs w' hM ⟨lo, hi, D, K, rd⟩ hlo hhi hrd
    obtain ⟨s1, s4, s5, s6, s7, rfl⟩ := hsh vs w' hM
    obtain rfl : lo = 7 := hlo
    obtain rfl : hi = 48 := hhi
    obtain rfl : rd = none := hrd
    have e := d3_syntax_Run s1 s4 s5 s6 s7 D K
    have ec : Array.map (Env.at (Env.puts (fun _ => none) [1, 4, 5, 6, 7] [.int .i64 s1, .pointer (some s4), .pointer (some s5), .pointer (some s6), .pointer s7])) #[Operand.tmp 4, Operand.tmp 5, Operand.tmp 6] = #[.pointer (some s4), .pointer (some s5), .pointer (some s6)] := by kernel_rfl
    have er : Array.map (rvOf (Env.puts (fun _ => none) [1, 4, 5, 6, 7] [.int .i64 s1, .pointer (some s4), .pointer (some s5), .pointer (some s6), .pointer s7])) Tryz.f53.results = #[.c (.pointer (some s4)) T_api_Tree, .c (.pointer (some s5)) T_int, .c (.pointer (some s6)) T_bool] := by kernel_rfl
    rw [ec, er]
    exact e ▸ h2 s1 s4 s5 s6 s7 w' hM
end
end Go.Proofs.YtjlgcpgjdgeejaaGreatDoor
end

/- Whether a list of type arguments and a bracket stand there: the parser tries it on a copy of itself, and catches its failure. Conditions: none. -/
section
namespace Go.Proofs.YtjlgcpgjdgeejaaGreatDoor
open Go
set_option linter.unusedSimpArgs false
set_option linter.unusedVariables false
set_option linter.constructorNameAsVariable false
set_option maxRecDepth 100000

def lbEnd (J : List Value → Own → Fact) : Label Unit Unit Empty := { ι := Unit, sp := fun _ _ => some (.err ()), J := fun _ vs L' => J vs L' }
abbrev AtEnd (P : Program) (J : List Value → Own → Fact) (q : Option Quiet) (m : T) (L : Own) (Γ : List Fact) : Prop :=
  SimAt P (I0 : Ifc Unit Unit) tU (fun (b : Empty) _ _ => b.elim) ((noLabel : Labels Unit Unit Empty).set 0 (lbEnd J)) q m (some (.err ())) L Γ
theorem wp_of_at {P : Program} {m : T} {J : List Value → Own → Fact} {L : Own} {Γ : List Fact} {r : Rest} {w : World} {F : Heap} {Post : List Value → World → Prop} (h : AtEnd P J none m L Γ) (hΓ : Holds Γ F) (hsp : Split r w L F)
    (hP : ∀ vs L' F' w', F.le F' → (J vs L').p F' → Split r w' L' F' → Post vs w') : m.wp P (fun _ => True) (fun _ vs w' => Post vs w') (fun _ _ => False) w := by
  refine T.wp_mono m ?_ ?_ (h r w F (.err ()) (fun _ => True) rfl hΓ hsp trivial)
  · intro l vs w' ho
    by_cases hl : l = 0
    · subst hl
      obtain ⟨i, L', F', H', st', h1, h2, h3, h4, h5⟩ := ho
      have hH : H' = [] := h4
      subst hH
      exact hP vs L' F' w' h1 h3 h5
    · simp only [Labels.set, if_neg hl, noLabel] at ho
      obtain ⟨i, _⟩ := ho
      exact i.elim
  · rintro e w' ⟨F', hle, c, hc, he, hS⟩
    exact he
theorem at_drop {ε σ β : Type} {P : Program} {I : Ifc ε σ} {t : Ty} {Rel : β → t.den → Own → Fact} {Δ : Labels ε σ β} {q : Option Quiet} {L L' : Own} {Γ : List Fact} {m : T} {run : Option (Res ε σ β)} (hs : L'.Sublist L) (h : SimAt P I t Rel Δ none m run L' Γ) : SimAt P I t Rel Δ q m run L Γ :=
  fun r w F res S hs' hF hsp hq => h r w F res S hs' hF (hsp.sub hs) trivial
theorem at_end {P : Program} {J : List Value → Own → Fact} {q : Option Quiet} {vs : List Value} {L : Own} {Γ : List Fact} (h : ∀ F, Holds Γ F → (J vs L).p F) : AtEnd P J q (.out 0 vs) L Γ := by
  have := at_out (P := P) (I := (I0 : Ifc Unit Unit)) (t := tU) (Rel := fun (b : Empty) _ _ => b.elim) (Δ := (noLabel : Labels Unit Unit Empty).set 0 (lbEnd J)) (q := q) (L := L) (Γ := Γ) (vs := vs) (l := 0) (run := some (.err ())) (x := lbEnd J) (st := ()) (H := []) rfl () rfl h (fun _ _ => rfl)
  exact this

def notIface (P : Program) (t : TypeId) : Bool := match P.underlying t with
  | some (.interface _) => false
  | some _ => true
  | none => false
theorem run_as {P : Program} {t xt : TypeId} {v : Value} (ht : notIface P t = true) (w : World) : (asS (.iface t v) xt t true).run P w = .ok (.value (.tuple #[v, .bool true])) w := by
  unfold notIface at ht
  split at ht
  · cases ht
  · rename_i d hd hu
    have : (Instr.typeAssert (.iface t v) xt t true).run P w = .ok (.tuple #[v, .bool true]) w := by
      unfold Instr.typeAssert
      rw [Sem.run_bind, run_underlying hu, Result.andThen_ok]
      cases d <;> first | (exact absurd rfl (hd _)) | simp
    simp [asS, valS, this]
  · cases ht
def isIface (P : Program) (t : TypeId) : Bool := match P.underlying t with
  | some (.interface _) => true
  | _ => false
theorem isIface_spec {P : Program} {t : TypeId} (h : isIface P t = true) : ∃ ms, P.underlying t = some (.interface ms) := by
  unfold isIface at h
  split at h
  · exact ⟨_, by assumption⟩
  · cases h
theorem run_isNil0 {P : Program} {t : TypeId} (ht : isIface P t = true) (w : World) : (binNS .eql t .nilIface .nilIface).run P w = .ok (.value (.bool true)) w := by
  obtain ⟨ms, hu⟩ := isIface_spec ht
  have h : (Op.equal t .nilIface .nilIface).run P w = .ok true w := by
    unfold Op.equal
    rw [show Op.maxDepth = 9999 + 1 from rfl, Op.equalIn]
    rw [Sem.run_bind, run_underlying hu, Result.andThen_ok]; rfl
  simp [binNS, valS, eqGuard, binOp, h]
theorem run_isNil1 {P : Program} {t t1 : TypeId} {v : Value} (ht : isIface P t = true) (w : World) : (binNS .eql t (.iface t1 v) .nilIface).run P w = .ok (.value (.bool false)) w := by
  obtain ⟨ms, hu⟩ := isIface_spec ht
  have h : (Op.equal t (.iface t1 v) .nilIface).run P w = .ok false w := by
    unfold Op.equal
    rw [show Op.maxDepth = 9999 + 1 from rfl, Op.equalIn]
    rw [Sem.run_bind, run_underlying hu, Result.andThen_ok]; rfl
  simp [binNS, valS, eqGuard, binOp, h]
theorem calls_idle (b2 : Nat) (w : World) : CallsD PG 266 #[.pointer (some (pAt b2))] .returning w fun e u2 w' => e = .returned (.tuple #[]) ∧ u2 = .returning ∧ w' = w := by
  refine cS_parser_calls_1 (pAt b2) (Post := fun w' => w' = w) (.inl ⟨rfl, rfl, rfl⟩) ?_
  unfold t_parser_calls_1
  simp only [T.wp, run_isNil0 (P := PG) (t := T_interface) (by kernel_rfl), upon]
  exact ⟨true, rfl, fun _ => trivial, fun h => by cases h⟩
theorem calls_caught {r : Rest} {w : World} {L : Own} {F : Heap} (b2 : Nat) (y : Int) (x : Bool) (hsp : Split r w ((b2, blk T_bool [.bool x]) :: L) F) :
    CallsD PG 266 #[.pointer (some (pAt b2))] (.panicking [{ v := .iface T_syntax_refused (.agg #[.int .i64 y]), recovered := false }]) w fun e u2 w' =>
      e = .returned (.tuple #[]) ∧ u2 = .panicking [{ v := .iface T_syntax_refused (.agg #[.int .i64 y]), recovered := true }] ∧ ∃ F', F.le F' ∧ Split r w' ((b2, blk T_bool [.bool false]) :: L) F' := by
  refine cS_parser_calls_1 (pAt b2) (Post := fun w' => ∃ F', F.le F' ∧ Split r w' ((b2, blk T_bool [.bool false]) :: L) F') (.inr ⟨[], rfl, rfl⟩) ?_
  unfold t_parser_calls_1
  refine wp_of_at (J := fun vs L' => Fact.prop (L' = (b2, blk T_bool [.bool false]) :: L)) (Γ := []) ?_ (fun _ h => nomatch h) hsp (fun vs L' F' w' hle hJ hS => ⟨F', hle, (show L' = _ from hJ) ▸ hS⟩)
  refine at_loc (loc_pure (t1 := tB) false fun w => run_isNil1 (by kernel_rfl) w) ?_
  rintro _ _ _ ⟨rfl, rfl, rfl⟩
  refine at_ite (fun h => by cases h) (fun _ => ?_)
  refine at_loc (loc_pure (t1 := .tup [.agg [.int .i64], .b .bool]) ((y, ()), true, ()) fun w => run_as (by kernel_rfl) w) ?_
  rintro _ _ _ ⟨rfl, rfl, rfl⟩
  refine at_ite (fun _ => ?_) (fun h => by cases h)
  refine at_loc (loc_alloc (z := [.int .i64 0]) (by kernel_rfl)) ?_
  rintro _ _ _ ⟨b3, rfl, rfl, rfl⟩
  refine at_loc (loc_st (L1 := []) (T := T_syntax_refused) (c := true) rfl (by kernel_rfl) rfl (Nat.le_of_ble_eq_true rfl) (by simp [Value.cells, Value.oneCell'])) ?_
  rintro _ _ _ ⟨rfl, rfl⟩
  refine at_loc (loc_st (L1 := [_]) (T := T_bool) (c := false) rfl (by kernel_rfl) rfl (Nat.le_of_ble_eq_true rfl) (by simp [Value.cells, Value.oneCell'])) ?_
  rintro _ _ _ ⟨rfl, rfl⟩
  exact at_drop (L' := (b2, blk T_bool [.bool false]) :: L) (List.sublist_cons_self ..) (at_end fun F hF => rfl)
theorem split_app {r : Rest} {w : World} {L : Own} {F : Heap} (h : Split r w L F) : Split r w (L ++ []) F := by rw [List.append_nil]; exact h
theorem callsS_eq (R : PRec) (st : PSt) : callsS R st = match (argsS R >>= fun _ => isS k_lp) st with | none => none | some (.err _) => some (Res.ok false st) | some (.ok b _) => some (Res.ok b st) := rfl
theorem calls_m {R : PRec} (hR : PRecM R) (pb : Nat) : Meets PG (PI pb) (callS F_parser_calls #[.pointer (some (pAt pb))]) tB (callsS R) RelEq [] := by
  intro r w F H st res hs hΓ hi hsp
  obtain ⟨sl, T0, ⟨hH, hok⟩, hsl⟩ := hi
  subst hH
  rw [run_callS Tryz.func258 rfl rfl]
  refine Calls.mono (cD_parser_calls (pAt pb) (Mid := fun vs w' => ∃ b2 b3 F', F.le F' ∧ vs = [.pointer (some (pAt b2)), .pointer (some (pAt b3))] ∧ Split r w' [(b3, blk T_syntax_parser (parCells sl st)), (b2, blk T_bool [.bool false]), (pb, blk T0 (parCells sl st))] F')
    (R := fun e w' => match e with | .returned v => Ends (PI pb) tB (pl RelEq) r F res (.returned v) w' | .panicked c => Ends (PI pb) tB (pl RelEq) r F res (.panicked c) w' | .outgrown => False) ?_ ?_ ?_) (fun e w' h => by cases e <;> exact h)
  · rintro vs w' ⟨b2, b3, F', _, rfl, _⟩; exact ⟨_, _, rfl⟩
  · -- the copy
    unfold t1_parser_calls
    refine wp_of_at (J := fun vs L' => Fact.ex fun b2 : Nat => Fact.ex fun b3 : Nat => Fact.prop (vs = [.pointer (some (pAt b2)), .pointer (some (pAt b3))] ∧ L' = [(b3, blk T_syntax_parser (parCells sl st)), (b2, blk T_bool [.bool false]), (pb, blk T0 (parCells sl st))])) (Γ := [Sl 4 encTok sl st.l]) (L := [(pb, blk T0 (parCells sl st))]) ?_ (Holds.cons hsl fun _ h => nomatch h) hsp ?_
    · refine at_loc (loc_alloc (z := [.bool false]) (by kernel_rfl)) ?_
      rintro _ _ _ ⟨b2, rfl, rfl, rfl⟩
      refine at_loc (loc_ldA (bs := [.slice, .int .i64, .int .i64, .str, .int .i64, .int .i64, .bool]) (x := (sl, (st.i : Int), st.left.1, st.left.2.1, st.left.2.2.1, st.left.2.2.2.1, st.split, ())) (Rd.own (List.mem_cons_of_mem _ (List.mem_cons_self ..))) (by kernel_rfl) rfl rfl) ?_
      rintro _ _ _ ⟨rfl, rfl, rfl⟩
      refine at_loc (loc_alloc (z := [.slice none 0 0, .int .i64 0, .int .i64 0, .string kE, .int .i64 0, .int .i64 0, .bool false]) (by kernel_rfl)) ?_
      rintro _ _ _ ⟨b3, rfl, rfl, rfl⟩
      refine at_loc (loc_st (L1 := []) (T := T_syntax_parser) (c := true) rfl (by kernel_rfl) rfl (Nat.le_of_ble_eq_true rfl) (by simp [Value.cells, Value.oneCell'])) ?_
      rintro _ _ _ ⟨rfl, rfl⟩
      exact at_end fun F hF => ⟨b2, b3, rfl, rfl⟩
    · rintro vs L' F' w' hle ⟨b2, b3, rfl, rfl⟩ hS
      exact ⟨b2, b3, F', hle, rfl, hS⟩
  · rintro s2 s3 w1 ⟨b2, b3, F1, hle1, hv, hS⟩
    obtain rfl : s2 = pAt b2 := by have := (List.cons.inj hv).1; cases this; rfl
    obtain rfl : s3 = pAt b3 := by have := (List.cons.inj (List.cons.inj hv).2).1; cases this; rfl
    have hS1 : Split r w1 ([(b3, blk T_syntax_parser (parCells sl st))] ++ [(b2, blk T_bool [.bool false]), (pb, blk T0 (parCells sl st))]) F1 := hS
    have hinv1 : ((PI b3).inv st [(b3, blk T_syntax_parser (parCells sl st))]).p F1 := ⟨sl, T_syntax_parser, ⟨rfl, hok⟩, (Sl 4 encTok sl st.l).mono _ _ hle1 hsl⟩
    have fin : ∀ (c : Bool) (w2 : World) (F2 : Heap), res = .ok c st → F.le F2 → Split r w2 [(b2, blk T_bool [.bool c]), (pb, blk T0 (parCells sl st))] F2 →
        ∃ v, (resR #[.c (.pointer (some (pAt b2))) T_bool]).run PG w2 = .ok v w2 ∧ Ends (PI pb) tB (pl RelEq) r F res (.returned v) w2 := by
      intro c w2 F2 hres hle2 hS2
      refine ⟨.bool c, ?_, F2, hle2, ?_⟩
      · have hb := hS2.own b2 _ (List.mem_cons_self ..)
        obtain ⟨n, hsh⟩ := isOne_spec (P := PG) (t := T_bool) (by kernel_rfl)
        simp [resR, RV.sem, asAddr, loadVar_1 hsh (a := pAt b2) hb rfl rfl]
      · subst hres
        exact ⟨[(pb, blk T0 (parCells sl st))], [], c, rfl, ⟨sl, T0, ⟨rfl, hok⟩, (Sl 4 encTok sl st.l).mono _ _ hle2 hsl⟩, hS2.sub (List.sublist_cons_self ..), rfl, rfl⟩
    unfold t3_parser_calls
    simp only [T.wp]
    cases hres1 : argsS R st with
    | none =>
      have : callsS R st = none := by
        have e : (argsS R >>= fun _ => isS k_lp) st = none := by show Sp.bind _ _ st = none; simp [Sp.bind, hres1]
        rw [callsS_eq, e]
      rw [this] at hs; cases hs
    | some res1 =>
      refine upon_mono ?_ ?_ _ (args_m hR b3 (Split.give r [(b2, blk T_bool [.bool false]), (pb, blk T0 (parCells sl st))]) w1 F1 _ st res1 hres1 (fun _ h => nomatch h) hinv1 hS1.out)
      · rintro v w2 ⟨F2, hle2, h⟩
        cases res1 with
        | err y => obtain ⟨c, hc, _⟩ := h; cases hc
        | ok b st1 =>
          obtain ⟨H2, K2, x, hx, hinv2, hS2, hK2, hR2⟩ := h
          cases hx
          have hK2' : K2 = [] := hK2
          subst hK2'
          refine ⟨x, rfl, ?_⟩
          rw [List.append_nil] at hS2
          have hres : res = .ok (saysB st1.now k_lp) st := by
            have e : callsS R st = some (.ok (saysB st1.now k_lp) st) := by
              have e : (argsS R >>= fun _ => isS k_lp) st = some (.ok (saysB st1.now k_lp) st1) := by show Sp.bind _ _ st = _; simp only [Sp.bind, hres1]; rfl
              rw [callsS_eq, e]
            rw [e] at hs; cases hs; rfl
          refine upon_mono ?_ ?_ _ (is_m b3 k_lp (Split.give r [(b2, blk T_bool [.bool false]), (pb, blk T0 (parCells sl st))]) w2 F2 _ st1 (.ok (saysB st1.now k_lp) st1) rfl (fun _ h => nomatch h) hinv2 hS2)
          · rintro v w3 ⟨F3, hle3, H3, K3, x3, hx3, hinv3, hS3, hK3, hR3⟩
            cases hx3
            have hK3' : K3 = [] := hK3
            have hR3' : x3 = saysB st1.now k_lp := hR3
            subst hK3'; subst hR3'
            rw [List.append_nil] at hS3
            refine ⟨_, rfl, ?_⟩
            have hS4 := Split.back hS1 hS3
            have hb2 := hS4.own b2 _ (List.mem_append_right _ (List.mem_cons_self ..))
            obtain ⟨n, hsh⟩ := isOne_spec (P := PG) (t := T_bool) (by kernel_rfl)
            have hst := run_st (P := PG) (a := pAt b2) (T := T_bool) (c := false) (v := .bool (saysB st1.now k_lp)) (by kernel_rfl) hb2 rfl (Nat.le_of_ble_eq_true rfl) (by simp [Value.cells, Value.oneCell'])
            rw [hst]
            refine ⟨(), rfl, ?_⟩
            have hS5 : Split r (w3.setRow b2 (splice [.bool false] 0 [.bool (saysB st1.now k_lp)]).toArray) (H3 ++ ([] ++ (b2, blk T_bool (splice [.bool false] 0 [.bool (saysB st1.now k_lp)])) :: [(pb, blk T0 (parCells sl st))])) F3 := Split.setRow (L1 := []) (L2 := [(pb, blk T0 (parCells sl st))]) hS4
            refine CallsD.mono (calls_idle b2 _) ?_
            rintro e u' w4 ⟨rfl, rfl, rfl⟩
            exact ⟨_, rfl, fin _ _ F3 hres (hle1.trans (hle2.trans hle3)) (hS5.sub (List.sublist_append_right ..))⟩
          · rintro c w3 ⟨F3, hle3, H3, K3, x3, hx3, _⟩; cases hx3
      · rintro c w2 ⟨F2, hle2, h⟩
        cases res1 with
        | ok b st1 => obtain ⟨_, _, _, hx, _⟩ := h; cases hx
        | err y =>
          obtain ⟨c', hc, hy, hS2⟩ := h
          cases hc
          have hy' : c = [{ v := .iface T_syntax_refused (.agg #[.int .i64 y]), recovered := false }] := hy
          subst hy'
          have hres : res = .ok false st := by
            have e : callsS R st = some (.ok false st) := by
              have e : (argsS R >>= fun _ => isS k_lp) st = some (.err y) := by show Sp.bind _ _ st = _; simp only [Sp.bind, hres1]
              rw [callsS_eq, e]
            rw [e] at hs; cases hs; rfl
          have hS3 : Split r w2 [(b2, blk T_bool [.bool false]), (pb, blk T0 (parCells sl st))] F2 := Split.back (L := [(b2, blk T_bool [.bool false]), (pb, blk T0 (parCells sl st))]) hS1 hS2
          refine CallsD.mono (calls_caught b2 y false hS3) ?_
          rintro e u' w4 ⟨rfl, rfl, F4, hle4, hS4⟩
          exact ⟨_, rfl, fin false _ F4 hres (hle1.trans (hle2.trans hle4)) hS4⟩
end Go.Proofs.YtjlgcpgjdgeejaaGreatDoor
end

/- Rules for iterators: a state that lies in what a function owns, rounds with it, the record of a loop over a function. Conditions: none (general tools). -/
section
namespace Go.Proofs.YtjlgcpgjdgeejaaGreatDoor
open Go
set_option linter.unusedSimpArgs false
set_option linter.unusedVariables false
set_option linter.constructorNameAsVariable false

section
variable {ε σ β : Type} {P : Program} {I : Ifc ε σ} {t : Ty} {Rel : β → t.den → Own → Fact} {Δ : Labels ε σ β} {md : Mode} {L : Own} {Γ : List Fact} {st : σ} {run : Option (Res ε σ β)}
theorem k_sub {ε2 σ2 β1 : Type} {I2 : Ifc ε2 σ2} {t1 : Ty} {s0 : Sem Next} {k : t1.den → T} {s1 : Sp ε2 σ2 β1} {Rel1 : β1 → t1.den → Fact} {Γ1 : List Fact} {st2 : σ2} {H2 L0 : Own} (hm : Meets P I2 s0 t1 s1 Rel1 Γ1) (hΓ1 : ∀ A ∈ Γ1, A ∈ Γ) (hinv : ∀ F, Holds Γ F → (I2.inv st2 H2).p F)
    (hn : s1 st2 = none → run = none) (he : ∀ e, s1 st2 ≠ some (.err e))
    (hk : ∀ x b st2' H2', s1 st2 = some (.ok b st2') → SimK P I t Rel Δ none st (k x) run (H2' ++ L0) (I2.inv st2' H2' :: Rel1 b x :: Γ)) : SimK P I t Rel Δ md st (.op s0 t1 k) run (H2 ++ L0) Γ := by
  intro H r w F res S hs hΓ hsp hq
  simp only [T.wp]
  have hΓ' : Holds Γ F := fun A hA => hΓ A (List.mem_cons_of_mem _ hA)
  have hp : ∀ X : Own, (X ++ (H ++ L0)).Perm (H ++ (X ++ L0)) := fun X => by
    rw [← List.append_assoc, ← List.append_assoc]
    exact List.perm_append_comm.append_right L0
  have hsp0 : Split r w (H2 ++ (H ++ L0)) F := hsp.perm (hp H2)
  cases h1 : s1 st2 with
  | none => rw [hn h1] at hs; cases hs
  | some r1 =>
    cases r1 with
    | err y => exact absurd h1 (he y)
    | ok b st' =>
      refine upon_mono ?_ ?_ _ (hm (Split.give r (H ++ L0)) w F H2 st2 (.ok b st') h1 (fun A hA => hΓ' A (hΓ1 A hA)) (hinv F hΓ') hsp0.out)
      · rintro v w' ⟨F', hle, H', K1, x, hv, hinv', hS, hK, hR⟩
        cases hv
        have hK' : K1 = [] := hK
        subst hK'
        rw [List.append_nil] at hS
        have hS' : Split r w' (H' ++ (H ++ L0)) F' := Split.back (L := H ++ L0) hsp0 hS
        exact ⟨x, rfl, wp_le hle (hk x b st' H' h1 H r w' F' res S hs (Holds.cons ((I.inv st H).mono _ _ hle (hΓ _ (List.mem_cons_self ..))) (Holds.cons hinv' (Holds.cons hR (hΓ'.mono hle)))) (hS'.perm (hp H').symm) trivial)⟩
      · rintro c w' ⟨F', hle, H', K1, x, hv, _⟩; cases hv
theorem k_loopG {δ : Type} {l : Nat} {ts : List C} {vs : List Value} {body : HC ts → T} (f : δ → HC ts) (J : δ → Own → Fact) (sp : Nat → δ → Sp ε σ β) (n0 : Nat) (d0 : δ) (hv : vs = HC.enc ts (f d0)) (hrun : run = sp n0 d0 st) (hz : ∀ d st, sp 0 d st = none) (h0 : ∀ F, Holds Γ F → (J d0 L).p F)
    (hb : ∀ n d L' st, SimK P I t Rel (Δ.set l { ι := { j : Nat × δ // j.1 < n + 1 }, sp := fun j => sp j.1.1 j.1.2, J := fun j vs L' => (Fact.prop (vs = HC.enc ts (f j.1.2))).both (J j.1.2 L') }) none st (body (f d)) (sp (n + 1) d st) L' (J d L' :: Γ)) : SimK P I t Rel Δ md st (.loop l ts vs body) run L Γ := by
  subst hv; subst hrun
  refine k_shut (s := sp n0 d0) ?_ rfl
  refine sim_loop (x := { ι := Nat × δ, sp := fun j => sp j.1 j.2, J := fun j vs L' => (Fact.prop (vs = HC.enc ts (f j.2))).both (J j.2 L') }) (fun j => j.1) (n0, d0) rfl (fun F hF => ⟨rfl, h0 F hF⟩) (fun i vs L' F h => ⟨f i.2, h.1⟩) ?_
  rintro ⟨n, d⟩ L' y
  refine Sim.both (Sim.prop fun h1 => ?_)
  obtain rfl := HC.enc_inj ts _ _ h1
  cases n with
  | zero => exact k_open fun st => k_none (hz _ st)
  | succ n => exact k_open fun st => hb n d L' st
theorem k_outGR {δ : Type} {l n : Nat} {vs : List Value} {ts : List C} {f : δ → HC ts} {J : δ → Own → Fact} {sp : Nat → δ → Sp ε σ β} (d : δ)
    (hx : Δ l = { ι := { j : Nat × δ // j.1 < n + 1 }, sp := fun j => sp j.1.1 j.1.2, J := fun j vs L' => (Fact.prop (vs = HC.enc ts (f j.1.2))).both (J j.1.2 L') }) (hv : vs = HC.enc ts (f d)) (hrun : run = sp n d st) (hJ : ∀ F, Holds Γ F → (J d L).p F) : SimK P I t Rel Δ md st (.out l vs) run L Γ :=
  k_outX (x := { ι := { j : Nat × δ // j.1 < n + 1 }, sp := fun j => sp j.1.1 j.1.2, J := fun j vs L' => (Fact.prop (vs = HC.enc ts (f j.1.2))).both (J j.1.2 L') }) ⟨(n, d), Nat.lt_succ_self n⟩ hx hrun fun F hF => ⟨hv, hJ F hF⟩
end
theorem at_valR {ε σ β : Type} {P : Program} {I : Ifc ε σ} {t : Ty} {Rel : β → t.den → Own → Fact} {Δ : Labels ε σ β} {q : Option Quiet} {L : Own} {Γ : List Fact} {run : Option (Res ε σ β)}
    {β1 : Type} {t1 : Ty} {s0 : Sem Next} {k : t1.den → T} {b0 : β1} {Rel1 : β1 → t1.den → Own → Fact} {Γ1 : List Fact} (hm : MeetsO P (I0 : Ifc ε Unit) s0 t1 (Pure.pure b0 : Sp ε Unit β1) Rel1 Γ1) (hΓ1 : ∀ A ∈ Γ1, A ∈ Γ)
    (hk : ∀ x K, SimAt P I t Rel Δ none (k x) run (K ++ L) (Rel1 b0 x K :: Γ)) : SimAt P I t Rel Δ q (.op s0 t1 k) run L Γ := by
  intro r w F res S hs hΓ hsp hq
  simp only [T.wp]
  have h0 : Split r w ([] ++ L) F := hsp
  refine upon_mono ?_ ?_ _ (hm (Split.give r L) w F [] () (.ok b0 ()) rfl (fun A hA => hΓ A (hΓ1 A hA)) rfl h0.out)
  · rintro v w' ⟨F', hle, H', K1, x, hv, hinv, hS, hR⟩
    cases hv
    have hH : H' = [] := hinv
    subst hH
    exact ⟨x, rfl, wp_le hle (hk x K1 r w' F' res S hs (Holds.cons hR (hΓ.mono hle)) (by simpa using Split.back h0 hS) trivial)⟩
  · rintro c w' ⟨F', hle, H', K1, x, hv, _⟩; cases hv
theorem Split.freezeL {r : Rest} {w : World} : ∀ (K : Own) {H : Own} {F : Heap}, Split r w (K ++ H) F → ∃ F', F.le F' ∧ (∀ p ∈ K, F' p.1 = some p.2) ∧ Split r w H F'
  | [], H, F, h => ⟨F, Heap.le.refl F, (fun p hp => nomatch hp), h⟩
  | (b, o) :: K, H, F, h => by
    have h1 : Split r w (K ++ H) (F.ins b o) := Split.freeze h
    obtain ⟨F', h2, h3, h4⟩ := Split.freezeL K h1
    refine ⟨F', (Split.ins_le h).trans h2, fun p hp => ?_, h4⟩
    rcases List.mem_cons.1 hp with rfl | hp
    · exact h2 _ _ (by simp [Heap.ins])
    · exact h3 p hp
def lbEndL (J : Nat → List Value → Own → Fact) (l : Nat) : Label Unit Unit Empty := { ι := Unit, sp := fun _ _ => some (.err ()), J := fun _ vs L => J l vs L }
def AtEnd2 (P : Program) (J : Nat → List Value → Own → Fact) (q : Option Quiet) (m : T) (L : Own) (Γ : List Fact) : Prop :=
  SimAt P (I0 : Ifc Unit Unit) tU (fun (b : Empty) _ _ => b.elim) (fun l => lbEndL J l) q m (some (.err ())) L Γ
theorem wp_of_at2 {P : Program} {m : T} {J : Nat → List Value → Own → Fact} {L : Own} {Γ : List Fact} {r : Rest} {w : World} {F : Heap} {Post : Nat → List Value → World → Prop} (h : AtEnd2 P J none m L Γ) (hΓ : Holds Γ F) (hsp : Split r w L F)
    (hP : ∀ i vs L' F' w', F.le F' → (J i vs L').p F' → Split r w' L' F' → Post i vs w') : m.wp P (fun _ => True) (fun i vs w' => Post i vs w') (fun _ _ => False) w := by
  refine T.wp_mono m ?_ ?_ (h r w F (.err ()) (fun _ => True) rfl hΓ hsp trivial)
  · intro l vs w' ho
    obtain ⟨i, L', F', H', st', h1, h2, h3, h4, h5⟩ := ho
    have hH : H' = [] := h4
    subst hH
    exact hP l vs L' F' w' h1 h3 h5
  · rintro e w' ⟨F', h1, c, h2, h3, h4⟩
    exact h3
theorem at_end2 {P : Program} {J : Nat → List Value → Own → Fact} {q : Option Quiet} {l : Nat} {vs : List Value} {L : Own} {Γ : List Fact} (h : ∀ F, Holds Γ F → (J l vs L).p F) : AtEnd2 P J q (.out l vs) L Γ := by
  have := at_out (P := P) (I := (I0 : Ifc Unit Unit)) (t := tU) (Rel := fun (b : Empty) _ _ => b.elim) (Δ := fun l => lbEndL J l) (q := q) (L := L) (Γ := Γ) (vs := vs) (l := l) (run := some (.err ())) (x := lbEndL J l) (st := ()) (H := []) rfl () rfl h (fun _ _ => rfl)
  exact this
theorem Split.putObj {r : Rest} {w : World} {L1 L2 : Own} {F : Heap} {b : Nat} {o : Obj} (h : Split r w (L1 ++ (b, o) :: L2) F) (o' : Obj) : Split r (w.putObj b o') (L1 ++ (b, o') :: L2) F := by
  have hp : ∀ o : Obj, ((b, o) :: (L1 ++ L2)).Perm (L1 ++ (b, o) :: L2) := fun o => List.perm_middle.symm
  have hb := h.own b _ (List.mem_append_right _ (List.mem_cons_self ..))
  refine ((h.perm (hp o)).write (w.putObj b o') o' (fun x => ?_) (by simp) rfl rfl rfl).perm (hp o').symm
  by_cases hx : x = b
  · subst hx; rw [if_pos rfl]; exact World.putObj_heap_same (heap_lt hb)
  · rw [if_neg hx]; exact World.putObj_heap_other hx
end Go.Proofs.YtjlgcpgjdgeejaaGreatDoor
end
