/- A part of the claim: general tools, trees of the program, and what its functions come to (Den to TrA). Conditions: as its theorems say. -/
import Derived.Below
import Derived.BigFrame
import Derived.Defers
import Derived.IntWalk
import Derived.KernelRfl
import Derived.Laws.Cells
import Derived.Laws.CopyRow
import Derived.Laws.Tables
import Derived.OrdersHeld
import Derived.OrdersIn
import Derived.RangeFuncIn
import Derived.RangeFuncLeaves
import Derived.RangeFuncRecord
import Derived.Recover
import Derived.ScopeJumps
import Derived.Tactics
import Derived.TacticsIn
import Derived.Test.YtjlgcpgjdgeejaaGreatDoorProg

/- The tree of a function's code: what it does to memory, whom it calls, where it parts; and that the tree speaks true of the code. Conditions: none (general tools). -/
section
namespace Go.Proofs.YtjlgcpgjdgeejaaGreatDoor
open Go

inductive B where
  | int (k : IntKind) | bool | str | ptr | addr | slice | val
@[reducible] def B.den : B → Type
  | .int _ => Int
  | .bool => Bool
  | .str => ByteArray
  | .ptr => Option Addr
  | .addr => Addr
  | .slice => Option Addr × Nat × Nat
  | .val => Value
def B.enc : (b : B) → b.den → Value
  | .int k, n => .int k n
  | .bool, b => .bool b
  | .str, s => .string s
  | .ptr, a => .pointer a
  | .addr, a => .pointer (some a)
  | .slice, x => .slice x.1 x.2.1 x.2.2
  | .val, v => v
@[reducible] def HB : List B → Type
  | [] => Unit
  | b :: bs => b.den × HB bs
def HB.enc : (bs : List B) → HB bs → List Value
  | [], _ => []
  | b :: bs, x => b.enc x.1 :: HB.enc bs x.2
inductive C where
  | b (b : B) | agg (bs : List B)
@[reducible] def C.den : C → Type
  | .b y => y.den
  | .agg bs => HB bs
def C.enc : (c : C) → c.den → Value
  | .b y, x => y.enc x
  | .agg bs, x => .agg (HB.enc bs x).toArray
@[reducible] def HC : List C → Type
  | [] => Unit
  | c :: cs => c.den × HC cs
def HC.enc : (cs : List C) → HC cs → List Value
  | [], _ => []
  | c :: cs, x => c.enc x.1 :: HC.enc cs x.2
inductive Ty where
  | c (c : C) | tup (cs : List C)
@[reducible] def Ty.den : Ty → Type
  | .c y => y.den
  | .tup cs => HC cs
def Ty.enc : (t : Ty) → t.den → Value
  | .c y, x => y.enc x
  | .tup cs, x => .tuple (HC.enc cs x).toArray

inductive RV where
  | v (x : Value) | c (a : Value) (t : TypeId)
def RV.sem : RV → Sem Value
  | .v x => pure x
  | .c a t => do loadVar t (← asAddr a)
def resR (l : Array RV) : Sem Value := do
  let vs ← l.mapM RV.sem
  pure (if h : vs.size = 1 then vs[0] else .tuple vs)

inductive T where
  | bad
  | op (s : Sem Next) (t : Ty) (k : t.den → T)
  | opq (s : Sem Next) (t : Ty) (k : t.den → T)
  | opl (s : Sem Next) (t : Ty) (k : t.den → T)
  | ite (b : Bool) (x y : T)
  | ret (r : Array RV)
  | out (l : Nat) (vs : List Value)
  | join (l : Nat) (ts : List C) (m : T) (k : HC ts → T)
  | loop (l : Nat) (ts : List C) (vs : List Value) (body : HC ts → T)
  | draw (m : T)
  | both (x y : T)

abbrev Outs := Nat → List Value → World → Prop
def Outs.set (Φ : Outs) (l : Nat) (J : List Value → World → Prop) : Outs := fun i => if i = l then J else Φ i

def upon (P : Program) (K : Value → World → Prop) (N : List PanicEntry → World → Prop) : Result Next → Prop
  | .ok (.value v) w => K v w
  | .ok .skip w => K undef w
  | .ok (.enter f args) w => Calls P f args w fun
      | .returned v, w' => K v w'
      | .panicked c, w' => N c w'
      | .outgrown, _ => False
  | .ok (.round l f tmps asn bd) w => RoundIn Fence.wide 0 P l f tmps asn bd w fun
      | .returned v, w' => K v w'
      | .panicked c, w' => N c w'
      | .outgrown, _ => False
  | .halt (.panic v) w => N [{ v, recovered := false }] w
  | _ => False

def drewW (w : World) : World := { w with drawn := w.drawn + 1 }

def T.wp (P : Program) : T → (World → Prop) → Outs → (Ending → World → Prop) → World → Prop
  | .bad, _, _, _, _ => False
  | .op s t k, S, Φ, R, w => upon P (fun v w' => ∃ x : t.den, v = t.enc x ∧ (k x).wp P S Φ R w') (fun c w' => R (.panicked c) w') (s.run P w)
  | .opq s t k, S, Φ, R, w => ∃ x : t.den, S w ∧ (∀ w', S w' → s.run P w' = .ok (.value (t.enc x)) w') ∧ (k x).wp P S Φ R w
  | .opl s t k, S, Φ, R, w => upon P (fun v w' => S w' ∧ ∃ x : t.den, v = t.enc x ∧ (k x).wp P S Φ R w') (fun c w' => R (.panicked c) w') (s.run P w)
  | .ite b x y, S, Φ, R, w => (b = true → x.wp P S Φ R w) ∧ (b = false → y.wp P S Φ R w)
  | .ret r, _, _, R, w => ∃ v, (resR r).run P w = .ok v w ∧ R (.returned v) w
  | .out l vs, _, Φ, _, w => Φ l vs w
  | .join l ts m k, S, Φ, R, w => m.wp P S (Φ.set l fun vs w' => ∃ x, vs = HC.enc ts x ∧ (k x).wp P S Φ R w') R w
  | .loop l ts vs body, S, Φ, R, w => ∃ I : Nat → HC ts → World → Prop, (∃ n x, vs = HC.enc ts x ∧ I n x w) ∧
      ∀ n x w', I n x w' → (body x).wp P S (Φ.set l fun vs w'' => ∃ n' x', n' < n ∧ vs = HC.enc ts x' ∧ I n' x' w'') R w'
  | .draw m, _, Φ, R, w => ∃ S' : World → Prop, S' (drewW w) ∧ m.wp P S' Φ R (drewW w)
  | .both x y, S, Φ, R, w => x.wp P S Φ R w ∧ y.wp P S Φ R w

inductive EV where
  | v (x : Value) | lit (b : Bool)
def EV.val : EV → Value
  | .v x => x
  | .lit b => .bool b
abbrev Env := Nat → Option EV
def Env.putE (e : Env) (d : Nat) (v : EV) : Env := fun i => bif Nat.beq i d then some v else e i
def Env.put (e : Env) (d : Option Tmp) (v : Value) : Env :=
  match d with
  | some d => e.putE d (.v v)
  | none => e
def Env.forget (e : Env) (W : List Nat) : Env := fun i => bif W.elem i then none else e i
def Env.puts (e : Env) : List Nat → List Value → Env
  | s :: ss, v :: vs => (e.putE s (.v v)).puts ss vs
  | _, _ => e
def Env.gets (e : Env) : List Nat → Option (List Value)
  | [] => some []
  | s :: ss => match e s, e.gets ss with
    | some v, some vs => some (v.val :: vs)
    | _, _ => none
def Env.ev (e : Env) : Operand → Option EV
  | .tmp t => e t
  | .const (.bool b) => some (.lit b)
  | .const v => some (.v v)
  | .global g => some (.v (.pointer (some ⟨g, 0, none⟩)))
  | .func f => some (.v (.func (.func f) #[] #[]))
def Env.at (e : Env) (x : Operand) : Value :=
  match e.ev x with
  | some v => v.val
  | none => undef
def Env.knows (e : Env) (x : Operand) : Bool := (e.ev x).isSome

structure NN where
  lo : Nat
  hi : Nat
  D : List Deferred
  K : Nat → Value
  rd : Option Nat
def NN.of (n : Nat) : NN := ⟨0, n, [], fun _ => undef, none⟩
def Kept (n : NN) (a : Act) : Prop := a.defers = n.D ∧ ∀ i, i < n.lo → a.tmps.getD i undef = n.K i
structure Agree (n : NN) (e : Env) (a : Act) : Prop where
  defers : Kept n a
  size : a.tmps.size = n.hi
  val : ∀ i v, e i = some v → a.tmps.getD i undef = v.val

def pureVal (P : Program) : Sem Next → Option Value
  | .pure (.value v) => some v
  | .program k => pureVal P (k P)
  | _ => none

inductive Dr where
  | e
  | q (i : Nat) (m : Option Ty) (n : Dr)
  | l (i : Nat) (m : Option Ty) (n : Dr)
  | l2 (i : Nat) (m : Option Ty) (n : Dr) (j : Nat) (m' : Option Ty) (n' : Dr)
inductive An where
  | x
  | r (ms : List (Option Ty))
  | d (l : Dr)
  | s (a b : An)
  | c (a b : An)
  | b (a : An)
  | l (ts : List (Nat × C)) (a : An)
  | j (ts : List (Nat × C)) (a : An)
  | sc (lbl : Nat) (ts : List (Nat × C)) (a b : An)

def writes : Code → List Nat
  | .seq a b => writes a ++ writes b
  | .cond _ a b => writes a ++ writes b
  | .block _ a => writes a
  | .loop a => writes a
  | .scope a => writes a
  | .region _ ops _ => ops.toList.filterMap (·.dst)
  | _ => []

def dstOk (n : NN) (o : Oper) : Bool := (match o.dst with | some d => Nat.blt d n.hi && Nat.ble n.lo d | none => true) && match o.op with | .select .. => false | .defer .. => false | _ => true

def copyE (e : Env) (o : Oper) : Option EV :=
  match o.op with
  | .move x => e.ev x
  | .assign x => e.ev x
  | .pick c x y => match e.ev c with
    | some (.lit true) => e.ev x
    | some (.lit false) => e.ev y
    | _ => none
  | _ => none

def putD (e : Env) (o : Oper) (v : EV) : Env :=
  match o.dst with
  | some d => e.putE d v
  | none => e

def opT (P : Program) (n : NN) (o : Oper) (m : Option Ty) (e : Env) (k : Env → T) : T :=
  bif dstOk n o then
    match copyE e o with
    | some v => k (putD e o v)
    | none =>
      bif o.op.operands.all e.knows then
        match m with
        | none => match pureVal P (execOp e.at o) with
          | some v => k (e.put o.dst v)
          | none => .bad
        | some t => .op (execOp e.at o) t fun x => k (e.put o.dst (t.enc x))
      else .bad
  else .bad

def guardT (ops : Array Oper) (o : Oper) (e : Env) (run skip : Env → T) : T :=
  match o.guard with
  | none => run e
  | some (j, want) => match (ops[j]?).bind (·.dst) with
    | none => .bad
    | some d => match e d with
      | some (.lit b) => bif b == want then run e else skip e
      | some (.v (.bool b)) => bif want then .ite b (run (e.putE d (.lit true))) (skip (e.putE d (.lit false)))
          else .ite b (skip (e.putE d (.lit true))) (run (e.putE d (.lit false)))
      | some (.v (.tuple _)) => skip e
      | _ => .bad

def opsT (P : Program) (n : NN) (ops : Array Oper) : List Oper → List (Option Ty) → Env → (Env → T) → T
  | [], _, e, k => k e
  | _ :: _, [], _, _ => .bad
  | o :: l, m :: ms, e, k =>
    guardT ops o e (fun e => opT P n o m e fun e' => opsT P n ops l ms e' k)
      fun e => bif dstOk n o then opsT P n ops l ms (e.put o.dst undef) k else .bad

def outT (l : Nat) (slots : List Nat) (e : Env) : T :=
  match e.gets slots with
  | some vs => .out l vs
  | none => .bad

def direct (ops : Array Oper) (k : Nat) : Nat := match ops[k]? with
  | some o => o.after.toList.foldl (fun s x => bif Region.binds .any x then s ||| 2 ^ x.on else s) 0
  | none => 0
def upMask (ops : Array Oper) : Nat → Nat → Nat
  | 0, m => m
  | k + 1, m => upMask ops k (bif m.testBit k then m ||| direct ops k else m)
def isStore (ops : Array Oper) (j : Nat) : Bool := match ops[j]? with
  | some o => match o.op with
    | .store .. => true
    | _ => false
  | none => false
def finalOp (ops : Array Oper) (i : Nat) : Bool := (List.range ops.size).all fun j => Nat.beq j i || (upMask ops i (direct ops i)).testBit j || isStore ops j
def Dr.calm (ops : Array Oper) : Dr → Bool
  | .e => true
  | .q .. => false
  | .l i _ d => finalOp ops i && d.calm ops
  | .l2 i _ d j _ d' => finalOp ops i && d.calm ops && finalOp ops j && d'.calm ops

def loudT (ops : Array Oper) (n : NN) (i : Nat) (m : Option Ty) (e : Env) (next : Env → T) : T :=
  match ops[i]? with
  | none => .bad
  | some o =>
    bif dstOk n o then
      guardT ops o e
        (fun e => bif o.op.operands.all e.knows then
            match m with
            | some t => bif finalOp ops i then .op (execOp e.at o) t fun x => next (e.put o.dst (t.enc x)) else .opl (execOp e.at o) t fun x => next (e.put o.dst (t.enc x))
            | none => .bad
          else .bad)
        fun e => next (e.put o.dst undef)
    else .bad

def quietT (P : Program) (ops : Array Oper) (n : NN) (i : Nat) (m : Option Ty) (e : Env) (next : Env → T) : T :=
  match ops[i]? with
  | none => .bad
  | some o =>
    bif dstOk n o then
      guardT ops o e
        (fun e => match copyE e o with
          | some v => next (putD e o v)
          | none => bif o.op.operands.all e.knows then
              match m with
              | none => match pureVal P (execOp e.at o) with
                | some v => next (e.put o.dst v)
                | none => .bad
              | some t => .opq (execOp e.at o) t fun x => next (e.put o.dst (t.enc x))
            else .bad)
        fun e => next (e.put o.dst undef)
    else .bad

def drawT (P : Program) (n : NN) (ops : Array Oper) : Dr → Nat → Array Bool → Env → (Env → T) → T
  | .e, _, listed, e, k => bif (Region.ready .any ops listed).isEmpty then k e else .bad
  | .q i m l, f + 1, listed, e, k =>
    bif Region.free .any ops listed i && (Region.ready .any ops listed).contains i && !isStore ops i then
      quietT P ops n i m e fun e => drawT P n ops l f (listed.setIfInBounds i true) e k
    else .bad
  | .l i m l, f + 1, listed, e, k =>
    bif Region.ready .any ops listed == [i] && (!finalOp ops i || l.calm ops) then
      loudT ops n i m e fun e => drawT P n ops l f (listed.setIfInBounds i true) e k
    else .bad
  | .l2 i m l j m' l', f + 1, listed, e, k =>
    bif Region.ready .any ops listed == [i, j] && (!finalOp ops i || l.calm ops) && (!finalOp ops j || l'.calm ops) then
      .both (loudT ops n i m e fun e => drawT P n ops l f (listed.setIfInBounds i true) e k)
        (loudT ops n j m' e fun e => drawT P n ops l' f (listed.setIfInBounds j true) e k)
    else .bad
  | _, _, _, _, _ => .bad

def condT (e : Env) (o : Operand) (x y : Env → T) : T :=
  match e.ev o with
  | some (.lit b) => bif b then x e else y e
  | some (.v (.bool b)) => match o with
    | .tmp d => .ite b (x (e.putE d (.lit true))) (y (e.putE d (.lit false)))
    | _ => .bad
  | _ => .bad

def jumpT (lv lbl : Nat) (ss : List Nat) (kX : Exit → Env → T) : Exit → Env → T := fun ex e => match ex with
  | .goto l => bif Nat.beq l lbl then outT lv ss e else .bad
  | _ => kX ex e

mutual
def den (P : Program) (n : NN) (rv : Array ResultVar) : Code → An → Nat → Env → (Env → T) → (Exit → Env → T) → T
  | .skip, _, _, e, kN, _ => kN e
  | .label _, _, _, e, kN, _ => kN e
  | .ret, _, _, e, _, kX => kX .ret e
  | .exit i, _, _, e, _, kX => kX (.exit i) e
  | .goto l, _, _, e, _, kX => kX (.goto l) e
  | .seq c d, .s a b, lv, e, kN, kX => den P n rv c a lv e (fun e' => den P n rv d b lv e' kN kX) kX
  | .region _ ops false, .r ms, _, e, kN, _ => opsT P n ops ops.toList ms e kN
  | .region _ ops true, .d l, _, e, kN, _ =>
    bif P.follows .mixedOrders && Region.noSelect ops then .draw (drawT P n ops l ops.size (Array.replicate ops.size false) e kN) else .bad
  | .cond o c d, .c a b, lv, e, kN, kX => condT e o (fun e => den P n rv c a lv e kN kX) fun e => den P n rv d b lv e kN kX
  | .cond o c d, .j ts (.c a b), lv, e, kN, kX =>
    .join lv (ts.map (·.2))
      (condT e o (fun e => den P n rv c a (lv + 1) e (outT lv (ts.map (·.1))) kX) fun e => den P n rv d b (lv + 1) e (outT lv (ts.map (·.1))) kX)
      fun x => kN ((e.forget (writes c ++ writes d)).puts (ts.map (·.1)) (HC.enc _ x))
  | .region _ ops false, .j ts (.r ms), lv, e, kN, _ =>
    .join lv (ts.map (·.2)) (opsT P n ops ops.toList ms e (outT lv (ts.map (·.1))))
      fun x => kN ((e.forget (ops.toList.filterMap (·.dst))).puts (ts.map (·.1)) (HC.enc _ x))
  | .region _ ops true, .j ts (.d l), lv, e, kN, _ =>
    bif P.follows .mixedOrders && Region.noSelect ops then
      .join lv (ts.map (·.2)) (.draw (drawT P n ops l ops.size (Array.replicate ops.size false) e (outT lv (ts.map (·.1)))))
        fun x => kN ((e.forget (ops.toList.filterMap (·.dst))).puts (ts.map (·.1)) (HC.enc _ x))
    else .bad
  | .block i c, .b a, lv, e, kN, kX =>
    den P n rv c a lv e kN fun ex e' => match ex with
      | .exit i' => bif Nat.beq i' i then kN e' else kX ex e'
      | _ => kX ex e'
  | .block i c, .j ts (.b a), lv, e, kN, kX =>
    .join lv (ts.map (·.2))
      (den P n rv c a (lv + 1) e (outT lv (ts.map (·.1))) fun ex e' => match ex with
        | .exit i' => bif Nat.beq i' i then outT lv (ts.map (·.1)) e' else kX ex e'
        | _ => kX ex e')
      fun x => kN ((e.forget (writes c)).puts (ts.map (·.1)) (HC.enc _ x))
  | .loop c, .l ts a, lv, e, _, kX =>
    match e.gets (ts.map (·.1)) with
    | some vs => .loop lv (ts.map (·.2)) vs fun x =>
        den P n rv c a (lv + 1) ((e.forget (writes c)).puts (ts.map (·.1)) (HC.enc _ x)) (outT lv (ts.map (·.1))) kX
    | none => .bad
  | .scope c, .b a, lv, e, kN, kX => bif n.rd.isSome then .bad else den P n rv c a lv e kN fun ex e' => match ex with
      | .goto _ => .bad
      | _ => kX ex e'
  | .scope c, .sc lbl ts a b, lv, e, kN, kX => bif (findLabel c lbl).isNone || n.rd.isSome then .bad else
    .join lv (ts.map (·.2)) (den P n rv c a (lv + 1) e kN (jumpT lv lbl (ts.map (·.1)) kX)) fun x =>
      .loop lv (ts.map (·.2)) (HC.enc _ x) fun y =>
        denFrom P n rv lbl c b (lv + 1) ((e.forget (writes c)).puts (ts.map (·.1)) (HC.enc _ y)) kN (jumpT lv lbl (ts.map (·.1)) kX)
  | _, _, _, _, _, _ => .bad
def denFrom (P : Program) (n : NN) (rv : Array ResultVar) (lbl : Nat) : Code → An → Nat → Env → (Env → T) → (Exit → Env → T) → T
  | .seq c d, .s a b, lv, e, kN, kX =>
    match findLabel c lbl with
    | some _ => denFrom P n rv lbl c a lv e (fun e' => den P n rv d b lv e' kN kX) kX
    | none => denFrom P n rv lbl d b lv e kN kX
  | .label l, _, _, e, kN, _ => bif Nat.beq l lbl then kN e else .bad
  | _, _, _, _, _, _ => .bad
end

def knownRV (e : Env) : ResultVar → Bool
  | .tmp t => (e t).isSome
  | .cell t _ => (e t).isSome
def rvOf (e : Env) : ResultVar → RV
  | .tmp t => .v (e.at (.tmp t))
  | .cell t ty => .c (e.at (.tmp t)) ty
def rvT (e : Env) (r : Array ResultVar) : T := bif r.all (knownRV e) then .ret (r.map (rvOf e)) else .bad

def startE (args : List Value) : Env := fun i => (args[i]?).map .v

def fnT (P : Program) (fn : Func) (an : An) (args : List Value) : T :=
  match fn.body with
  | some c => den P (NN.of fn.ntmps) fn.results c an 0 (startE args) (fun e => rvT e fn.results) fun ex e => match ex with
      | .ret => rvT e fn.results
      | _ => .bad
  | none => .bad

end Go.Proofs.YtjlgcpgjdgeejaaGreatDoor
end

/- The tree of a function's code speaks true: what the tree's weakest precondition says holds of the code. Conditions: none. -/
section
namespace Go.Proofs.YtjlgcpgjdgeejaaGreatDoor
open Go
set_option linter.unusedSimpArgs false
set_option linter.unusedVariables false

theorem pureVal_run {P : Program} : ∀ (s : Sem Next) (v : Value), pureVal P s = some v → ∀ w, s.run P w = .ok (.value v) w
  | .pure n, v, h, w => by
    cases n <;> simp [pureVal] at h
    subst h; rfl
  | .program k, v, h, w => by
    simp only [pureVal] at h
    simp only [Sem.run]
    exact pureVal_run (k P) v h w
  | .load .., _, h, _ | .store .., _, h, _ | .new .., _, h, _ | .shape .., _, h, _ | .freeze .., _, h, _ | .frozen .., _, h, _
  | .getObj .., _, h, _ | .setObj .., _, h, _ | .choose .., _, h, _ | .sys .., _, h, _ | .mark .., _, h, _ | .halt .., _, h, _ => by simp [pureVal] at h

def Same (W : List Nat) (e e' : Env) : Prop := ∀ i, i ∉ W → ∀ v, e i = some v → ∃ v', e' i = some v' ∧ v'.val = v.val
theorem Same.refl (W : List Nat) (e : Env) : Same W e e := fun _ _ v h => ⟨v, h, rfl⟩
theorem Same.trans {W W1 W2 : List Nat} {a b c : Env} (h : Same W1 a b) (k : Same W2 b c) (h1 : ∀ i ∈ W1, i ∈ W) (h2 : ∀ i ∈ W2, i ∈ W) : Same W a c := fun i hi v hv => by
  obtain ⟨v1, e1, f1⟩ := h i (fun x => hi (h1 i x)) v hv
  obtain ⟨v2, e2, f2⟩ := k i (fun x => hi (h2 i x)) v1 e1
  exact ⟨v2, e2, f2.trans f1⟩
theorem Same.mono {W W1 : List Nat} {a b : Env} (h : Same W1 a b) (h1 : ∀ i ∈ W1, i ∈ W) : Same W a b := fun i hi => h i fun x => hi (h1 i x)
theorem Same.forget {W : List Nat} {n : NN} {e e' : Env} {a : Act} (h : Same W e e') (ha : Agree n e' a) : Agree n (e.forget W) a :=
  ⟨ha.defers, ha.size, fun i v hv => by
    unfold Env.forget at hv
    cases hw : W.elem i with
    | true => rw [hw] at hv; cases hv
    | false =>
      rw [hw] at hv
      simp only [cond_false] at hv
      obtain ⟨v', h1, h2⟩ := h i (by intro hm; have := List.elem_eq_true_of_mem hm; rw [hw] at this; cases this) v hv
      rw [ha.val i v' h1, h2]⟩

theorem putE_self (e : Env) (d : Nat) (v : EV) : e.putE d v d = some v := by simp [Env.putE]
theorem putE_ne (e : Env) {d i : Nat} (v : EV) (h : i ≠ d) : e.putE d v i = e i := by
  unfold Env.putE
  cases hb : Nat.beq i d with
  | true => exact absurd (Nat.eq_of_beq_eq_true hb) h
  | false => rfl
theorem Same.putE (e : Env) (d : Nat) (v : EV) : Same [d] e (e.putE d v) := fun i hi u hu => ⟨u, by rw [putE_ne e v (by simpa using hi)]; exact hu, rfl⟩
theorem Agree.refine {n : NN} {e : Env} {a : Act} (ha : Agree n e a) {d : Nat} {v u : EV} (hd : e d = some v) (hu : u.val = v.val) : Agree n (e.putE d u) a ∧ Same [] e (e.putE d u) := by
  constructor
  · refine ⟨ha.defers, ha.size, fun i x hx => ?_⟩
    by_cases h : i = d
    · subst h; rw [putE_self] at hx; cases hx; rw [hu]; exact ha.val _ _ hd
    · rw [putE_ne e u h] at hx; exact ha.val _ _ hx
  · intro i _ x hx
    by_cases h : i = d
    · subst h; rw [hd] at hx; cases hx; exact ⟨u, putE_self .., hu⟩
    · exact ⟨x, by rw [putE_ne e u h]; exact hx, rfl⟩
theorem Agree.putE {n : NN} {e : Env} {a : Act} (ha : Agree n e a) {d : Nat} (hd : d < n.hi) (hlo : n.lo ≤ d) (v : EV) : Agree n (e.putE d v) (a.put (some d) v.val) := by
  refine ⟨⟨ha.defers.1, fun i hi => ?_⟩, by simp [Act.put, ha.size], fun i x hx => ?_⟩
  · rw [← ha.defers.2 i hi]
    have : d ≠ i := by omega
    simp [Act.put, Array.getD_eq_getD_getElem?, Array.getElem?_setIfInBounds_ne this]
  by_cases h : i = d
  · subst h
    rw [putE_self] at hx; cases hx
    simp [Act.put, ha.size, hd]
  · rw [putE_ne e v h] at hx
    have := ha.val i x hx
    simp only [Act.put]
    rw [← this]
    simp [Array.getD_eq_getD_getElem?, Array.getElem?_setIfInBounds_ne (Ne.symm h)]
theorem Agree.putD {n : NN} {e : Env} {a : Act} (ha : Agree n e a) {o : Oper} (ho : dstOk n o = true) (v : EV) : Agree n (putD e o v) (a.put o.dst v.val) ∧ Same o.dst.toList e (putD e o v) := by
  unfold Go.Proofs.YtjlgcpgjdgeejaaGreatDoor.putD
  cases hd : o.dst with
  | none => exact ⟨by simpa [Act.put] using ha, Same.refl _ _⟩
  | some d =>
    have : d < n.hi ∧ n.lo ≤ d := by simp only [dstOk, hd, Bool.and_eq_true] at ho; exact ⟨Nat.le_of_ble_eq_true ho.1.1, Nat.le_of_ble_eq_true ho.1.2⟩
    exact ⟨ha.putE this.1 this.2 v, Same.putE e d v⟩
theorem put_eq_putD (e : Env) (o : Oper) (v : Value) : e.put o.dst v = putD e o (.v v) := by
  unfold Env.put putD; cases o.dst <;> rfl
theorem Agree.put {n : NN} {e : Env} {a : Act} (ha : Agree n e a) {o : Oper} (ho : dstOk n o = true) (v : Value) : Agree n (e.put o.dst v) (a.put o.dst v) ∧ Same o.dst.toList e (e.put o.dst v) := by
  rw [put_eq_putD]; exact ha.putD ho (.v v)
theorem dstOk_lo {n : NN} {o : Oper} (h : dstOk n o = true) : ∀ d, o.dst = some d → n.lo ≤ d := fun d hd => by
  simp only [dstOk, hd, Bool.and_eq_true] at h; exact Nat.le_of_ble_eq_true h.1.2
theorem dstOk_select {n : NN} {o : Oper} (h : dstOk n o = true) : ∀ cs b, o.op ≠ .select cs b := fun cs b he => by
  simp [dstOk, he] at h
theorem dstOk_defer {n : NN} {o : Oper} (h : dstOk n o = true) : ∀ c, o.op ≠ .defer c := fun c he => by
  simp [dstOk, he] at h

theorem Agree.ev {n : NN} {e : Env} {a : Act} (ha : Agree n e a) {x : Operand} {v : EV} (h : e.ev x = some v) : a.eval x = v.val := by
  cases x with
  | tmp t => exact ha.val t v h
  | const c =>
    cases c <;> simp only [Env.ev, Option.some.injEq] at h <;> subst h <;> rfl
  | global g => simp only [Env.ev, Option.some.injEq] at h; subst h; rfl
  | func f => simp only [Env.ev, Option.some.injEq] at h; subst h; rfl
theorem Agree.at {n : NN} {e : Env} {a : Act} (ha : Agree n e a) {x : Operand} (h : e.knows x = true) : a.eval x = e.at x := by
  unfold Env.knows at h
  obtain ⟨v, hv⟩ := Option.isSome_iff_exists.1 h
  rw [ha.ev hv]; simp [Env.at, hv]
theorem Agree.exec {n : NN} {e : Env} {a : Act} (ha : Agree n e a) {o : Oper} (ho : dstOk n o = true) (h : o.op.operands.all e.knows = true) : execOp a.eval o = execOp e.at o :=
  execOp_congr o (dstOk_select ho) fun x hx => ha.at (Array.all_eq_true_iff_forall_mem.1 h x hx)

theorem copyE_run {P : Program} {n : NN} {e : Env} {a : Act} (ha : Agree n e a) {o : Oper} {v : EV} (h : copyE e o = some v) (w : World) : (execOp a.eval o).run P w = .ok (.value v.val) w := by
  unfold copyE at h
  unfold execOp
  split at h
  · rename_i x hx; simp only [hx, ha.ev h]; rfl
  · rename_i x hx; simp only [hx, ha.ev h]; rfl
  · rename_i c x y hx
    split at h
    · rename_i hc
      have h1 : a.eval c = .bool true := ha.ev hc
      simp only [hx, h1, ha.ev h]; rfl
    · rename_i hc
      have h1 : a.eval c = .bool false := ha.ev hc
      simp only [hx, h1, ha.ev h]; rfl
    · cases h
  · cases h

abbrev FW (ro : Option Nat) : Fence := { Fence.wide with round := ro }
theorem wp_of_upon {P : Program} {ro : Option Nat} {o : Oper} {a : Act} {w : World} {K : Act → World → Prop} {Q : Exit → Act → World → Prop} (hd : ∀ c, o.op ≠ .defer c)
    (h : upon P (fun v w' => K (a.put o.dst v) w') (fun c w' => Q (.panic c) a w') ((execOp a.eval o).run P w)) : o.wpIn (FW ro) 0 P a w K Q := by
  refine ⟨fun _ _ => trivial, ?_⟩
  rw [Oper.semAt_eq _ _ _ hd]
  generalize (execOp a.eval o).run P w = r at *
  have hdp : ((FW ro).depth.isSome = true → 1 ≤ 0) := fun h => by cases h
  cases r with
  | ok n w' =>
    cases n <;> simp only [upon] at h <;> simp only [Oper.uponIn]
    case value v => exact h
    case skip => exact h
    case enter f args =>
      refine ⟨hdp, ?_⟩
      have h2 : CallsIn Fence.wide 0 P f args w' _ := callsIn_wide.2 (Calls.mono h (R' := fun
        | .returned v, w'' => K (a.put o.dst v) w''
        | .panicked chain, w'' => Q (.panic chain) a w''
        | .outgrown, _ => LetsOut Q) fun e w'' he => by cases e <;> first | exact he | exact he.elim)
      exact h2
    case round l f tmps asn bd =>
      refine ⟨hdp, ?_⟩
      have h2 : RoundIn Fence.wide 0 P l f tmps asn bd w' _ := RoundIn.mono h (R' := fun
        | .returned v, w'' => K (a.put o.dst v) w''
        | .panicked chain, w'' => Q (.panic chain) a w''
        | .outgrown, _ => LetsOut Q) fun e w'' he => by cases e <;> first | exact he | exact he.elim
      exact h2
  | halt x w' =>
    cases x <;> simp only [upon] at h <;> simp only [Oper.uponIn]
    exact h
theorem upon_mono {P : Program} {K K' : Value → World → Prop} {N N' : List PanicEntry → World → Prop} (hk : ∀ v w, K v w → K' v w) (hn : ∀ c w, N c w → N' c w) (r : Result Next)
    (h : upon P K N r) : upon P K' N' r := by
  cases r with
  | ok n w' =>
    cases n <;> simp only [upon] at h ⊢
    case value v => exact hk _ _ h
    case skip => exact hk _ _ h
    case enter f args =>
      refine Calls.mono h fun e w'' he => ?_
      cases e with
      | returned v => exact hk _ _ he
      | panicked c => exact hn _ _ he
      | outgrown => exact he
    case round l f tmps asn bd =>
      refine RoundIn.mono h fun e w'' he => ?_
      cases e with
      | returned v => exact hk _ _ he
      | panicked c => exact hn _ _ he
      | outgrown => exact he
  | halt x w' =>
    cases x <;> simp only [upon] at h ⊢
    exact hn _ _ h

section
variable {P : Program} {n : NN} {S : World → Prop} {Φ : Outs} {R : Ending → World → Prop} {Q : Exit → Act → World → Prop}

theorem guardT_sound {ops : Array Oper} {o : Oper} {e : Env} {run skip : Env → T} {a : Act} {w : World} (h : (guardT ops o e run skip).wp P S Φ R w) (ha : Agree n e a) :
    ∃ e', Agree n e' a ∧ Same [] e e' ∧ ((Region.wanted o (yielded ops a.tmps) = true ∧ (run e').wp P S Φ R w) ∨ (Region.wanted o (yielded ops a.tmps) = false ∧ (skip e').wp P S Φ R w)) := by
  unfold guardT at h
  unfold Region.wanted
  cases hg : o.guard with
  | none => simp only [hg] at h; exact ⟨e, ha, Same.refl _ _, .inl ⟨rfl, h⟩⟩
  | some jw =>
    obtain ⟨j, want⟩ := jw
    simp only [hg] at h ⊢
    cases hd : (ops[j]?).bind (·.dst) with
    | none => simp only [hd, T.wp] at h
    | some d =>
      simp only [hd] at h
      have yb : ∀ (b : Bool) (v : EV), e d = some v → v.val = .bool b → yielded ops a.tmps j = some b := fun b v hv hb => by
        have h1 := ha.val d v hv
        rw [hb] at h1
        unfold yielded
        simp only [hd, Option.bind_some]
        cases ht : a.tmps[d]? with
        | none => rw [Array.getD_eq_getD_getElem?, ht] at h1; simp [undef] at h1
        | some t => rw [Array.getD_eq_getD_getElem?, ht] at h1; simp only [Option.getD_some] at h1; subst h1; rfl
      have yt : ∀ (vs : Array Value) (v : EV), e d = some v → v.val = .tuple vs → yielded ops a.tmps j = none := fun vs v hv hb => by
        have h1 := ha.val d v hv
        rw [hb] at h1
        unfold yielded
        simp only [hd, Option.bind_some]
        cases ht : a.tmps[d]? with
        | none => rfl
        | some t => rw [Array.getD_eq_getD_getElem?, ht] at h1; simp only [Option.getD_some] at h1; subst h1; rfl
      split at h
      · rename_i b hb
        rw [yb b _ hb rfl]
        by_cases hbw : (b == want) = true
        · simp only [hbw, cond_true] at h
          exact ⟨e, ha, Same.refl _ _, .inl ⟨by simpa using hbw, h⟩⟩
        · have hbw' : (b == want) = false := by simpa using hbw
          simp only [hbw', cond_false] at h
          exact ⟨e, ha, Same.refl _ _, .inr ⟨by simpa using hbw', h⟩⟩
      · rename_i b hb
        rw [yb b _ hb rfl]
        cases want with
        | true =>
          simp only [cond_true, T.wp] at h
          cases b with
          | true =>
            obtain ⟨h1, h2⟩ := ha.refine (u := .lit true) hb rfl
            exact ⟨_, h1, h2, .inl ⟨rfl, h.1 rfl⟩⟩
          | false =>
            obtain ⟨h1, h2⟩ := ha.refine (u := .lit false) hb rfl
            exact ⟨_, h1, h2, .inr ⟨rfl, h.2 rfl⟩⟩
        | false =>
          simp only [cond_false, T.wp] at h
          cases b with
          | true =>
            obtain ⟨h1, h2⟩ := ha.refine (u := .lit true) hb rfl
            exact ⟨_, h1, h2, .inr ⟨rfl, h.1 rfl⟩⟩
          | false =>
            obtain ⟨h1, h2⟩ := ha.refine (u := .lit false) hb rfl
            exact ⟨_, h1, h2, .inl ⟨rfl, h.2 rfl⟩⟩
      · rename_i vs hb
        rw [yt vs _ hb rfl]
        exact ⟨e, ha, Same.refl _ _, .inr ⟨rfl, h⟩⟩
      · simp only [T.wp] at h

theorem opT_sound {o : Oper} {m : Option Ty} {e : Env} {k : Env → T} {a : Act} {w : World} {K : Act → World → Prop} (h : (opT P n o m e k).wp P S Φ R w) (ha : Agree n e a)
    (hk : ∀ e' a' w', Agree n e' a' → Same o.dst.toList e e' → (k e').wp P S Φ R w' → K a' w') (hp : ∀ c w', R (.panicked c) w' → Q (.panic c) a w') : o.wpIn (FW n.rd) 0 P a w K Q := by
  unfold opT at h
  cases ho : dstOk n o with
  | false => simp only [ho, cond_false, T.wp] at h
  | true =>
    simp only [ho, cond_true] at h
    refine wp_of_upon (dstOk_defer ho) ?_
    split at h
    · rename_i v hv
      rw [copyE_run ha hv]
      obtain ⟨h1, h2⟩ := ha.putD ho v
      exact hk _ _ _ h1 h2 h
    · cases hops : o.op.operands.all e.knows with
      | false => simp only [hops, cond_false, T.wp] at h
      | true =>
        simp only [hops, cond_true] at h
        rw [ha.exec ho hops]
        split at h
        · split at h
          · rename_i v hv
            rw [pureVal_run _ _ hv]
            obtain ⟨h1, h2⟩ := ha.put ho v
            exact hk _ _ _ h1 h2 h
          · simp only [T.wp] at h
        · rename_i t
          simp only [T.wp] at h
          refine upon_mono ?_ (fun c w' => hp c w') _ h
          rintro v w' ⟨x, rfl, hx⟩
          obtain ⟨h1, h2⟩ := ha.put ho (t.enc x)
          exact hk _ _ _ h1 h2 hx

theorem opsT_sound {ops : Array Oper} (hp : ∀ c a w', Kept n a → R (.panicked c) w' → Q (.panic c) a w') : ∀ (l : List Oper) (ms : List (Option Ty)) (e : Env) (k : Env → T) (a : Act) (w : World),
    (opsT P n ops l ms e k).wp P S Φ R w → Agree n e a →
    (∀ e' a' w', Agree n e' a' → Same (l.filterMap (·.dst)) e e' → (k e').wp P S Φ R w' → Q .normal a' w') → wpListIn (FW n.rd) 0 P ops Q l a w
  | [], ms, e, k, a, w, h, ha, hk => hk e a w ha (Same.refl _ _) (by simpa [opsT] using h)
  | o :: l, [], e, k, a, w, h, ha, hk => by simp [opsT, T.wp] at h
  | o :: l, m :: ms, e, k, a, w, h, ha, hk => by
    rw [opsT] at h
    obtain ⟨e1, ha1, hs1, hr⟩ := guardT_sound h ha
    have sub1 : ∀ i ∈ o.dst.toList, i ∈ (o :: l).filterMap (·.dst) := fun i hi => by
      cases hd : o.dst <;> simp [hd] at hi ⊢; simp [hi]
    have sub2 : ∀ i ∈ l.filterMap (·.dst), i ∈ (o :: l).filterMap (·.dst) := fun i hi => by
      cases hd : o.dst <;> simp [List.filterMap_cons, hd] at hi ⊢ <;> simp [hi]
    unfold wpListIn
    rcases hr with ⟨hw, hrun⟩ | ⟨hw, hskip⟩
    · rw [if_pos hw]
      refine opT_sound hrun ha1 (fun e2 a2 w2 ha2 hs2 h2 => ?_) fun c w' hc => hp c a w' ha.defers hc
      refine opsT_sound hp l ms e2 k a2 w2 h2 ha2 fun e3 a3 w3 ha3 hs3 h3 => hk e3 a3 w3 ha3 ?_ h3
      exact (hs1.trans (W := (o :: l).filterMap (·.dst)) hs2 (by simp) sub1).trans hs3 (fun i hi => hi) sub2
    · rw [if_neg (by rw [hw]; simp)]
      cases ho : dstOk n o with
      | false => simp only [ho, cond_false, T.wp] at hskip
      | true =>
        simp only [ho, cond_true] at hskip
        obtain ⟨ha2, hs2⟩ := ha1.put ho undef
        refine ⟨fun _ _ => trivial, ?_⟩
        refine opsT_sound hp l ms _ k _ w hskip ha2 fun e3 a3 w3 ha3 hs3 h3 => hk e3 a3 w3 ha3 ?_ h3
        exact (hs1.trans (W := (o :: l).filterMap (·.dst)) hs2 (by simp) sub1).trans hs3 (fun i hi => hi) sub2

theorem condT_sound {e : Env} {o : Operand} {x y : Env → T} {a : Act} {w : World} (h : (condT e o x y).wp P S Φ R w) (ha : Agree n e a) :
    ∃ b e', a.eval o = .bool b ∧ Agree n e' a ∧ Same [] e e' ∧ (if b then x e' else y e').wp P S Φ R w := by
  unfold condT at h
  split at h
  · rename_i b hb
    refine ⟨b, e, ha.ev hb, ha, Same.refl _ _, ?_⟩
    cases b <;> simpa using h
  · rename_i b hb
    split at h
    · rename_i d
      simp only [T.wp] at h
      cases b with
      | true =>
        obtain ⟨h1, h2⟩ := ha.refine (u := .lit true) (show e d = some (.v (.bool true)) from hb) rfl
        exact ⟨true, _, ha.ev hb, h1, h2, h.1 rfl⟩
      | false =>
        obtain ⟨h1, h2⟩ := ha.refine (u := .lit false) (show e d = some (.v (.bool false)) from hb) rfl
        exact ⟨false, _, ha.ev hb, h1, h2, h.2 rfl⟩
    · simp only [T.wp] at h
  · simp only [T.wp] at h
end

end Go.Proofs.YtjlgcpgjdgeejaaGreatDoor
end

/- The tree of a function's code speaks true: regions whose order is open, whole code, whole functions. Conditions: none. -/
section
namespace Go.Proofs.YtjlgcpgjdgeejaaGreatDoor
open Go
set_option linter.unusedSimpArgs false
set_option linter.unusedVariables false
set_option linter.constructorNameAsVariable false
section
variable {P : Program} {n : NN} {S : World → Prop} {Φ : Outs} {R : Ending → World → Prop} {Q : Exit → Act → World → Prop}

theorem mem_dsts {ops : Array Oper} {i : Nat} {o : Oper} (h : ops[i]? = some o) : ∀ d ∈ o.dst.toList, d ∈ ops.toList.filterMap (·.dst) := fun d hd => by
  have hm : o ∈ ops.toList := by simpa using Array.mem_of_getElem? h
  exact List.mem_filterMap.2 ⟨o, hm, by cases ho : o.dst <;> simp [ho] at hd ⊢; exact hd.symm⟩

def wpOpU (P : Program) (ops : Array Oper) (Q : Exit → Act → World → Prop) (i : Nat) (K : Act → World → Prop) (a : Act) (w : World) : Prop :=
  match ops[i]? with
  | none => K a w
  | some o => if Region.wanted o (yielded ops a.tmps) then (∀ c, o.op ≠ .defer c) ∧ upon P (fun v w' => K (a.put o.dst v) w') (fun c w' => Q (.panic c) a w') ((execOp a.eval o).run P w) else K (a.put o.dst undef) w
theorem wpOpU_mono {ops : Array Oper} {i : Nat} {K K' : Act → World → Prop} (h : ∀ a w, K a w → K' a w) {a : Act} {w : World} (hh : wpOpU P ops Q i K a w) : wpOpU P ops Q i K' a w := by
  unfold wpOpU at *
  split
  · exact h _ _ (by simpa [*] using hh)
  · rename_i o ho
    simp only [ho] at hh
    split
    · rename_i hw; simp only [hw, if_true] at hh; exact ⟨hh.1, upon_mono (fun v w' hv => h _ _ hv) (fun c w' hc => hc) _ hh.2⟩
    · rename_i hw; simp only [hw] at hh; exact h _ _ hh
theorem wpOpU.toIn {ro : Option Nat} {ops : Array Oper} {i : Nat} {K : Act → World → Prop} {a : Act} {w : World} (h : wpOpU P ops Q i K a w) : wpOpIn (FW ro) 0 P ops Q i K a w := by
  unfold wpOpU at h
  unfold wpOpIn
  split
  · simpa [*] using h
  · rename_i o ho
    simp only [ho] at h
    split
    · rename_i hw; simp only [hw, if_true] at h; exact wp_of_upon h.1 h.2
    · rename_i hw; simp only [hw] at h; exact ⟨fun _ _ => trivial, h⟩
theorem YieldsIf.wpOpU {ops : Array Oper} {i : Nat} {o : Oper} {v : Value} {a : Act} (hi : ops[i]? = some o) (hd : ∀ c, o.op ≠ .defer c) (hy : YieldsIf P ops S o v a)
    {K : Act → World → Prop} {w : World} (hS : S w) (h : K (a.put o.dst v) w) : wpOpU P ops Q i K a w := by
  unfold YtjlgcpgjdgeejaaGreatDoor.wpOpU
  simp only [hi]
  rcases hy with ⟨hw, hv⟩ | ⟨hw, rfl⟩
  · simp only [hw, if_true, hv w hS, upon]; exact ⟨hd, h⟩
  · simp only [hw, Bool.false_eq_true, if_false]; exact h
theorem wpOpU_putIf {ops : Array Oper} {j : Nat} {oi oj : Oper} {v : Value} (hj : ops[j]? = some oj) (hap : oi.apart ops oj = true)
    (hsi : ∀ cs b, oi.op ≠ .select cs b) (hsj : ∀ cs b, oj.op ≠ .select cs b)
    (hQ : ∀ c a w, Q (.panic c) (a.put oi.dst v) w → Q (.panic c) a w) {K : Act → World → Prop} {a : Act} {w : World}
    (hy : YieldsIf P ops S oi v a) (h : wpOpU P ops Q j K (a.put oi.dst v) w) :
    wpOpU P ops Q j (fun a' w' => YieldsIf P ops S oi v a' ∧ K (a'.put oi.dst v) w') a w := by
  obtain ⟨h1, h2, h3⟩ := Oper.apart_spec hap
  have keep : ∀ (a : Act), YieldsIf P ops S oi v a → ∀ u, YieldsIf P ops S oi v (a.put oj.dst u) := fun a hy u =>
    hy.of_same (execOp_put oi hsi a oj.dst u h3) (wanted_put oi a oj.dst u h3)
  unfold wpOpU at *
  simp only [hj] at *
  rw [wanted_put oj a oi.dst v h1] at h
  split
  · rename_i hw
    simp only [hw, if_true] at h
    refine ⟨h.1, ?_⟩
    replace h := h.2
    rw [execOp_put oj hsj a oi.dst v h1] at h
    refine upon_mono (fun u w' hu => ?_) (fun c w' hc => hQ _ _ _ hc) _ h
    exact ⟨keep a hy u, by rw [← Act.put_comm a v u h2]; exact hu⟩
  · rename_i hw
    simp only [hw] at h
    exact ⟨keep a hy _, by rw [← Act.put_comm a v undef h2]; exact h⟩
def AnyZ (P : Program) (ops : Array Oper) (Q : Exit → Act → World → Prop) (S : World → Prop) : Nat → Array Bool → Act → World → Prop
  | 0, listed, a, w => Region.ready .any ops listed = [] ∧ Q .normal a w
  | f + 1, listed, a, w => (Region.ready .any ops listed = [] → Q .normal a w) ∧
    ∀ i ∈ Region.ready .any ops listed, wpOpU P ops Q i (fun a' w' => (finalOp ops i = false → S w') ∧ AnyZ P ops Q S f (listed.setIfInBounds i true) a' w') a w
theorem AnyZ.any {ro : Option Nat} {ops : Array Oper} : ∀ (f : Nat) (listed : Array Bool) (a : Act) (w : World), AnyZ P ops Q S f listed a w → wpAnyIn (FW ro) 0 P .any ops Q f listed a w
  | 0, _, _, _, h => h
  | f + 1, _, _, _, h => ⟨h.1, fun i hi => (wpOpU_mono (fun a' w' h' => AnyZ.any f _ a' w' h'.2) (h.2 i hi)).toIn⟩
theorem AnyZ.done {ops : Array Oper} {listed : Array Bool} {a : Act} {w : World} (hr : Region.ready .any ops listed = []) (h : Q .normal a w) : ∀ f, AnyZ P ops Q S f listed a w
  | 0 => ⟨hr, h⟩
  | _ + 1 => ⟨fun _ => h, by rw [hr]; simp⟩
theorem AnyZ.all {ops : Array Oper} {listed : Array Bool} {a : Act} {w : World} {rs : List Nat} {f : Nat} (hr : Region.ready .any ops listed = rs) (hne : rs ≠ [])
    (h : ∀ i ∈ rs, wpOpU P ops Q i (fun a' w' => (finalOp ops i = false → S w') ∧ AnyZ P ops Q S f (listed.setIfInBounds i true) a' w') a w) : AnyZ P ops Q S (f + 1) listed a w :=
  ⟨fun h0 => absurd (hr ▸ h0) hne, hr ▸ h⟩
structure Done (ops : Array Oper) (listed : Array Bool) : Prop where
  size : listed.size = ops.size
  closed : ∀ k o, ops[k]? = some o → listed.getD k false = true → ∀ x ∈ o.after, Region.binds .any x = true → listed.getD x.on false = true
theorem Done.start (ops : Array Oper) : Done ops (Array.replicate ops.size false) :=
  ⟨by simp, fun k o _ h => by
    rw [Array.getD_eq_getD_getElem?] at h
    rcases Nat.lt_or_ge k ops.size with h' | h'
    · simp [h'] at h
    · simp [h'] at h⟩
theorem Done.next {ops : Array Oper} {listed : Array Bool} {i : Nat} (h : Done ops listed) (hi : i ∈ Region.ready .any ops listed) : Done ops (listed.setIfInBounds i true) := by
  obtain ⟨_, oi, hoi, hall⟩ := mem_ready.1 hi
  refine ⟨by simp [h.size], fun k o hk hl x hx hb => ?_⟩
  by_cases hik : i = k
  · subst hik
    have : o = oi := Option.some.inj (hk.symm.trans hoi)
    subst this
    exact getD_set_true (hall x hx hb)
  · rw [getD_set_ne false hik] at hl
    exact getD_set_true (h.closed k o hk hl x hx hb)
theorem direct_bits {ops : Array Oper} {listed : Array Bool} {k : Nat} (h : ∀ o, ops[k]? = some o → ∀ x ∈ o.after, Region.binds .any x = true → listed.getD x.on false = true) :
    ∀ b, (direct ops k).testBit b = true → listed.getD b false = true := by
  unfold direct
  cases ho : ops[k]? with
  | none => simp
  | some o =>
    have key : ∀ (l : List Edge) (s : Nat), (∀ x ∈ l, Region.binds .any x = true → listed.getD x.on false = true) → (∀ b, s.testBit b = true → listed.getD b false = true) →
        ∀ b, (l.foldl (fun s x => bif Region.binds .any x then s ||| 2 ^ x.on else s) s).testBit b = true → listed.getD b false = true := by
      intro l
      induction l with
      | nil => intro s _ hs b hb; exact hs b hb
      | cons x l ih =>
        intro s hl hs b hb
        refine ih _ (fun y hy => hl y (by simp [hy])) ?_ b hb
        intro b' hb'
        dsimp only at hb'
        cases hx : Region.binds .any x with
        | false => rw [hx] at hb'; exact hs b' hb'
        | true =>
          rw [hx] at hb'
          simp only [cond_true, Nat.testBit_or, Bool.or_eq_true] at hb'
          rcases hb' with hb' | hb'
          · exact hs b' hb'
          · rw [Nat.testBit_two_pow] at hb'
            have : x.on = b' := by simpa using hb'
            subst this
            exact hl x (by simp) hx
    exact key o.after.toList 0 (fun x hx hb => h o ho x (by simpa using hx) hb) (fun b hb => by simp at hb)
theorem upMask_bits {ops : Array Oper} {listed : Array Bool} (hd : Done ops listed) : ∀ (k m : Nat), (∀ b, m.testBit b = true → listed.getD b false = true) → ∀ b, (upMask ops k m).testBit b = true → listed.getD b false = true
  | 0, m, hm, b, hb => hm b hb
  | k + 1, m, hm, b, hb => by
    refine upMask_bits hd k _ ?_ b hb
    intro b' hb'
    cases hk : m.testBit k with
    | false => rw [hk] at hb'; exact hm b' hb'
    | true =>
      rw [hk] at hb'
      simp only [cond_true, Nat.testBit_or, Bool.or_eq_true] at hb'
      rcases hb' with hb' | hb'
      · exact hm b' hb'
      · exact direct_bits (fun o ho x hx hb => hd.closed k o ho (hm k hk) x hx hb) b' hb'
theorem not_final {ops : Array Oper} {listed : Array Bool} {i j : Nat} (hd : Done ops listed) (hj : j ∈ Region.ready .any ops listed) (hi : i ∈ Region.ready .any ops listed) (hne : i ≠ j) (hst : isStore ops i = false) : finalOp ops j = false := by
  cases hf : finalOp ops j with
  | false => rfl
  | true =>
    obtain ⟨hun, oi, hoi, _⟩ := mem_ready.1 hi
    obtain ⟨_, oj, hoj, hall⟩ := mem_ready.1 hj
    have hlt : i < ops.size := (Array.getElem?_eq_some_iff.1 hoi).1
    have h1 := List.all_eq_true.1 hf i (List.mem_range.2 hlt)
    simp only [Bool.or_eq_true] at h1
    rcases h1 with (h1 | h1) | h1
    · exact absurd (Nat.eq_of_beq_eq_true h1) hne
    · have := upMask_bits hd j _ (direct_bits fun o ho x hx hb => by
        have : o = oj := Option.some.inj (ho.symm.trans hoj)
        subst this; exact hall x hx hb) i h1
      have hsz : i < listed.size := by rw [hd.size]; exact hlt
      simp [hsz] at this hun
      rw [this] at hun; cases hun
    · rw [hst] at h1; cases h1
theorem AnyZ.first {ops : Array Oper} {i : Nat} {oi : Oper} {v : Value} (hi : ops[i]? = some oi) (hsel : Region.noSelect ops = true) (hst : isStore ops i = false) (hnd : ∀ c, oi.op ≠ .defer c)
    (hdl : ∀ d, oi.dst = some d → n.lo ≤ d) (hQ : ∀ c a d v w, (∀ i, d = some i → n.lo ≤ i) → Q (.panic c) (Act.put a d v) w → Q (.panic c) a w) : ∀ (f : Nat) (listed : Array Bool) (a : Act) (w : World), Done ops listed →
    (∀ j oj, ops[j]? = some oj → j ≠ i → listed.getD j true = false → (∀ x ∈ oj.after, Region.binds .any x = true → x.on ≠ i) → oi.apart ops oj = true) →
    i ∈ Region.ready .any ops listed → YieldsIf P ops S oi v a → S w → AnyZ P ops Q S f (listed.setIfInBounds i true) (a.put oi.dst v) w → AnyZ P ops Q S (f + 1) listed a w := by
  intro f
  induction f with
  | zero =>
    intro listed a w hd _ hr hy hS H
    refine ⟨fun h => (by rw [h] at hr; cases hr), fun j hj => ?_⟩
    by_cases hji : j = i
    · subst hji; exact YieldsIf.wpOpU hi hnd hy hS ⟨fun _ => hS, H⟩
    · have := ready_mono hj hji; rw [H.1] at this; cases this
  | succ f ih =>
    intro listed a w hd hfree hr hy hS H
    refine ⟨fun h => (by rw [h] at hr; cases hr), fun j hj => ?_⟩
    by_cases hji : j = i
    · subst hji; exact YieldsIf.wpOpU hi hnd hy hS ⟨fun _ => hS, H⟩
    obtain ⟨hjun, oj, hoj, hall⟩ := mem_ready.1 hj
    have hnot : ∀ x ∈ oj.after, Region.binds .any x = true → x.on ≠ i := fun x hx hb heq => by
      have h1 := hall x hx hb
      have h0 := (mem_ready.1 hr).1
      rw [heq] at h1
      rcases Nat.lt_or_ge i listed.size with h' | h'
      · simp [h'] at h0 h1; rw [h0] at h1; cases h1
      · simp [Array.getElem?_eq_none h'] at h1
    have hnf := not_final hd hj hr (Ne.symm hji) hst
    have h2 := wpOpU_putIf hoj (hfree j oj hoj hji hjun hnot) (fun cs b => Region.noSelect_spec hsel i oi cs b hi) (fun cs b => Region.noSelect_spec hsel j oj cs b hoj)
      (fun c a w => hQ c a _ _ w hdl) hy (H.2 j (ready_mono hj hji))
    refine wpOpU_mono (fun a' w' h3 => ?_) h2
    obtain ⟨hy', hS', hz⟩ := h3
    refine ⟨hS', ih _ a' w' (hd.next hj) (fun k ok hk hki hun hno => hfree k ok hk hki ?_ hno) (ready_mono hr (Ne.symm hji)) hy' (hS' hnf) ?_⟩
    · by_cases hjk : j = k
      · subst hjk; exact hjun
      · rw [getD_set_ne true hjk] at hun; exact hun
    · rw [Array.setIfInBounds_comm _ _ hji]; exact hz

theorem loudT_sound {ops : Array Oper} {i : Nat} {m : Option Ty} {e : Env} {next : Env → T} {a : Act} {w : World} {K : Act → World → Prop}
    (hp : ∀ c a w', Kept n a → R (.panicked c) w' → Q (.panic c) a w')
    (h : (loudT ops n i m e next).wp P S Φ R w) (hS : finalOp ops i = false → S w) (ha : Agree n e a)
    (hk : ∀ e' a' w', Agree n e' a' → Same (ops.toList.filterMap (·.dst)) e e' → (finalOp ops i = false → S w') → (next e').wp P S Φ R w' → K a' w') :
    wpOpU P ops Q i (fun a' w' => (finalOp ops i = false → S w') ∧ K a' w') a w := by
  unfold loudT at h
  unfold wpOpU
  cases hi : ops[i]? with
  | none => simp only [hi, T.wp] at h
  | some o =>
    simp only [hi] at h ⊢
    cases ho : dstOk n o with
    | false => simp only [ho, cond_false, T.wp] at h
    | true =>
      simp only [ho, cond_true] at h
      obtain ⟨e1, ha1, hs1, hr⟩ := guardT_sound h ha
      have sub := mem_dsts hi
      rcases hr with ⟨hw, hrun⟩ | ⟨hw, hskip⟩
      · rw [if_pos hw]
        cases hops : o.op.operands.all e1.knows with
        | false => simp only [hops, cond_false, T.wp] at hrun
        | true =>
          simp only [hops, cond_true] at hrun
          split at hrun
          · rename_i t
            refine ⟨dstOk_defer ho, ?_⟩
            rw [ha1.exec ho hops]
            cases hf : finalOp ops i with
            | false =>
              simp only [hf, cond_false, T.wp] at hrun
              refine upon_mono ?_ (fun c w' hc => hp c a w' ha.defers hc) _ hrun
              rintro v w' ⟨hS', x, rfl, hx⟩
              obtain ⟨h1, h2⟩ := ha1.put ho (t.enc x)
              exact ⟨fun _ => hS', hk _ _ _ h1 (hs1.trans h2 (by simp) sub) (fun _ => hS') hx⟩
            | true =>
              simp only [hf, cond_true, T.wp] at hrun
              refine upon_mono ?_ (fun c w' hc => hp c a w' ha.defers hc) _ hrun
              rintro v w' ⟨x, rfl, hx⟩
              obtain ⟨h1, h2⟩ := ha1.put ho (t.enc x)
              exact ⟨fun h => (by cases h), hk _ _ _ h1 (hs1.trans h2 (by simp) sub) (fun h => by rw [hf] at h; cases h) hx⟩
          · simp only [T.wp] at hrun
      · rw [if_neg (by rw [hw]; simp)]
        obtain ⟨h1, h2⟩ := ha1.put ho undef
        exact ⟨hS, hk _ _ _ h1 (hs1.trans h2 (by simp) sub) hS hskip⟩

theorem drawT_sound {ops : Array Oper} (hsel : Region.noSelect ops = true) (hp : ∀ c a w', Kept n a → R (.panicked c) w' → Q (.panic c) a w')
    (hQp : ∀ c a d v w, (∀ i, d = some i → n.lo ≤ i) → Q (.panic c) (Act.put a d v) w → Q (.panic c) a w) :
    ∀ (f : Nat) (l : Dr) (listed : Array Bool) (e : Env) (k : Env → T) (a : Act) (w : World), (drawT P n ops l f listed e k).wp P S Φ R w → (l.calm ops = false → S w) → Agree n e a → Done ops listed →
      (∀ e' a' w', Agree n e' a' → Same (ops.toList.filterMap (·.dst)) e e' → (k e').wp P S Φ R w' → Q .normal a' w') → AnyZ P ops Q S f listed a w := by
  intro f
  induction f with
  | zero =>
    intro l listed e k a w h hS ha hdone hk
    cases l with
    | e =>
      simp only [drawT] at h
      cases hr : (Region.ready .any ops listed).isEmpty with
      | false => simp only [hr, cond_false, T.wp] at h
      | true =>
        simp only [hr, cond_true] at h
        exact AnyZ.done (List.isEmpty_iff.1 hr) (hk e a w ha (Same.refl _ _) h) 0
    | _ => simp only [drawT, T.wp] at h
  | succ f ih =>
    intro l listed e k a w h hS ha hdone hk
    cases l with
    | e =>
      simp only [drawT] at h
      cases hr : (Region.ready .any ops listed).isEmpty with
      | false => simp only [hr, cond_false, T.wp] at h
      | true =>
        simp only [hr, cond_true] at h
        exact AnyZ.done (List.isEmpty_iff.1 hr) (hk e a w ha (Same.refl _ _) h) _
    | q i m l =>
      replace hS := hS rfl
      simp only [drawT] at h
      cases hc : (Region.free .any ops listed i && (Region.ready .any ops listed).contains i && !isStore ops i) with
      | false => simp only [hc, cond_false, T.wp] at h
      | true =>
        simp only [hc, cond_true] at h
        simp only [Bool.and_eq_true] at hc
        obtain ⟨hc, hst⟩ := hc
        replace hst : isStore ops i = false := by simpa using hst
        unfold quietT at h
        cases hi : ops[i]? with
        | none => simp only [hi, T.wp] at h
        | some o =>
          simp only [hi] at h
          cases ho : dstOk n o with
          | false => simp only [ho, cond_false, T.wp] at h
          | true =>
            simp only [ho, cond_true] at h
            obtain ⟨e1, ha1, hs1, hr⟩ := guardT_sound h ha
            have sub := mem_dsts hi
            have fin : ∀ (v : Value) (e2 : Env), Agree n e2 (a.put o.dst v) → Same o.dst.toList e1 e2 → YieldsIf P ops S o v a →
                (drawT P n ops l f (listed.setIfInBounds i true) e2 k).wp P S Φ R w → AnyZ P ops Q S (f + 1) listed a w := fun v e2 h1 h2 hy hd =>
              AnyZ.first (n := n) hi hsel hst (dstOk_defer ho) (dstOk_lo ho) hQp f listed a w hdone (Region.free_spec hi hc.1) (by simpa using hc.2) hy hS
                (ih l _ e2 k _ w hd (fun _ => hS) h1 (hdone.next (by simpa using hc.2)) fun e' a' w' ha' hs' hk' => hk e' a' w' ha' ((hs1.trans h2 (by simp) sub).trans hs' (fun i hi => hi) (fun i hi => hi)) hk')
            rcases hr with ⟨hw, hrun⟩ | ⟨hw, hskip⟩
            · split at hrun
              · rename_i v hv
                obtain ⟨h1, h2⟩ := ha1.putD ho v
                exact fin _ _ h1 h2 (.inl ⟨hw, fun w' _ => copyE_run ha1 hv w'⟩) hrun
              · cases hops : o.op.operands.all e1.knows with
                | false => simp only [hops, cond_false, T.wp] at hrun
                | true =>
                  simp only [hops, cond_true] at hrun
                  split at hrun
                  · split at hrun
                    · rename_i v hv
                      obtain ⟨h1, h2⟩ := ha1.put ho v
                      exact fin _ _ h1 h2 (.inl ⟨hw, fun w' _ => by rw [ha1.exec ho hops]; exact pureVal_run _ _ hv w'⟩) hrun
                    · simp only [T.wp] at hrun
                  · rename_i t
                    simp only [T.wp] at hrun
                    obtain ⟨x, _, hall, hx⟩ := hrun
                    obtain ⟨h1, h2⟩ := ha1.put ho (t.enc x)
                    exact fin _ _ h1 h2 (.inl ⟨hw, fun w' hw' => by rw [ha1.exec ho hops]; exact hall w' hw'⟩) hx
            · obtain ⟨h1, h2⟩ := ha1.put ho undef
              exact fin _ _ h1 h2 (.inr ⟨hw, rfl⟩) hskip
    | l i m l =>
      have hS1 : finalOp ops i = false → S w := fun hf => hS (by simp [Dr.calm, hf])
      simp only [drawT] at h
      cases hc : (Region.ready .any ops listed == [i] && (!finalOp ops i || l.calm ops)) with
      | false => simp only [hc, cond_false, T.wp] at h
      | true =>
        simp only [hc, cond_true] at h
        simp only [Bool.and_eq_true] at hc
        refine AnyZ.all (by simpa using hc.1) (by simp) fun j hj => ?_
        obtain rfl : j = i := by simpa using hj
        have HC := hc.2
        have HR : j ∈ Region.ready .any ops listed := by rw [show Region.ready .any ops listed = [j] from by simpa using hc.1]; simp
        refine loudT_sound hp h hS1 ha fun e' a' w' ha' hs' hS' hx => ?_
        exact ih l _ e' k a' w' hx (fun hl => hS' (by simpa [hl] using HC)) ha' (hdone.next HR) fun e2 a2 w2 ha2 hs2 h2 => hk e2 a2 w2 ha2 (hs'.trans hs2 (fun i hi => hi) (fun i hi => hi)) h2
    | l2 i m l j m' l' =>
      have hS1 : finalOp ops i = false → S w := fun hf => hS (by simp [Dr.calm, hf])
      have hS2 : finalOp ops j = false → S w := fun hf => hS (by simp [Dr.calm, hf])
      simp only [drawT] at h
      cases hc : (Region.ready .any ops listed == [i, j] && (!finalOp ops i || l.calm ops) && (!finalOp ops j || l'.calm ops)) with
      | false => simp only [hc, cond_false, T.wp] at h
      | true =>
        simp only [hc, cond_true, T.wp] at h
        simp only [Bool.and_eq_true] at hc
        have HC := hc.1.2
        have HC2 := hc.2
        refine AnyZ.all (rs := [i, j]) (by simpa using hc.1.1) (by simp) fun x hx => ?_
        have hx' : x = i ∨ x = j := by simpa using hx
        have HR : x ∈ Region.ready .any ops listed := by rw [show Region.ready .any ops listed = [i, j] from by simpa using hc.1.1]; exact hx
        rcases hx' with rfl | rfl
        · refine loudT_sound hp h.1 hS1 ha fun e' a' w' ha' hs' hS' hx => ?_
          exact ih l _ e' k a' w' hx (fun hl => hS' (by simpa [hl] using HC)) ha' (hdone.next HR) fun e2 a2 w2 ha2 hs2 h2 => hk e2 a2 w2 ha2 (hs'.trans hs2 (fun i hi => hi) (fun i hi => hi)) h2
        · refine loudT_sound hp h.2 hS2 ha fun e' a' w' ha' hs' hS' hx => ?_
          exact ih l' _ e' k a' w' hx (fun hl => hS' (by simpa [hl] using HC2)) ha' (hdone.next HR) fun e2 a2 w2 ha2 hs2 h2 => hk e2 a2 w2 ha2 (hs'.trans hs2 (fun i hi => hi) (fun i hi => hi)) h2
end

theorem gets_cons {e : Env} {s : Nat} {ss : List Nat} {vs : List Value} (h : e.gets (s :: ss) = some vs) : ∃ v us, e s = some v ∧ e.gets ss = some us ∧ vs = v.val :: us := by
  unfold Env.gets at h
  split at h
  · rename_i v us h1 h2; exact ⟨v, us, h1, h2, by simpa using h.symm⟩
  · cases h
theorem Agree.puts {n : NN} {a : Act} {e' : Env} (ha' : Agree n e' a) : ∀ (ss : List Nat) (vs : List Value) (e : Env), Agree n e a → e'.gets ss = some vs → Agree n (e.puts ss vs) a
  | [], vs, e, ha, h => by simpa [Env.puts] using ha
  | s :: ss, vs, e, ha, h => by
    obtain ⟨v, us, h1, h2, rfl⟩ := gets_cons h
    refine Agree.puts ha' ss us _ ⟨ha.defers, ha.size, fun i x hx => ?_⟩ h2
    by_cases hi : i = s
    · subst hi; rw [putE_self] at hx; cases hx; exact ha'.val _ v h1
    · rw [putE_ne e _ hi] at hx; exact ha.val i x hx

def Below' (lv : Nat) (Φ Φ' : Outs) : Prop := ∀ l, l < lv → Φ' l = Φ l
theorem Below'.set {lv : Nat} (Φ : Outs) (J : List Value → World → Prop) : Below' lv Φ (Φ.set lv J) := fun l hl => by
  unfold Outs.set; rw [if_neg (by omega)]
theorem Outs.set_self (Φ : Outs) (l : Nat) (J : List Value → World → Prop) : Φ.set l J l = J := by simp [Outs.set]

theorem outT_sound {P : Program} {S : World → Prop} {Φ : Outs} {R : Ending → World → Prop} {l : Nat} {ss : List Nat} {e : Env} {w : World} (h : (outT l ss e).wp P S Φ R w) :
    ∃ vs, e.gets ss = some vs ∧ Φ l vs w := by
  unfold outT at h
  split at h
  · rename_i vs hv; exact ⟨vs, hv, h⟩
  · simp only [T.wp] at h

theorem Same.of_forget (W : List Nat) (e : Env) : Same W e (e.forget W) := fun i hi v hv => ⟨v, by
  unfold Env.forget
  cases hw : W.elem i with
  | true => exact absurd (List.mem_of_elem_eq_true hw) hi
  | false => exact hv, rfl⟩
theorem Same.puts {W : List Nat} {e e' : Env} (hs : Same W e e') : ∀ (ss : List Nat) (vs : List Value) (b : Env), Same W e b → e'.gets ss = some vs → Same W e (b.puts ss vs)
  | [], vs, b, hb, h => by simpa [Env.puts] using hb
  | s :: ss, vs, b, hb, h => by
    obtain ⟨v, us, h1, h2, rfl⟩ := gets_cons h
    refine Same.puts hs ss us _ (fun i hi u hu => ?_) h2
    by_cases his : i = s
    · subst his
      obtain ⟨v', e1, e2⟩ := hs i hi u hu
      rw [h1] at e1; cases e1
      exact ⟨_, putE_self .., e2⟩
    · rw [putE_ne b _ his]; exact hb i hi u hu
theorem joined {W : List Nat} {n : NN} {e e' : Env} {a : Act} {ss : List Nat} {vs : List Value} (ha : Agree n e' a) (hs : Same W e e') (hg : e'.gets ss = some vs) :
    Agree n ((e.forget W).puts ss vs) a ∧ Same W e ((e.forget W).puts ss vs) :=
  ⟨Agree.puts ha ss vs _ (hs.forget ha) hg, hs.puts ss vs _ (Same.of_forget W e) hg⟩

theorem least_of {p : Nat → Prop} (h : ∃ k, p k) : ∃ k, p k ∧ ∀ j, p j → k ≤ j := by
  obtain ⟨k, hk⟩ := h
  induction k using Nat.strongRecOn with
  | _ k ih =>
    by_cases hx : ∃ j, j < k ∧ p j
    · obtain ⟨j, hj, hp⟩ := hx; exact ih j hj hp
    · exact ⟨k, hk, fun j hj => Nat.le_of_not_lt fun hlt => hx ⟨j, hlt, hj⟩⟩
open Classical in
noncomputable def leastI (I : Nat → Act → World → Prop) (a : Act) (w : World) : Nat := if h : ∃ k, I k a w then Classical.choose (least_of h) else 0
theorem leastI_mem {I : Nat → Act → World → Prop} {a : Act} {w : World} (h : ∃ k, I k a w) : I (leastI I a w) a w := by
  unfold leastI; rw [dif_pos h]; exact (Classical.choose_spec (least_of h)).1
theorem leastI_le {I : Nat → Act → World → Prop} {a : Act} {w : World} {k : Nat} (h : I k a w) : leastI I a w ≤ k := by
  unfold leastI; rw [dif_pos ⟨k, h⟩]; exact (Classical.choose_spec (least_of ⟨k, h⟩)).2 k h
theorem wpIn_loop_nat {F : Fence} {m : Nat} {P : Program} {c : Code} {Q : Exit → Act → World → Prop} {a : Act} {w : World} (I : Nat → Act → World → Prop) (h0 : ∃ k, I k a w)
    (round : ∀ k a w, I k a w → c.wpIn F m P (Exit.then (fun a' w' => ∃ k', k' < k ∧ I k' a' w') Q) a w) : (Code.loop c).wpIn F m P Q a w :=
  wpIn_loop (fun a w => ∃ k, I k a w) (leastI I) h0 fun a w h => Code.wpIn_mono (fun e a' w' q => by
    cases e with
    | normal => obtain ⟨k', hk, hi⟩ := q; exact ⟨⟨k', hi⟩, Nat.lt_of_le_of_lt (leastI_le hi) hk⟩
    | _ => exact q) (round _ a w (leastI_mem h))
theorem wp_scope_nat {P : Program} {c rest : Code} {Q : Exit → Act → World → Prop} {a : Act} {w : World} (l : Nat) (I : Nat → Act → World → Prop) (hf : findLabel c l = some rest)
    (first : c.wp P (Exit.jump l (fun a w => ∃ k, I k a w) Q) a w)
    (pass : ∀ k a w, I k a w → rest.wp P (Exit.jump l (fun a' w' => ∃ k', k' < k ∧ I k' a' w') Q) a w) : (Code.scope c).wp P Q a w :=
  wp_scope_jumps l (fun a w => ∃ k, I k a w) (leastI I) hf first fun a w h => Code.wp_mono (fun e a' w' q => by
    cases e with
    | goto l' => obtain ⟨hl, k', hk, hi⟩ := q; exact ⟨hl, ⟨k', hi⟩, Nat.lt_of_le_of_lt (leastI_le hi) hk⟩
    | _ => exact q) (pass _ a w (leastI_mem h))

section
variable {P : Program} {n : NN} {rv : Array ResultVar} {R : Ending → World → Prop}

def DenOk (P : Program) (n : NN) (R : Ending → World → Prop) (W : List Nat) (t : Nat → Env → (Env → T) → (Exit → Env → T) → T) (c : Code) : Prop :=
  ∀ (lv : Nat) (e : Env) (kN : Env → T) (kX : Exit → Env → T) (a : Act) (w : World) (Φ : Outs) (S : World → Prop) (Q : Exit → Act → World → Prop),
    (t lv e kN kX).wp P S Φ R w → Agree n e a →
    (∀ Φ' S' e' a' w', Below' lv Φ Φ' → Agree n e' a' → Same W e e' → (kN e').wp P S' Φ' R w' → Q .normal a' w') →
    (∀ Φ' S' ex e' a' w', ex ≠ .normal → Below' lv Φ Φ' → Agree n e' a' → Same W e e' → (kX ex e').wp P S' Φ' R w' → Q ex a' w') →
    (∀ c a w', Kept n a → R (.panicked c) w' → Q (.panic c) a w') → (∀ c a d v w, (∀ i, d = some i → n.lo ≤ i) → Q (.panic c) (Act.put a d v) w → Q (.panic c) a w) → c.wpIn (FW n.rd) 0 P Q a w
theorem DenOk.wp {W : List Nat} {t : Nat → Env → (Env → T) → (Exit → Env → T) → T} {c : Code} (h : DenOk P n R W t c) (hn : n.rd = none) (lv : Nat) (e : Env) (kN : Env → T) (kX : Exit → Env → T) (a : Act) (w : World) (Φ : Outs) (S : World → Prop) (Q : Exit → Act → World → Prop)
    (h1 : (t lv e kN kX).wp P S Φ R w) (h2 : Agree n e a)
    (h3 : ∀ Φ' S' e' a' w', Below' lv Φ Φ' → Agree n e' a' → Same W e e' → (kN e').wp P S' Φ' R w' → Q .normal a' w')
    (h4 : ∀ Φ' S' ex e' a' w', ex ≠ .normal → Below' lv Φ Φ' → Agree n e' a' → Same W e e' → (kX ex e').wp P S' Φ' R w' → Q ex a' w')
    (h5 : ∀ c a w', Kept n a → R (.panicked c) w' → Q (.panic c) a w') (h6 : ∀ c a d v w, (∀ i, d = some i → n.lo ≤ i) → Q (.panic c) (Act.put a d v) w → Q (.panic c) a w) : c.wp P Q a w := by
  have := h lv e kN kX a w Φ S Q h1 h2 h3 h4 h5 h6
  rw [hn] at this
  exact wpIn_wide.1 this

theorem Below'.refl (lv : Nat) (Φ : Outs) : Below' lv Φ Φ := fun _ _ => rfl
theorem Below'.trans {lv : Nat} {a b c : Outs} (h : Below' lv a b) (k : Below' lv b c) : Below' lv a c := fun l hl => (k l hl).trans (h l hl)
theorem Below'.le {lv lv' : Nat} {a b : Outs} (h : Below' lv' a b) (hl : lv ≤ lv') : Below' lv a b := fun l hl' => h l (by omega)

theorem DenOk.seq {W1 W2 : List Nat} {t1 t2 : Nat → Env → (Env → T) → (Exit → Env → T) → T} {c d : Code} (h1 : DenOk P n R W1 t1 c) (h2 : DenOk P n R W2 t2 d) :
    DenOk P n R (W1 ++ W2) (fun lv e kN kX => t1 lv e (fun e' => t2 lv e' kN kX) kX) (.seq c d) := by
  intro lv e kN kX a w Φ S Q h ha hN hX hp hq
  refine wpIn_seq (h1 lv e _ kX a w Φ S _ h ha ?_ ?_ hp hq)
  · intro Φ' S' e' a' w' hb ha' hs' h'
    refine h2 lv e' kN kX a' w' Φ' S' Q h' ha' ?_ ?_ hp hq
    · exact fun Φ2 S2 e2 a2 w2 hb2 ha2 hs2 h2 => hN Φ2 S2 e2 a2 w2 (hb.trans hb2) ha2 (hs'.trans hs2 (fun i hi => by simp [hi]) (fun i hi => by simp [hi])) h2
    · exact fun Φ2 S2 ex e2 a2 w2 hne hb2 ha2 hs2 h2 => hX Φ2 S2 ex e2 a2 w2 hne (hb.trans hb2) ha2 (hs'.trans hs2 (fun i hi => by simp [hi]) (fun i hi => by simp [hi])) h2
  · intro Φ' S' ex e' a' w' hne hb ha' hs' h'
    have := hX Φ' S' ex e' a' w' hne hb ha' (hs'.mono fun i hi => by simp [hi]) h'
    cases ex <;> first | exact this | exact absurd rfl hne
theorem DenOk.mono {W W' : List Nat} {t : Nat → Env → (Env → T) → (Exit → Env → T) → T} {c : Code} (h : DenOk P n R W t c) (hs : ∀ i ∈ W, i ∈ W') : DenOk P n R W' t c :=
  fun lv e kN kX a w Φ S Q h' ha hN hX hp hq => h lv e kN kX a w Φ S Q h' ha
    (fun Φ' S' e' a' w' hb ha' hs' => hN Φ' S' e' a' w' hb ha' (hs'.mono hs)) (fun Φ' S' ex e' a' w' hne hb ha' hs' => hX Φ' S' ex e' a' w' hne hb ha' (hs'.mono hs)) hp hq

theorem DenOk.join {W : List Nat} {t : Nat → Env → (Env → T) → (Exit → Env → T) → T} {c : Code} (h : DenOk P n R W t c) (ts : List (Nat × C)) :
    DenOk P n R W (fun lv e kN kX => .join lv (ts.map (·.2)) (t (lv + 1) e (outT lv (ts.map (·.1))) kX) fun x => kN ((e.forget W).puts (ts.map (·.1)) (HC.enc _ x))) c := by
  intro lv e kN kX a w Φ S Q h' ha hN hX hp hq
  simp only [T.wp] at h'
  refine h (lv + 1) e _ kX a w _ S Q h' ha ?_ ?_ hp hq
  · intro Φ' S' e' a' w' hb ha' hs' hx
    obtain ⟨vs, hg, ho⟩ := outT_sound hx
    rw [hb lv (Nat.lt_succ_self lv), Outs.set_self] at ho
    obtain ⟨x, rfl, hx⟩ := ho
    obtain ⟨h1, h2⟩ := joined ha' hs' hg
    exact hN Φ S _ a' w' (Below'.refl _ _) h1 h2 hx
  · intro Φ' S' ex e' a' w' hne hb ha' hs' hx
    exact hX Φ' S' ex e' a' w' hne ((Below'.set Φ _).trans (hb.le (Nat.le_succ lv))) ha' hs' hx

theorem region_ok (i : Nat) (ops : Array Oper) (ms : List (Option Ty)) :
    DenOk P n R (ops.toList.filterMap (·.dst)) (fun _ e kN _ => opsT P n ops ops.toList ms e kN) (.region i ops false) := by
  intro lv e kN kX a w Φ S Q h ha hN hX hp hq
  exact wpIn_region_list (opsT_sound hp ops.toList ms e kN a w h ha fun e' a' w' ha' hs' h' => hN Φ S e' a' w' (Below'.refl _ _) ha' hs' h')
theorem draw_ok (i : Nat) (ops : Array Oper) (l : Dr) (hm : P.follows .mixedOrders = true) (hsel : Region.noSelect ops = true) :
    DenOk P n R (ops.toList.filterMap (·.dst)) (fun _ e kN _ => .draw (drawT P n ops l ops.size (Array.replicate ops.size false) e kN)) (.region i ops true) := by
  intro lv e kN kX a w Φ S Q h ha hN hX hp hq
  simp only [T.wp] at h
  obtain ⟨S', hS, h⟩ := h
  exact wpIn_region_any hm (AnyZ.any _ _ _ _ (drawT_sound hsel hp hq ops.size l _ e kN a _ h (fun _ => hS) ha (Done.start ops) fun e' a' w' ha' hs' h' => hN Φ S' e' a' w' (Below'.refl _ _) ha' hs' h'))
theorem bad_ok {W : List Nat} (c : Code) : DenOk P n R W (fun _ _ _ _ => .bad) c := fun _ _ _ _ _ _ _ _ _ h => by simp only [T.wp] at h
theorem cond_ok {c d : Code} {t1 t2 : Nat → Env → (Env → T) → (Exit → Env → T) → T} (o : Operand) (h1 : DenOk P n R (writes c) t1 c) (h2 : DenOk P n R (writes d) t2 d) :
    DenOk P n R (writes c ++ writes d) (fun lv e kN kX => condT e o (fun e => t1 lv e kN kX) fun e => t2 lv e kN kX) (.cond o c d) := by
  intro lv e kN kX a w Φ S Q h ha hN hX hp hq
  obtain ⟨b, e1, hb, ha1, hs1, h⟩ := condT_sound h ha
  refine wpIn_cond hb ?_
  cases b with
  | true =>
    refine h1 lv e1 kN kX a w Φ S Q h ha1 ?_ ?_ hp hq
    · exact fun Φ' S' e' a' w' hb ha' hs' => hN Φ' S' e' a' w' hb ha' (hs1.trans hs' (by simp) (fun i hi => by simp [hi]))
    · exact fun Φ' S' ex e' a' w' hne hb ha' hs' => hX Φ' S' ex e' a' w' hne hb ha' (hs1.trans hs' (by simp) (fun i hi => by simp [hi]))
  | false =>
    refine h2 lv e1 kN kX a w Φ S Q h ha1 ?_ ?_ hp hq
    · exact fun Φ' S' e' a' w' hb ha' hs' => hN Φ' S' e' a' w' hb ha' (hs1.trans hs' (by simp) (fun i hi => by simp [hi]))
    · exact fun Φ' S' ex e' a' w' hne hb ha' hs' => hX Φ' S' ex e' a' w' hne hb ha' (hs1.trans hs' (by simp) (fun i hi => by simp [hi]))
theorem block_ok {c : Code} {W : List Nat} {t : Nat → Env → (Env → T) → (Exit → Env → T) → T} (i : Nat) (h1 : DenOk P n R W t c) :
    DenOk P n R W (fun lv e kN kX => t lv e kN fun ex e' => match ex with | .exit i' => bif Nat.beq i' i then kN e' else kX ex e' | _ => kX ex e') (.block i c) := by
  intro lv e kN kX a w Φ S Q h ha hN hX hp hq
  refine wpIn_block (h1 lv e _ _ a w Φ S _ h ha (fun Φ' S' e' a' w' hb ha' hs' hx => hN Φ' S' e' a' w' hb ha' hs' hx) ?_ hp hq)
  intro Φ' S' ex e' a' w' hne hb ha' hs' hx
  cases ex with
  | exit i' =>
    by_cases hi : i' = i
    · simp only [Exit.inBlock, if_pos hi]
      subst hi
      simp only [Nat.beq_refl, cond_true] at hx
      exact hN Φ' S' e' a' w' hb ha' hs' hx
    · simp only [Exit.inBlock, if_neg hi]
      have : Nat.beq i' i = false := by
        cases hb : Nat.beq i' i with
        | true => exact absurd (Nat.eq_of_beq_eq_true hb) hi
        | false => rfl
      simp only [this, cond_false] at hx
      exact hX Φ' S' _ e' a' w' (by simp) hb ha' hs' hx
  | normal => exact absurd rfl hne
  | goto l => exact hX Φ' S' _ e' a' w' (by simp) hb ha' hs' hx
  | ret => exact hX Φ' S' _ e' a' w' (by simp) hb ha' hs' hx
  | panic c => exact hX Φ' S' _ e' a' w' (by simp) hb ha' hs' hx
  | outgrown => exact hX Φ' S' _ e' a' w' (by simp) hb ha' hs' hx

theorem den_ok : ∀ (c : Code), (∀ an, DenOk P n R (writes c) (fun lv e kN kX => den P n rv c an lv e kN kX) c) ∧
    (∀ lbl rest, findLabel c lbl = some rest → ∀ an, DenOk P n R (writes c) (fun lv e kN kX => denFrom P n rv lbl c an lv e kN kX) rest) := by
  intro c
  induction c with
  | seq c d ihc ihd =>
    constructor
    · intro an
      cases an with
      | s x y => simp only [den]; exact (ihc.1 x).seq (ihd.1 y)
      | _ => simp only [den]; exact bad_ok _
    · intro lbl rest hf an
      cases an with
      | s x y =>
        simp only [denFrom]
        unfold findLabel at hf
        split at hf
        · rename_i r hr
          obtain rfl := by simpa using hf.symm
          simp only [hr]
          exact (ihc.2 lbl r hr x).seq (ihd.1 y)
        · rename_i hr
          simp only [hr]
          exact (ihd.2 lbl rest hf y).mono fun i hi => by simp [writes, hi]
      | _ => simp only [denFrom]; exact bad_ok _
  | label l =>
    constructor
    · intro an lv e kN kX a w Φ S Q h ha hN hX hp hq
      simp only [den] at h
      exact wpIn_label (hN Φ S e a w (Below'.refl _ _) ha (Same.refl _ _) h)
    · intro lbl rest hf an lv e kN kX a w Φ S Q h ha hN hX hp hq
      unfold findLabel at hf
      split at hf
      · obtain rfl := by simpa using hf.symm
        simp only [denFrom] at h
        cases hb : Nat.beq l lbl with
        | true => simp only [hb, cond_true] at h; exact wpIn_skip (hN Φ S e a w (Below'.refl _ _) ha (Same.refl _ _) h)
        | false => simp only [hb, cond_false, T.wp] at h
      · cases hf
  | skip =>
    refine ⟨fun an lv e kN kX a w Φ S Q h ha hN hX hp hq => ?_, fun lbl rest hf => by simp [findLabel] at hf⟩
    simp only [den] at h
    exact wpIn_skip (hN Φ S e a w (Below'.refl _ _) ha (Same.refl _ _) h)
  | ret =>
    refine ⟨fun an lv e kN kX a w Φ S Q h ha hN hX hp hq => ?_, fun lbl rest hf => by simp [findLabel] at hf⟩
    simp only [den] at h
    exact wpIn_ret (hX Φ S .ret e a w (by simp) (Below'.refl _ _) ha (Same.refl _ _) h)
  | exit i =>
    refine ⟨fun an lv e kN kX a w Φ S Q h ha hN hX hp hq => ?_, fun lbl rest hf => by simp [findLabel] at hf⟩
    simp only [den] at h
    exact wpIn_exit (hX Φ S (.exit i) e a w (by simp) (Below'.refl _ _) ha (Same.refl _ _) h)
  | goto l =>
    refine ⟨fun an lv e kN kX a w Φ S Q h ha hN hX hp hq => ?_, fun lbl rest hf => by simp [findLabel] at hf⟩
    simp only [den] at h
    exact wpIn_goto (hX Φ S (.goto l) e a w (by simp) (Below'.refl _ _) ha (Same.refl _ _) h)
  | region i ops dr =>
    refine ⟨fun an => ?_, fun lbl rest hf => by simp [findLabel] at hf⟩
    cases dr with
    | false =>
      cases an with
      | r ms => simp only [den]; exact region_ok i ops ms
      | j ts an =>
        cases an with
        | r ms => simp only [den]; exact (region_ok i ops ms).join ts
        | _ => simp only [den]; exact bad_ok _
      | _ => simp only [den]; exact bad_ok _
    | true =>
      cases an with
      | d l =>
        simp only [den]
        cases hc : (P.follows .mixedOrders && Region.noSelect ops) with
        | true => simp only [cond_true]; simp only [Bool.and_eq_true] at hc; exact draw_ok i ops l hc.1 hc.2
        | false => simp only [cond_false]; exact bad_ok _
      | j ts an =>
        cases an with
        | d l =>
          simp only [den]
          cases hc : (P.follows .mixedOrders && Region.noSelect ops) with
          | true => simp only [cond_true]; simp only [Bool.and_eq_true] at hc; exact (draw_ok i ops l hc.1 hc.2).join ts
          | false => simp only [cond_false]; exact bad_ok _
        | _ => simp only [den]; exact bad_ok _
      | _ => simp only [den]; exact bad_ok _
  | cond o c d ihc ihd =>
    refine ⟨fun an => ?_, fun lbl rest hf => by simp [findLabel] at hf⟩
    cases an with
    | c x y => simp only [den]; exact cond_ok o (ihc.1 x) (ihd.1 y)
    | j ts an =>
      cases an with
      | c x y => simp only [den]; exact (cond_ok o (ihc.1 x) (ihd.1 y)).join ts
      | _ => simp only [den]; exact bad_ok _
    | _ => simp only [den]; exact bad_ok _
  | block i c ihc =>
    refine ⟨fun an => ?_, fun lbl rest hf => by simp [findLabel] at hf⟩
    cases an with
    | b x => simp only [den]; exact block_ok i (ihc.1 x)
    | j ts an =>
      cases an with
      | b x => simp only [den]; exact (block_ok i (ihc.1 x)).join ts
      | _ => simp only [den]; exact bad_ok _
    | _ => simp only [den]; exact bad_ok _
  | loop c ihc =>
    refine ⟨fun an => ?_, fun lbl rest hf => by simp [findLabel] at hf⟩
    cases an with
    | l ts x =>
      simp only [den]
      intro lv e kN kX a w Φ S Q h ha hN hX hp hq
      dsimp only at h
      split at h
      · rename_i vs hg
        simp only [T.wp] at h
        obtain ⟨I, ⟨k0, y, rfl, hy⟩, hround⟩ := h
        refine wpIn_loop_nat (fun k a' w' => ∃ y, Agree n ((e.forget (writes c)).puts (ts.map (·.1)) (HC.enc (ts.map (·.2)) y)) a' ∧ Same (writes c) e ((e.forget (writes c)).puts (ts.map (·.1)) (HC.enc (ts.map (·.2)) y)) ∧ I k y w')
          ⟨k0, y, (joined ha (Same.refl _ _) hg).1, (joined ha (Same.refl _ _) hg).2, hy⟩ ?_
        rintro k a' w' ⟨y, hay, hsy, hy⟩
        refine ihc.1 x (lv + 1) _ _ kX a' w' _ S _ (hround k y w' hy) hay ?_ ?_ hp hq
        · intro Φ' S' e' a2 w2 hb ha2 hs2 hx
          obtain ⟨us, hg2, ho⟩ := outT_sound hx
          rw [hb lv (Nat.lt_succ_self lv), Outs.set_self] at ho
          obtain ⟨k2, y2, hlt, rfl, hI⟩ := ho
          have hs3 : Same (writes c) e e' := hsy.trans hs2 (fun i hi => hi) (fun i hi => hi)
          obtain ⟨h1, h2⟩ := joined ha2 hs3 hg2
          exact ⟨k2, hlt, y2, h1, h2, hI⟩
        · intro Φ' S' ex e' a2 w2 hne hb ha2 hs2 hx
          have := hX Φ' S' ex e' a2 w2 hne ((Below'.set Φ _).trans (hb.le (Nat.le_succ lv))) ha2 (hsy.trans hs2 (fun i hi => hi) (fun i hi => hi)) hx
          cases ex <;> first | exact this | exact absurd rfl hne
      · simp only [T.wp] at h
    | _ => simp only [den]; exact bad_ok _
  | scope c ihc =>
    refine ⟨fun an => ?_, fun lbl rest hf => by simp [findLabel] at hf⟩
    cases an with
    | b x =>
      simp only [den]
      intro lv e kN kX a w Φ S Q h ha hN hX hp hq
      cases hrd : n.rd with
      | some l => simp only [hrd, Option.isSome_some, cond_true, T.wp] at h
      | none =>
      simp only [hrd, Option.isSome_none, cond_false] at h
      refine wpIn_wide.2 (wp_scope_straight (DenOk.wp (ihc.1 x) hrd lv e kN _ a w Φ S _ h ha (fun Φ' S' e' a' w' hb ha' hs' hx => hN Φ' S' e' a' w' hb ha' hs' hx) ?_ hp hq))
      intro Φ' S' ex e' a' w' hne hb ha' hs' hx
      cases ex <;> first | exact absurd rfl hne | exact hX Φ' S' _ e' a' w' (by simp) hb ha' hs' hx | simp only [T.wp] at hx
    | sc lbl ts x y_an =>
      simp only [den]
      intro lv e kN kX a w Φ S Q h ha hN hX hp hq
      dsimp only at h
      -- the part from the label on
      have hjump : ∀ (Φ1 : Outs) (J : List Value → World → Prop) (Q' : Act → World → Prop), Below' lv Φ Φ1 →
          (∀ e' a' w' vs, Agree n e' a' → Same (writes c) e e' → e'.gets (ts.map (·.1)) = some vs → J vs w' → Q' a' w') →
          ∀ Φ' S' ex e' a' w', ex ≠ .normal → Below' (lv + 1) (Φ1.set lv J) Φ' → Agree n e' a' → Same (writes c) e e' →
            (jumpT lv lbl (ts.map (·.1)) kX ex e').wp P S' Φ' R w' → Exit.jump lbl Q' Q ex a' w' := by
        intro Φ1 J Q' hb1 hJ Φ' S' ex e' a' w' hne hb ha' hs' hx
        have hbb : Below' lv Φ Φ' := hb1.trans ((Below'.set Φ1 J).trans (hb.le (Nat.le_succ lv)))
        unfold jumpT at hx
        cases ex with
        | goto l =>
          cases hl : Nat.beq l lbl with
          | true =>
            simp only [hl, cond_true] at hx
            obtain ⟨vs, hg, ho⟩ := outT_sound hx
            rw [hb lv (Nat.lt_succ_self lv), Outs.set_self] at ho
            exact ⟨Nat.eq_of_beq_eq_true hl, hJ e' a' w' vs ha' hs' hg ho⟩
          | false => simp only [hl, cond_false, T.wp] at hx
        | normal => exact absurd rfl hne
        | exit i => exact hX Φ' S' _ e' a' w' (by simp) hbb ha' hs' hx
        | ret => exact hX Φ' S' _ e' a' w' (by simp) hbb ha' hs' hx
        | panic c => exact hX Φ' S' _ e' a' w' (by simp) hbb ha' hs' hx
        | outgrown => exact hX Φ' S' _ e' a' w' (by simp) hbb ha' hs' hx
      cases hf : findLabel c lbl with
      | none => simp only [hf, Option.isNone_none, Bool.true_or, cond_true, T.wp] at h
      | some rest =>
        cases hrd : n.rd with
        | some l => simp only [hf, hrd, Option.isSome_some, Bool.or_true, cond_true, T.wp] at h
        | none =>
        simp only [hf, hrd, Option.isNone_some, Option.isSome_none, Bool.or_false, cond_false, T.wp] at h
        refine wpIn_wide.2 ?_
        refine wp_scope_nat lbl (fun k a' w' => ∃ I : Nat → HC (ts.map (·.2)) → World → Prop,
          (∀ k y w', I k y w' → (denFrom P n rv lbl c y_an (lv + 1) ((e.forget (writes c)).puts (ts.map (·.1)) (HC.enc _ y)) kN (jumpT lv lbl (ts.map (·.1)) kX)).wp P S
            (Φ.set lv fun vs w'' => ∃ k' y', k' < k ∧ vs = HC.enc _ y' ∧ I k' y' w'') R w') ∧
          ∃ y, Agree n ((e.forget (writes c)).puts (ts.map (·.1)) (HC.enc _ y)) a' ∧ Same (writes c) e ((e.forget (writes c)).puts (ts.map (·.1)) (HC.enc _ y)) ∧ I k y w') hf ?_ ?_
        · refine DenOk.wp (ihc.1 x) hrd (lv + 1) e kN _ a w _ S _ h ha ?_ ?_ hp hq
          · exact fun Φ' S' e' a' w' hb ha' hs' hx => hN Φ' S' e' a' w' ((Below'.set Φ _).trans (hb.le (Nat.le_succ lv))) ha' hs' hx
          · refine hjump Φ _ _ (Below'.refl _ _) ?_
            rintro e' a' w' vs ha' hs' hg ⟨x1, rfl, I, ⟨k0, y, hxy, hy⟩, hbody⟩
            rw [hxy] at hg
            obtain ⟨h1, h2⟩ := joined ha' hs' hg
            exact ⟨k0, I, hbody, y, h1, h2, hy⟩
        · rintro k a' w' ⟨I, hbody, y, hay, hsy, hy⟩
          refine DenOk.wp (ihc.2 lbl rest hf y_an) hrd (lv + 1) _ kN _ a' w' _ S _ (hbody k y w' hy) hay ?_ ?_ hp hq
          · exact fun Φ' S' e' a2 w2 hb ha2 hs2 hx => hN Φ' S' e' a2 w2 ((Below'.set Φ _).trans (hb.le (Nat.le_succ lv))) ha2 (hsy.trans hs2 (fun i hi => hi) (fun i hi => hi)) hx
          · intro Φ' S' ex e' a2 w2 hne hb ha2 hs2 hx
            refine hjump Φ _ _ (Below'.refl _ _) ?_ Φ' S' ex e' a2 w2 hne hb ha2 (hsy.trans hs2 (fun i hi => hi) (fun i hi => hi)) hx
            rintro e3 a3 w3 vs ha3 hs3 hg ⟨k2, y2, hlt, rfl, hI⟩
            obtain ⟨h1, h2⟩ := joined ha3 hs3 hg
            exact ⟨k2, hlt, I, hbody, y2, h1, h2, hI⟩
    | _ => simp only [den]; exact bad_ok _
  | rangeFunc f ps x y => exact ⟨fun an => by cases an <;> (simp only [den]; exact bad_ok _), fun lbl rest hf => by simp [findLabel] at hf⟩
  | refuse why => exact ⟨fun an => by cases an <;> (simp only [den]; exact bad_ok _), fun lbl rest hf => by simp [findLabel] at hf⟩
end

theorem mapM_same {α β : Type} {f g : α → Sem β} : ∀ (l : List α), (∀ x ∈ l, f x = g x) → List.mapM f l = List.mapM g l
  | [], _ => rfl
  | x :: l, h => by rw [List.mapM_cons, List.mapM_cons, h x (by simp), mapM_same l fun y hy => h y (by simp [hy])]
theorem resR_results {fn : Func} {tmps : Array Value} {e : Env} (h : ∀ r ∈ fn.results, match r with | .tmp t => e.at (.tmp t) = tmps.getD t undef | .cell t _ => e.at (.tmp t) = tmps.getD t undef) :
    results fn tmps = resR (fn.results.map (rvOf e)) := by
  unfold results resR
  rw [Array.mapM_map, Array.mapM_eq_mapM_toList, Array.mapM_eq_mapM_toList]
  have : List.mapM (fun r => match r with | .tmp t => pure (tmps.getD t undef) | .cell a t => do loadVar t (← asAddr (tmps.getD a undef))) fn.results.toList = List.mapM (RV.sem ∘ rvOf e) fn.results.toList :=
    mapM_same _ fun r hr => by
      have h1 := h r (by simpa using hr)
      cases r <;> simp only [Function.comp, rvOf, RV.sem] at h1 ⊢ <;> rw [h1]
  rw [← this]
  rfl

theorem rvT_sound {P : Program} {n : NN} {fn : Func} {e : Env} {a : Act} {w : World} {R : Ending → World → Prop} {Φ : Outs} {S : World → Prop}
    (h : (rvT e fn.results).wp P S Φ R w) (ha : Agree n e a) : Kept n a ∧ ∃ v, (results fn a.tmps).run P w = .ok v w ∧ R (.returned v) w := by
  unfold rvT at h
  cases hall : (fn.results.all (knownRV e)) with
  | false => simp only [hall, cond_false, T.wp] at h
  | true =>
    simp only [hall, cond_true, T.wp] at h
    refine ⟨ha.defers, ?_⟩
    have hm : ∀ r ∈ fn.results, match r with | .tmp t => e.at (.tmp t) = a.tmps.getD t undef | .cell t _ => e.at (.tmp t) = a.tmps.getD t undef := fun r hr => by
      have h1 := Array.all_eq_true_iff_forall_mem.1 hall r hr
      cases r <;> exact (ha.at (x := .tmp _) h1).symm
    obtain ⟨v, hv, hR⟩ := h
    refine ⟨v, ?_, hR⟩
    rw [resR_results hm, hv]

theorem fnT_sound {P : Program} {f : FuncId} {fn : Func} {an : An} {args : List Value} {w : World} {R : Ending → World → Prop} {Φ : Outs} {S : World → Prop}
    (hf : P.funcs[f]? = some fn) (hn : args.length ≤ fn.ntmps) (h : (fnT P fn an args).wp P S Φ R w) : Calls P f args.toArray w R := by
  unfold fnT at h
  cases hb : fn.body with
  | none => simp only [hb, T.wp] at h
  | some c =>
    simp only [hb] at h
    refine calls_of_wp hf hb (((den_ok c).1 an).wp rfl 0 _ _ _ _ w Φ S _ h ?_ ?_ ?_ ?_ ?_)
    · refine ⟨⟨rfl, fun i hi => absurd hi (Nat.not_lt_zero i)⟩, by simp [NN.of]; omega, fun i v hv => ?_⟩
      simp only [startE, Option.map_eq_some_iff] at hv
      obtain ⟨x, hx, rfl⟩ := hv
      have hi : i < args.length := by
        rcases Nat.lt_or_ge i args.length with h' | h'
        · exact h'
        · simp [List.getElem?_eq_none h'] at hx
      have hx' : args[i] = x := by simpa [List.getElem?_eq_getElem hi] using hx
      simp [Array.getD_eq_getD_getElem?, Array.getElem?_append, hi, hx', EV.val]
    · intro Φ' S' e' a' w' _ ha' _ hx
      exact ⟨(rvT_sound hx ha').1.1, (rvT_sound hx ha').2⟩
    · intro Φ' S' ex e' a' w' hne _ ha' _ hx
      cases ex with
      | ret => exact ⟨(rvT_sound hx ha').1.1, (rvT_sound hx ha').2⟩
      | normal => exact absurd rfl hne
      | _ => simp only [T.wp] at hx
    · exact fun c a w' hd hc => ⟨hd.1, hc⟩
    · intro c a d v w' _ h
      cases d <;> exact h
#print axioms fnT_sound
end Go.Proofs.YtjlgcpgjdgeejaaGreatDoor
end

/- Short names for what an operation does to memory. Conditions: none. -/
section
namespace Go.Proofs.YtjlgcpgjdgeejaaGreatDoor
open Go
abbrev tP : Ty := .c (.b .ptr)
abbrev tA : Ty := .c (.b .addr)
abbrev tB : Ty := .c (.b .bool)
abbrev tS : Ty := .c (.b .str)
abbrev tSl : Ty := .c (.b .slice)
abbrev tI : Ty := .c (.b (.int .i64))
abbrev tU8 : Ty := .c (.b (.int .u8))
abbrev tV : Ty := .c (.b .val)
abbrev tU : Ty := .tup []
abbrev kE : ByteArray := ⟨#[]⟩
noncomputable section
def valS (s : Sem Value) : Sem Next := do pure (.value (← s))
def ldS (t : TypeId) (a : Value) : Sem Next := valS (Instr.loadAt t a)
def stS (t : TypeId) (a v : Value) : Sem Next := do Instr.storeAt t a v; pure .skip
def allocS (t : TypeId) : Sem Next := valS (Instr.alloc t true (.tuple #[]))
def boxS (t : TypeId) (v : Value) : Sem Next := valS (Instr.box t v)
def sliceS (t : TypeId) (n : Nat) (ps : Array (Nat × Value)) : Sem Next := valS (Instr.buildSlice t n ps)
def idxAS (t : TypeId) (x i : Value) : Sem Next := valS (Instr.indexAt t x i)
def idxS (t : TypeId) (x i : Value) : Sem Next := valS (Instr.index t x i)
def subS (t : TypeId) (x : Value) (lo hi mx : Option Value) : Sem Next := valS (Instr.sliceAt t x lo hi mx)
def asS (x : Value) (xt t : TypeId) (ok : Bool) : Sem Next := valS (Instr.typeAssert x xt t ok)
def panicS (x : Value) : Sem Next := valS (Instr.panic x)
def cvS (src dst : TypeId) (x : Value) : Sem Next := valS (convert src dst x)
def binS (op : BinOp) (t : TypeId) (x y : Value) : Sem Next := valS (do eqGuard op t (.tmp 0) (.tmp 1) x y; binOp op t x y)
def binNS (op : BinOp) (t : TypeId) (x y : Value) : Sem Next := valS (do eqGuard op t (.tmp 0) (.const .nilIface) x y; binOp op t x y)
def appS (ats : Array TypeId) (t : TypeId) (args : Array Value) : Sem Next := valS (Builtin.append_ ats t args)
def callvS (f : Value) (args : Array Value) : Sem Next := do let d ← Deferred.ofValue f args; invoke d.target d.args
def callS (f : FuncId) (args : Array Value) : Sem Next := callvS (.func (.func f) #[] #[]) args
def nilS (x : Value) : Sem Next := execOp (fun _ => x) { dst := none, op := .nilCheck (.tmp 0), type := 0, pos := "", after := #[], guard := none }
end
end Go.Proofs.YtjlgcpgjdgeejaaGreatDoor
end

/- Memory parted into what a call owns, what no one writes any more, and the rest; what a tree does, held against a plain specification. Conditions: none (general tools). -/
section
namespace Go.Proofs.YtjlgcpgjdgeejaaGreatDoor
open Go
set_option linter.unusedSimpArgs false
set_option linter.unusedVariables false
set_option linter.constructorNameAsVariable false

theorem mz {α : Type _} {a : α} {l : List α} : a ∈ a :: l := List.mem_cons_self ..
theorem ms {α : Type _} {a b : α} {l : List α} (h : a ∈ l) : a ∈ b :: l := List.mem_cons_of_mem _ h
abbrev Heap := Nat → Option Obj
def Heap.le (F F' : Heap) : Prop := ∀ b o, F b = some o → F' b = some o
theorem Heap.le.refl (F : Heap) : F.le F := fun _ _ h => h
theorem Heap.le.trans {a b c : Heap} (h : a.le b) (k : b.le c) : a.le c := fun x o hx => k x o (h x o hx)
def Heap.ins (F : Heap) (b : Nat) (o : Obj) : Heap := fun x => if x = b then some o else F x
abbrev Own := List (Nat × Obj)
structure Rest where
  u : World
  R : Heap
structure Split (r : Rest) (w : World) (H : Own) (F : Heap) : Prop where
  os : w.os = r.u.os
  tape : w.tape = r.u.tape
  output : w.output = r.u.output
  size : r.u.heap.size ≤ w.heap.size
  nodup : (H.map (·.1)).Nodup
  own : ∀ b o, (b, o) ∈ H → w.heap[b]? = some o
  frz : ∀ b o, F b = some o → w.heap[b]? = some o ∧ ∀ p ∈ H, p.1 ≠ b
  rst : ∀ b o, r.R b = some o → w.heap[b]? = some o ∧ (∀ p ∈ H, p.1 ≠ b) ∧ F b = none

theorem heap_lt {w : World} {b : Nat} {o : Obj} (h : w.heap[b]? = some o) : b < w.heap.size := (Array.getElem?_eq_some_iff.1 h).1
theorem alloc_heap (w : World) (o : Obj) (b : Nat) : (w.alloc o).heap[b]? = if b = w.heap.size then some o else w.heap[b]? := by
  show (w.heap.push o)[b]? = _
  rw [Array.getElem?_push]

namespace Split
variable {r : Rest} {w : World} {H : Own} {F : Heap}
theorem sub (h : Split r w H F) {H' : Own} (hs : H'.Sublist H) : Split r w H' F :=
  ⟨h.os, h.tape, h.output, h.size, h.nodup.sublist (hs.map _), fun b o hm => h.own b o (hs.subset hm), fun b o hb => ⟨(h.frz b o hb).1, fun p hp => (h.frz b o hb).2 p (hs.subset hp)⟩,
   fun b o hb => ⟨(h.rst b o hb).1, fun p hp => (h.rst b o hb).2.1 p (hs.subset hp), (h.rst b o hb).2.2⟩⟩
theorem perm (h : Split r w H F) {H' : Own} (hs : H'.Perm H) : Split r w H' F :=
  ⟨h.os, h.tape, h.output, h.size, ((hs.map _).nodup_iff).2 h.nodup, fun b o hm => h.own b o (hs.subset hm), fun b o hb => ⟨(h.frz b o hb).1, fun p hp => (h.frz b o hb).2 p (hs.subset hp)⟩,
   fun b o hb => ⟨(h.rst b o hb).1, fun p hp => (h.rst b o hb).2.1 p (hs.subset hp), (h.rst b o hb).2.2⟩⟩
theorem drewn (h : Split r w H F) (w' : World) (hh : w'.heap = w.heap) (h1 : w'.os = w.os) (h2 : w'.tape = w.tape) (h3 : w'.output = w.output) : Split r w' H F :=
  ⟨h1.trans h.os, h2.trans h.tape, h3.trans h.output, hh ▸ h.size, h.nodup, fun b o hm => hh ▸ h.own b o hm, fun b o hb => hh ▸ h.frz b o hb, fun b o hb => hh ▸ h.rst b o hb⟩
theorem drewW (h : Split r w H F) : Split r (drewW w) H F := h.drewn _ rfl rfl rfl rfl
theorem lt_own (h : Split r w H F) {b : Nat} {o : Obj} (hm : (b, o) ∈ H) : b < w.heap.size := heap_lt (h.own b o hm)
theorem new (h : Split r w H F) (o : Obj) : Split r (w.alloc o) ((w.heap.size, o) :: H) F := by
  refine ⟨h.os, h.tape, h.output, Nat.le_trans h.size (by simp), ?_, ?_, ?_, ?_⟩
  · simp only [List.map_cons, List.nodup_cons]
    refine ⟨fun hm => ?_, h.nodup⟩
    obtain ⟨p, hp, he⟩ := List.mem_map.1 hm
    have := h.lt_own (b := p.1) (o := p.2) hp
    omega
  · intro b o' hm
    rw [alloc_heap]
    rcases List.mem_cons.1 hm with hm | hm
    · cases hm; simp
    · have := h.lt_own hm; rw [if_neg (by omega)]; exact h.own b o' hm
  · intro b o' hb
    obtain ⟨h1, h2⟩ := h.frz b o' hb
    have := heap_lt h1
    refine ⟨by rw [alloc_heap, if_neg (by omega)]; exact h1, fun p hp => ?_⟩
    rcases List.mem_cons.1 hp with rfl | hp
    · intro he; simp at he; omega
    · exact h2 p hp
  · intro b o' hb
    obtain ⟨h1, h2, h3⟩ := h.rst b o' hb
    have := heap_lt h1
    refine ⟨by rw [alloc_heap, if_neg (by omega)]; exact h1, fun p hp => ?_, h3⟩
    rcases List.mem_cons.1 hp with rfl | hp
    · intro he; simp at he; omega
    · exact h2 p hp
theorem freeze {b : Nat} {o : Obj} (h : Split r w ((b, o) :: H) F) : Split r w H (F.ins b o) := by
  have hnd := h.nodup
  simp only [List.map_cons, List.nodup_cons] at hnd
  refine ⟨h.os, h.tape, h.output, h.size, hnd.2, fun b' o' hm => h.own b' o' (List.mem_cons_of_mem _ hm), ?_, ?_⟩
  · intro b' o' hb
    unfold Heap.ins at hb
    by_cases he : b' = b
    · rw [if_pos he] at hb; cases hb; subst he
      exact ⟨h.own _ _ (List.mem_cons_self ..), fun p hp he => hnd.1 (List.mem_map.2 ⟨p, hp, he⟩)⟩
    · rw [if_neg he] at hb
      exact ⟨(h.frz b' o' hb).1, fun p hp => (h.frz b' o' hb).2 p (List.mem_cons_of_mem _ hp)⟩
  · intro b' o' hb
    obtain ⟨h1, h2, h3⟩ := h.rst b' o' hb
    refine ⟨h1, fun p hp => h2 p (List.mem_cons_of_mem _ hp), ?_⟩
    unfold Heap.ins
    rw [if_neg (fun he => h2 (b, o) (List.mem_cons_self ..) he.symm)]
    exact h3
theorem ins_le {b : Nat} {o : Obj} (h : Split r w ((b, o) :: H) F) : F.le (F.ins b o) := fun x y hx => by
  unfold Heap.ins
  rw [if_neg (fun he => (h.frz x y hx).2 (b, o) (List.mem_cons_self ..) he.symm)]
  exact hx
theorem new_le (h : Split r w H F) (o : Obj) : F.le (F.ins w.heap.size o) := fun x y hx => by
  unfold Heap.ins
  have := heap_lt (h.frz x y hx).1
  rw [if_neg (by omega)]
  exact hx
theorem newF (h : Split r w H F) (o : Obj) : Split r (w.alloc o) H (F.ins w.heap.size o) := (h.new o).freeze
theorem write {b : Nat} {o : Obj} (h : Split r w ((b, o) :: H) F) (w' : World) (o' : Obj) (hw : ∀ x, w'.heap[x]? = if x = b then some o' else w.heap[x]?) (hz : w'.heap.size = w.heap.size)
    (h1 : w'.os = w.os) (h2 : w'.tape = w.tape) (h3 : w'.output = w.output) : Split r w' ((b, o') :: H) F := by
  have hnd := h.nodup
  simp only [List.map_cons, List.nodup_cons] at hnd
  refine ⟨h1.trans h.os, h2.trans h.tape, h3.trans h.output, hz ▸ h.size, by simpa using hnd, ?_, ?_, ?_⟩
  · intro b' o2 hm
    rw [hw]
    rcases List.mem_cons.1 hm with hm | hm
    · cases hm; simp
    · rw [if_neg (fun he => hnd.1 (List.mem_map.2 ⟨_, hm, he⟩))]
      exact h.own b' o2 (List.mem_cons_of_mem _ hm)
  · intro b' o2 hb
    obtain ⟨g1, g2⟩ := h.frz b' o2 hb
    have hne : b' ≠ b := fun he => g2 (b, o) (List.mem_cons_self ..) he.symm
    refine ⟨by rw [hw, if_neg hne]; exact g1, fun p hp => ?_⟩
    rcases List.mem_cons.1 hp with rfl | hp
    · exact fun he => hne he.symm
    · exact g2 p (List.mem_cons_of_mem _ hp)
  · intro b' o2 hb
    obtain ⟨g1, g2, g3⟩ := h.rst b' o2 hb
    have hne : b' ≠ b := fun he => g2 (b, o) (List.mem_cons_self ..) he.symm
    refine ⟨by rw [hw, if_neg hne]; exact g1, fun p hp => ?_, g3⟩
    rcases List.mem_cons.1 hp with rfl | hp
    · exact fun he => hne he.symm
    · exact g2 p (List.mem_cons_of_mem _ hp)
def give (r : Rest) (L : Own) : Rest := { u := r.u, R := fun b => match L.find? (fun p => p.1 == b) with | some p => some p.2 | none => r.R b }
theorem find_mem : ∀ (L : Own) (b : Nat) (o : Obj), (L.map (·.1)).Nodup → (b, o) ∈ L → L.find? (fun p => p.1 == b) = some (b, o)
  | [], _, _, _, h => by cases h
  | p :: L, b, o, hn, h => by
    simp only [List.map_cons, List.nodup_cons] at hn
    rcases List.mem_cons.1 h with rfl | h
    · simp [List.find?]
    · have : p.1 ≠ b := fun he => hn.1 (he ▸ List.mem_map.2 ⟨_, h, rfl⟩)
      rw [List.find?_cons]
      have hb : (p.1 == b) = false := by simpa using this
      rw [hb]
      exact find_mem L b o hn.2 h
theorem out {L : Own} (h : Split r w (H ++ L) F) : Split (give r L) w H F := by
  have hnd := h.nodup
  rw [List.map_append, List.nodup_append] at hnd
  obtain ⟨n1, n2, n3⟩ := hnd
  refine ⟨h.os, h.tape, h.output, h.size, n1, fun b o hm => h.own b o (List.mem_append_left _ hm), fun b o hb => ⟨(h.frz b o hb).1, fun p hp => (h.frz b o hb).2 p (List.mem_append_left _ hp)⟩, ?_⟩
  intro b o hb
  simp only [give] at hb
  split at hb
  · rename_i p hp
    cases hb
    have hm := List.mem_of_find?_eq_some hp
    have hpb : p.1 = b := by simpa using List.find?_some hp
    subst hpb
    refine ⟨h.own _ _ (List.mem_append_right _ hm), fun q hq he => n3 _ (List.mem_map.2 ⟨q, hq, rfl⟩) _ (List.mem_map.2 ⟨p, hm, rfl⟩) he, ?_⟩
    cases hF : F p.1 with
    | none => rfl
    | some o => exact absurd rfl ((h.frz _ o hF).2 p (List.mem_append_right _ hm))
  · exact ⟨(h.rst b o hb).1, fun p hp => (h.rst b o hb).2.1 p (List.mem_append_left _ hp), (h.rst b o hb).2.2⟩
theorem back {L : Own} {w0 : World} {H0 : Own} {F0 : Heap} (h0 : Split r w0 (H0 ++ L) F0) (h : Split (give r L) w H F) : Split r w (H ++ L) F := by
  have hnd := h0.nodup
  rw [List.map_append, List.nodup_append] at hnd
  have inR : ∀ p ∈ L, (give r L).R p.1 = some p.2 := fun p hp => by
    simp only [give]; rw [find_mem L p.1 p.2 hnd.2.1 hp]
  refine ⟨h.os, h.tape, h.output, h.size, ?_, ?_, ?_, ?_⟩
  · rw [List.map_append, List.nodup_append]
    refine ⟨h.nodup, hnd.2.1, fun x hx y hy he => ?_⟩
    obtain ⟨p, hp, rfl⟩ := List.mem_map.1 hx
    obtain ⟨q, hq, rfl⟩ := List.mem_map.1 hy
    exact (h.rst _ _ (inR q hq)).2.1 p hp he
  · intro b o hm
    rcases List.mem_append.1 hm with hm | hm
    · exact h.own b o hm
    · exact (h.rst b o (inR (b, o) hm)).1
  · intro b o hb
    refine ⟨(h.frz b o hb).1, fun p hp => ?_⟩
    rcases List.mem_append.1 hp with hp | hp
    · exact (h.frz b o hb).2 p hp
    · intro he
      have := (h.rst _ _ (inR p hp)).2.2
      rw [he, hb] at this; cases this
  · intro b o hb
    have hb' : (give r L).R b = some o := by
      simp only [give]
      cases hf : L.find? (fun p => p.1 == b) with
      | none => exact hb
      | some p =>
        have hm := List.mem_of_find?_eq_some hf
        have hpb : p.1 = b := by simpa using List.find?_some hf
        exact absurd hpb ((h0.rst b o hb).2.1 p (List.mem_append_right _ hm))
    obtain ⟨g1, g2, g3⟩ := h.rst b o hb'
    refine ⟨g1, fun p hp => ?_, g3⟩
    rcases List.mem_append.1 hp with hp | hp
    · exact g2 p hp
    · exact (h0.rst b o hb).2.1 p (List.mem_append_right _ hp)
end Split

structure Fact where
  p : Heap → Prop
  mono : ∀ F F', F.le F' → p F → p F'
def Fact.prop (φ : Prop) : Fact := ⟨fun _ => φ, fun _ _ _ h => h⟩
def Fact.both (a b : Fact) : Fact := ⟨fun F => a.p F ∧ b.p F, fun F F' hl h => ⟨a.mono F F' hl h.1, b.mono F F' hl h.2⟩⟩
def Fact.ex {α : Sort 1} (a : α → Fact) : Fact := ⟨fun F => ∃ x, (a x).p F, fun F F' hl ⟨x, h⟩ => ⟨x, (a x).mono F F' hl h⟩⟩
def Fact.at (b : Nat) (o : Obj) : Fact := ⟨fun F => F b = some o, fun F F' hl h => hl b o h⟩
def Holds (Γ : List Fact) (F : Heap) : Prop := ∀ A ∈ Γ, A.p F
theorem Holds.mono {Γ : List Fact} {F F' : Heap} (h : Holds Γ F) (hl : F.le F') : Holds Γ F' := fun A hA => A.mono F F' hl (h A hA)
theorem Holds.cons {Γ : List Fact} {F : Heap} {A : Fact} (h1 : A.p F) (h : Holds Γ F) : Holds (A :: Γ) F := fun B hB => by
  rcases List.mem_cons.1 hB with rfl | hB
  · exact h1
  · exact h B hB

inductive Res (ε σ α : Type) where
  | ok (a : α) (s : σ) | err (e : ε)
def Sp (ε σ α : Type) := σ → Option (Res ε σ α)
def Sp.bind {ε σ α β : Type} (x : Sp ε σ α) (f : α → Sp ε σ β) : Sp ε σ β := fun s => match x s with
  | none => none
  | some (.err e) => some (.err e)
  | some (.ok a s') => f a s'
def Sp.pure {ε σ α : Type} (a : α) : Sp ε σ α := fun s => some (.ok a s)
instance (ε σ : Type) : Monad (Sp ε σ) where
  pure := Sp.pure
  bind := Sp.bind
def Sp.get {ε σ : Type} : Sp ε σ σ := fun s => some (.ok s s)
def Sp.set {ε σ : Type} (s' : σ) : Sp ε σ Unit := fun _ => some (.ok () s')
def Sp.stop {ε σ α : Type} : Sp ε σ α := fun _ => none

structure Ifc (ε σ : Type) where
  inv : σ → Own → Fact
  err : ε → List PanicEntry → Prop

def pl {β α : Type} (Rel : β → α → Fact) : β → α → Own → Fact := fun b x K => (Fact.prop (K = [])).both (Rel b x)
def Ends {ε σ β : Type} (I : Ifc ε σ) (t : Ty) (Rel : β → t.den → Own → Fact) (r : Rest) (F : Heap) (res : Res ε σ β) (e : Ending) (w' : World) : Prop :=
  ∃ F', F.le F' ∧ match res with
    | .ok b st => ∃ H' K x, e = .returned (t.enc x) ∧ (I.inv st H').p F' ∧ Split r w' (H' ++ K) F' ∧ (Rel b x K).p F'
    | .err y => ∃ c, e = .panicked c ∧ I.err y c ∧ Split r w' [] F'

def MeetsO {ε σ β : Type} (P : Program) (I : Ifc ε σ) (s0 : Sem Next) (t : Ty) (s : Sp ε σ β) (Rel : β → t.den → Own → Fact) (Γ : List Fact) : Prop :=
  ∀ r w F H st res, s st = some res → Holds Γ F → (I.inv st H).p F → Split r w H F →
    upon P (fun v w' => Ends I t Rel r F res (.returned v) w') (fun c w' => Ends I t Rel r F res (.panicked c) w') (s0.run P w)

abbrev Meets {ε σ β : Type} (P : Program) (I : Ifc ε σ) (s0 : Sem Next) (t : Ty) (s : Sp ε σ β) (Rel : β → t.den → Fact) (Γ : List Fact) : Prop := MeetsO P I s0 t s (pl Rel) Γ

structure Label (ε σ β : Type) where
  ι : Type
  sp : ι → Sp ε σ β
  J : ι → List Value → Own → Fact
abbrev Labels (ε σ β : Type) := Nat → Label ε σ β
def Labels.set {ε σ β : Type} (Δ : Labels ε σ β) (l : Nat) (x : Label ε σ β) : Labels ε σ β := fun i => if i = l then x else Δ i
def noLabel {ε σ β : Type} : Labels ε σ β := fun _ => { ι := Empty, sp := fun x => x.elim, J := fun x => x.elim }
def Label.outs {ε σ β : Type} (I : Ifc ε σ) (r : Rest) (F : Heap) (res : Res ε σ β) (x : Label ε σ β) : List Value → World → Prop := fun vs w' =>
  ∃ i L' F' H' st', F.le F' ∧ x.sp i st' = some res ∧ (x.J i vs L').p F' ∧ (I.inv st' H').p F' ∧ Split r w' (H' ++ L') F'

def Stab (K : Heap) (w : World) : Prop := ∀ b o, K b = some o → w.heap[b]? = some o
structure Quiet where
  Γ : List Fact
  L : Own
def Quiet.ok (q : Option Quiet) (S : World → Prop) (F : Heap) (L : Own) : Prop := match q with
  | none => True
  | some q => (∀ p ∈ q.L, p ∈ L) ∧ ∃ K, S = Stab K ∧ Holds q.Γ K ∧ (∀ p ∈ q.L, K p.1 = some p.2) ∧ ∀ b o, K b = some o → F b = some o ∨ (b, o) ∈ q.L

def Sim {ε σ β : Type} (P : Program) (I : Ifc ε σ) (t : Ty) (Rel : β → t.den → Own → Fact) (Δ : Labels ε σ β) (q : Option Quiet) (m : T) (s : Sp ε σ β) (L : Own) (Γ : List Fact) : Prop :=
  ∀ r w F H st res S, s st = some res → Holds Γ F → (I.inv st H).p F → Split r w (H ++ L) F → Quiet.ok q S F L →
    m.wp P S (fun l => (Δ l).outs I r F res) (Ends I t Rel r F res) w

end Go.Proofs.YtjlgcpgjdgeejaaGreatDoor
end

/- The rules by which a tree is held against its specification. Conditions: none (general tools). -/
section
namespace Go.Proofs.YtjlgcpgjdgeejaaGreatDoor
open Go
set_option linter.unusedSimpArgs false
set_option linter.unusedVariables false
set_option linter.constructorNameAsVariable false

theorem T.wp_mono {P : Program} : ∀ (m : T) {S : World → Prop} {Φ Φ' : Outs} {R R' : Ending → World → Prop} {w : World},
    (∀ l vs w, Φ l vs w → Φ' l vs w) → (∀ e w, R e w → R' e w) → m.wp P S Φ R w → m.wp P S Φ' R' w := by
  intro m
  induction m with
  | bad => intro S Φ Φ' R R' w hΦ hR h; simp only [T.wp] at h
  | op s t k ih =>
    intro S Φ Φ' R R' w hΦ hR h
    simp only [T.wp] at h ⊢
    exact upon_mono (fun v w' ⟨x, hx, h'⟩ => ⟨x, hx, ih x hΦ hR h'⟩) (fun c w' h' => hR _ _ h') _ h
  | opq s t k ih =>
    intro S Φ Φ' R R' w hΦ hR h
    simp only [T.wp] at h ⊢
    obtain ⟨x, h1, h2, h3⟩ := h
    exact ⟨x, h1, h2, ih x hΦ hR h3⟩
  | opl s t k ih =>
    intro S Φ Φ' R R' w hΦ hR h
    simp only [T.wp] at h ⊢
    exact upon_mono (fun v w' ⟨hS, x, hx, h'⟩ => ⟨hS, x, hx, ih x hΦ hR h'⟩) (fun c w' h' => hR _ _ h') _ h
  | ite b x y ihx ihy =>
    intro S Φ Φ' R R' w hΦ hR h
    simp only [T.wp] at h ⊢
    exact ⟨fun hb => ihx hΦ hR (h.1 hb), fun hb => ihy hΦ hR (h.2 hb)⟩
  | ret r =>
    intro S Φ Φ' R R' w hΦ hR h
    simp only [T.wp] at h ⊢
    obtain ⟨v, h1, h2⟩ := h
    exact ⟨v, h1, hR _ _ h2⟩
  | out l vs => intro S Φ Φ' R R' w hΦ hR h; exact hΦ _ _ _ h
  | join l ts m k ihm ihk =>
    intro S Φ Φ' R R' w hΦ hR h
    simp only [T.wp] at h ⊢
    refine ihm ?_ hR h
    intro l' vs w' h'
    unfold Outs.set at h' ⊢
    split
    · rename_i hl; rw [if_pos hl] at h'; obtain ⟨x, hx, h2⟩ := h'; exact ⟨x, hx, ihk x hΦ hR h2⟩
    · rename_i hl; rw [if_neg hl] at h'; exact hΦ _ _ _ h'
  | loop l ts vs body ih =>
    intro S Φ Φ' R R' w hΦ hR h
    simp only [T.wp] at h ⊢
    obtain ⟨I, h0, h1⟩ := h
    refine ⟨I, h0, fun n x w' hI => ih x ?_ hR (h1 n x w' hI)⟩
    intro l' vs w'' h'
    unfold Outs.set at h' ⊢
    split
    · rename_i hl; rw [if_pos hl] at h'; exact h'
    · rename_i hl; rw [if_neg hl] at h'; exact hΦ _ _ _ h'
  | draw m ih =>
    intro S Φ Φ' R R' w hΦ hR h
    simp only [T.wp] at h ⊢
    obtain ⟨S', h1, h2⟩ := h
    exact ⟨S', h1, ih hΦ hR h2⟩
  | both x y ihx ihy =>
    intro S Φ Φ' R R' w hΦ hR h
    simp only [T.wp] at h ⊢
    exact ⟨ihx hΦ hR h.1, ihy hΦ hR h.2⟩

section
variable {ε σ β : Type} {P : Program} {I : Ifc ε σ} {t : Ty} {Rel : β → t.den → Own → Fact} {Δ : Labels ε σ β} {q : Option Quiet} {L : Own} {Γ : List Fact} {s : Sp ε σ β}

theorem Ends.le {r : Rest} {F F' : Heap} {res : Res ε σ β} {e : Ending} {w : World} (hl : F.le F') (h : Ends I t Rel r F' res e w) : Ends I t Rel r F res e w := by
  obtain ⟨F2, h1, h2⟩ := h
  exact ⟨F2, hl.trans h1, h2⟩
theorem Label.outs_le {r : Rest} {F F' : Heap} {res : Res ε σ β} {x : Label ε σ β} {vs : List Value} {w : World} (hl : F.le F') (h : x.outs I r F' res vs w) : x.outs I r F res vs w := by
  obtain ⟨i, L', F2, H', st', h1, h2⟩ := h
  exact ⟨i, L', F2, H', st', hl.trans h1, h2⟩
theorem wp_le {m : T} {S : World → Prop} {r : Rest} {F F' : Heap} {res : Res ε σ β} {w : World} (hl : F.le F')
    (h : m.wp P S (fun l => (Δ l).outs I r F' res) (Ends I t Rel r F' res) w) : m.wp P S (fun l => (Δ l).outs I r F res) (Ends I t Rel r F res) w :=
  T.wp_mono m (fun l vs w h => Label.outs_le hl h) (fun e w h => Ends.le hl h) h

theorem Sim.lift {m : T} (h : Sim P I t Rel Δ none m s L Γ) : Sim P I t Rel Δ q m s L Γ :=
  fun r w F H st res S hs hΓ hi hsp _ => h r w F H st res S hs hΓ hi hsp trivial
theorem Sim.weak {m : T} {Γ' : List Fact} (h : Sim P I t Rel Δ q m s L Γ') (hΓ : ∀ A ∈ Γ', A ∈ Γ) : Sim P I t Rel Δ q m s L Γ :=
  fun r w F H st res S hs hF hi hsp hq => h r w F H st res S hs (fun A hA => hF A (hΓ A hA)) hi hsp hq
theorem Sim.prop {m : T} {φ : Prop} (h : φ → Sim P I t Rel Δ q m s L Γ) : Sim P I t Rel Δ q m s L (Fact.prop φ :: Γ) :=
  fun r w F H st res S hs hF hi hsp hq => h (hF _ (List.mem_cons_self ..)) r w F H st res S hs (fun A hA => hF A (List.mem_cons_of_mem _ hA)) hi hsp hq
theorem Sim.both {m : T} {A B : Fact} (h : Sim P I t Rel Δ q m s L (A :: B :: Γ)) : Sim P I t Rel Δ q m s L (A.both B :: Γ) :=
  fun r w F H st res S hs hF hi hsp hq => h r w F H st res S hs
    (Holds.cons (hF _ (List.mem_cons_self ..)).1 (Holds.cons (hF _ (List.mem_cons_self ..)).2 fun A hA => hF A (List.mem_cons_of_mem _ hA))) hi hsp hq
theorem Sim.ex {m : T} {α : Sort 1} {A : α → Fact} (h : ∀ x, Sim P I t Rel Δ q m s L (A x :: Γ)) : Sim P I t Rel Δ q m s L (Fact.ex A :: Γ) :=
  fun r w F H st res S hs hF hi hsp hq => by
    obtain ⟨x, hx⟩ := hF _ (List.mem_cons_self ..)
    exact h x r w F H st res S hs (Holds.cons hx fun A hA => hF A (List.mem_cons_of_mem _ hA)) hi hsp hq
theorem Sim.know {m : T} {A : Fact} (ha : ∀ F, Holds Γ F → A.p F) (h : Sim P I t Rel Δ q m s L (A :: Γ)) : Sim P I t Rel Δ q m s L Γ :=
  fun r w F H st res S hs hF hi hsp hq => h r w F H st res S hs (Holds.cons (ha F hF) hF) hi hsp hq
theorem Sim.note {m : T} {φ : Prop} (ha : ∀ F, Holds Γ F → φ) (h : φ → Sim P I t Rel Δ q m s L Γ) : Sim P I t Rel Δ q m s L Γ :=
  fun r w F H st res S hs hF hi hsp hq => h (ha F hF) r w F H st res S hs hF hi hsp hq
theorem Sim.spec {m : T} {s' : Sp ε σ β} (he : s = s') (h : Sim P I t Rel Δ q m s' L Γ) : Sim P I t Rel Δ q m s L Γ := he ▸ h

theorem qE {b : Bool} {x y : T} (h1 : b = true → Sim P I t Rel Δ q x s L Γ) (h2 : b = false → Sim P I t Rel Δ q y s L Γ) : Sim P I t Rel Δ q (.ite b x y) s L Γ := by
  intro r w F H st res S hs hΓ hi hsp hq
  simp only [T.wp]
  exact ⟨fun hb => h1 hb r w F H st res S hs hΓ hi hsp hq, fun hb => h2 hb r w F H st res S hs hΓ hi hsp hq⟩
theorem sim_both {x y : T} (h1 : Sim P I t Rel Δ q x s L Γ) (h2 : Sim P I t Rel Δ q y s L Γ) : Sim P I t Rel Δ q (.both x y) s L Γ := by
  intro r w F H st res S hs hΓ hi hsp hq
  simp only [T.wp]
  exact ⟨h1 r w F H st res S hs hΓ hi hsp hq, h2 r w F H st res S hs hΓ hi hsp hq⟩
theorem sim_out {l : Nat} {vs : List Value} (i : (Δ l).ι) (hs : s = (Δ l).sp i) (hJ : ∀ F, Holds Γ F → ((Δ l).J i vs L).p F) : Sim P I t Rel Δ q (.out l vs) s L Γ := by
  intro r w F H st res S hst hΓ hi hsp hq
  simp only [T.wp]
  exact ⟨i, L, F, H, st, Heap.le.refl F, hs ▸ hst, hJ F hΓ, hi, hsp⟩
theorem sim_join {l : Nat} {ts : List C} {m : T} {k : HC ts → T} (x : Label ε σ β) (hm : Sim P I t Rel (Δ.set l x) q m s L Γ)
    (hk : ∀ i vs L', (∀ F, (x.J i vs L').p F → ∃ y, vs = HC.enc ts y) ∧ ∀ y, Sim P I t Rel Δ none (k y) (x.sp i) L' (x.J i (HC.enc ts y) L' :: Γ)) : Sim P I t Rel Δ q (.join l ts m k) s L Γ := by
  intro r w F H st res S hst hΓ hi hsp hq
  simp only [T.wp]
  refine T.wp_mono m ?_ (fun e w h => h) (hm r w F H st res S hst hΓ hi hsp hq)
  intro l' vs w' h
  unfold Labels.set at h
  unfold Outs.set
  split
  · rename_i hl
    rw [if_pos hl] at h
    obtain ⟨i, L', F', H', st', hle, hsp', hJ, hi', hS'⟩ := h
    obtain ⟨h1, h2⟩ := hk i vs L'
    obtain ⟨y, rfl⟩ := h1 F' hJ
    exact ⟨y, rfl, wp_le hle (h2 y r w' F' H' st' res S hsp' (Holds.cons hJ (hΓ.mono hle)) hi' hS' trivial)⟩
  · rename_i hl; rw [if_neg hl] at h; exact h
theorem sim_loop {l : Nat} {ts : List C} {vs : List Value} {body : HC ts → T} (x : Label ε σ β) (μ : x.ι → Nat) (i0 : x.ι) (hs : s = x.sp i0) (h0 : ∀ F, Holds Γ F → (x.J i0 vs L).p F)
    (hJ : ∀ i vs L', ∀ F, (x.J i vs L').p F → ∃ y, vs = HC.enc ts y)
    (hb : ∀ i L' y, Sim P I t Rel (Δ.set l { ι := { j : x.ι // μ j < μ i }, sp := fun j => x.sp j.1, J := fun j vs L => x.J j.1 vs L }) none (body y) (x.sp i) L' (x.J i (HC.enc ts y) L' :: Γ)) :
    Sim P I t Rel Δ q (.loop l ts vs body) s L Γ := by
  intro r w F H st res S hst hΓ hi hsp hq
  simp only [T.wp]
  have hst' : x.sp i0 st = some res := hs ▸ hst
  refine ⟨fun n y w' => ∃ i L' F' H' st', μ i = n ∧ F.le F' ∧ x.sp i st' = some res ∧ (x.J i (HC.enc ts y) L').p F' ∧ (I.inv st' H').p F' ∧ Split r w' (H' ++ L') F', ?_, ?_⟩
  · obtain ⟨y, hy⟩ := hJ i0 vs L F (h0 F hΓ)
    exact ⟨_, y, hy, i0, L, F, H, st, rfl, Heap.le.refl F, hst', hy ▸ h0 F hΓ, hi, hsp⟩
  · rintro n y w' ⟨i, L', F', H', st', rfl, hle, hsp', hJ', hi', hS'⟩
    refine T.wp_mono _ ?_ (fun e w h => Ends.le hle h) ((hb i L' y r w' F' H' st' res S hsp' (Holds.cons hJ' (hΓ.mono hle)) hi' hS' trivial))
    intro l' vs2 w2 h
    unfold Labels.set at h
    unfold Outs.set
    split
    · rename_i hl
      rw [if_pos hl] at h
      obtain ⟨⟨j, hj⟩, L2, F2, H2, st2, hle2, hsp2, hJ2, hi2, hS2⟩ := h
      obtain ⟨y2, rfl⟩ := hJ j vs2 L2 F2 hJ2
      exact ⟨_, y2, hj, rfl, j, L2, F2, H2, st2, rfl, hle.trans hle2, hsp2, hJ2, hi2, hS2⟩
    · rename_i hl; rw [if_neg hl] at h; exact Label.outs_le hle h
end
end Go.Proofs.YtjlgcpgjdgeejaaGreatDoor
end

/- The rules by which a tree is held against its specification: operations, calls, results, regions whose order is open. Conditions: none (general tools). -/
section
namespace Go.Proofs.YtjlgcpgjdgeejaaGreatDoor
open Go
set_option linter.unusedSimpArgs false
set_option linter.unusedVariables false
set_option linter.constructorNameAsVariable false

section
variable {ε σ β : Type} {P : Program} {I : Ifc ε σ} {t : Ty} {Rel : β → t.den → Own → Fact} {Δ : Labels ε σ β} {q : Option Quiet} {L : Own} {Γ : List Fact} {s : Sp ε σ β}

theorem Sp.bind_some {ε σ α β : Type} {x : Sp ε σ α} {f : α → Sp ε σ β} {st : σ} {res : Res ε σ β} (h : (x >>= f) st = some res) :
    (∃ e, x st = some (.err e) ∧ res = .err e) ∨ ∃ a st', x st = some (.ok a st') ∧ f a st' = some res := by
  change Sp.bind x f st = some res at h
  unfold Sp.bind at h
  cases hx : x st with
  | none => simp [hx] at h
  | some r =>
    cases r with
    | err e => simp [hx] at h; exact .inl ⟨e, rfl, h.symm⟩
    | ok a st' => simp only [hx] at h; exact .inr ⟨a, st', rfl, h⟩
theorem Sp.bind_pure {ε σ α : Type} (x : Sp ε σ α) : (x >>= fun a => (Pure.pure a : Sp ε σ α)) = x := by
  funext st
  change Sp.bind x _ st = x st
  unfold Sp.bind
  cases x st with
  | none => rfl
  | some r => cases r <;> rfl
theorem Sp.bind_assoc {ε σ α β γ : Type} (x : Sp ε σ α) (f : α → Sp ε σ β) (g : β → Sp ε σ γ) : ((x >>= f) >>= g) = (x >>= fun a => f a >>= g) := by
  funext st
  change Sp.bind (Sp.bind x f) g st = Sp.bind x (fun a => Sp.bind (f a) g) st
  unfold Sp.bind
  cases x st with
  | none => rfl
  | some r => cases r <;> rfl

theorem meets_frame {β1 : Type} {t1 : Ty} {s0 : Sem Next} {s1 : Sp ε σ β1} {Rel1 : β1 → t1.den → Own → Fact} {Γ1 : List Fact} (hm : MeetsO P I s0 t1 s1 Rel1 Γ1) (hΓ1 : ∀ A ∈ Γ1, A ∈ Γ)
    {r : Rest} {w : World} {F : Heap} {H : Own} {st : σ} {res : Res ε σ β} {s2 : β1 → Sp ε σ β} (hs : (s1 >>= s2) st = some res) (hΓ : Holds Γ F) (hi : (I.inv st H).p F) (hsp : Split r w (H ++ L) F)
    {K : Value → World → Prop} {N : List PanicEntry → World → Prop}
    (hok : ∀ b x F' H' K1 st' w', s1 st = some (.ok b st') → s2 b st' = some res → F.le F' → (Rel1 b x K1).p F' → (I.inv st' H').p F' → Split r w' (H' ++ (K1 ++ L)) F' → K (t1.enc x) w')
    (herr : ∀ y c F' w', res = .err y → F.le F' → I.err y c → Split r w' [] F' → N c w') : upon P K N (s0.run P w) := by
  rcases Sp.bind_some hs with ⟨e, h1, rfl⟩ | ⟨b, st', h1, h2⟩
  · refine upon_mono ?_ ?_ _ (hm (Split.give r L) w F H st (.err e) h1 (fun A hA => hΓ A (hΓ1 A hA)) hi hsp.out)
    · rintro v w' ⟨F', hle, c, hc, _⟩; cases hc
    · rintro c w' ⟨F', hle, c', hc, herr', hS⟩
      cases hc
      exact herr e c F' w' rfl hle herr' ((Split.back hsp hS).sub (List.nil_sublist _))
  · refine upon_mono ?_ ?_ _ (hm (Split.give r L) w F H st (.ok b st') h1 (fun A hA => hΓ A (hΓ1 A hA)) hi hsp.out)
    · rintro v w' ⟨F', hle, H', K1, x, hv, hinv, hS, hR⟩
      cases hv
      exact hok b x F' H' K1 st' w' h1 h2 hle hR hinv (by rw [← List.append_assoc]; exact Split.back hsp hS)
    · rintro c w' ⟨F', hle, H', K1, x, hv, _⟩; cases hv

theorem sim_opRO {β1 : Type} {t1 : Ty} {s0 : Sem Next} {k : t1.den → T} {s1 : Sp ε σ β1} {s2 : β1 → Sp ε σ β} {Rel1 : β1 → t1.den → Own → Fact} {Γ1 : List Fact} (hm : MeetsO P I s0 t1 s1 Rel1 Γ1)
    (hΓ1 : ∀ A ∈ Γ1, A ∈ Γ) (hk : ∀ x b K st st', s1 st = some (.ok b st') → Sim P I t Rel Δ none (k x) (s2 b) (K ++ L) (Rel1 b x K :: Γ)) : Sim P I t Rel Δ q (.op s0 t1 k) (s1 >>= s2) L Γ := by
  intro r w F H st res S hs hΓ hi hsp hq
  simp only [T.wp]
  refine meets_frame hm hΓ1 hs hΓ hi hsp ?_ ?_
  · intro b x F' H' K st' w' h1 h2 hle hR hinv hS
    exact ⟨x, rfl, wp_le hle (hk x b K st st' h1 r w' F' H' st' res S h2 (Holds.cons hR (hΓ.mono hle)) hinv hS trivial)⟩
  · rintro y c F' w' rfl hle he hS
    exact ⟨F', hle, c, rfl, he, hS⟩
theorem sim_opO {β1 : Type} {t1 : Ty} {s0 : Sem Next} {k : t1.den → T} {s1 : Sp ε σ β1} {s2 : β1 → Sp ε σ β} {Rel1 : β1 → t1.den → Own → Fact} {Γ1 : List Fact} (hm : MeetsO P I s0 t1 s1 Rel1 Γ1)
    (hΓ1 : ∀ A ∈ Γ1, A ∈ Γ) (hk : ∀ x b K, Sim P I t Rel Δ none (k x) (s2 b) (K ++ L) (Rel1 b x K :: Γ)) : Sim P I t Rel Δ q (.op s0 t1 k) (s1 >>= s2) L Γ :=
  sim_opRO hm hΓ1 fun x b K _ _ _ => hk x b K
theorem Sim.pl {m : T} {β1 α : Type} {Rel1 : β1 → α → Fact} {b : β1} {x : α} {K : Own} (h : Sim P I t Rel Δ q m s L (Rel1 b x :: Γ)) : Sim P I t Rel Δ q m s (K ++ L) (pl Rel1 b x K :: Γ) :=
  Sim.both (Sim.prop fun hK => by subst hK; exact h)
theorem sim_opR {β1 : Type} {t1 : Ty} {s0 : Sem Next} {k : t1.den → T} {s1 : Sp ε σ β1} {s2 : β1 → Sp ε σ β} {Rel1 : β1 → t1.den → Fact} {Γ1 : List Fact} (hm : Meets P I s0 t1 s1 Rel1 Γ1)
    (hΓ1 : ∀ A ∈ Γ1, A ∈ Γ) (hk : ∀ x b st st', s1 st = some (.ok b st') → Sim P I t Rel Δ none (k x) (s2 b) L (Rel1 b x :: Γ)) : Sim P I t Rel Δ q (.op s0 t1 k) (s1 >>= s2) L Γ :=
  sim_opRO hm hΓ1 fun x b K st st' h => Sim.pl (hk x b st st' h)
theorem sim_op {β1 : Type} {t1 : Ty} {s0 : Sem Next} {k : t1.den → T} {s1 : Sp ε σ β1} {s2 : β1 → Sp ε σ β} {Rel1 : β1 → t1.den → Fact} {Γ1 : List Fact} (hm : Meets P I s0 t1 s1 Rel1 Γ1)
    (hΓ1 : ∀ A ∈ Γ1, A ∈ Γ) (hk : ∀ x b, Sim P I t Rel Δ none (k x) (s2 b) L (Rel1 b x :: Γ)) : Sim P I t Rel Δ q (.op s0 t1 k) (s1 >>= s2) L Γ :=
  sim_opR hm hΓ1 fun x b _ _ _ => hk x b
theorem Stab.keep {q : Quiet} {S : World → Prop} {L' : Own} {F F' : Heap} {r : Rest} {w' : World} {H' : Own} (hq : Quiet.ok (some q) S F L) (hle : F.le F') (hS : Split r w' (H' ++ L') F') (hsub : ∀ p ∈ q.L, p ∈ L') : S w' ∧ Quiet.ok (some q) S F' L' := by
  obtain ⟨_, K, rfl, h1, h2, h3⟩ := hq
  refine ⟨fun b o hb => ?_, hsub, K, rfl, h1, h2, fun b o hb => (h3 b o hb).imp (hle b o) id⟩
  rcases h3 b o hb with h | h
  · exact (hS.frz b o (hle b o h)).1
  · exact hS.own b o (List.mem_append_right _ (hsub _ h))
theorem Quiet.stab {q : Quiet} {S : World → Prop} {F : Heap} {r : Rest} {w : World} {H : Own} (hq : Quiet.ok (some q) S F L) (hS : Split r w (H ++ L) F) : S w := by
  obtain ⟨hL, K, rfl, h1, h2, h3⟩ := hq
  intro b o hb
  rcases h3 b o hb with h | h
  · exact (hS.frz b o h).1
  · exact hS.own b o (List.mem_append_right _ (hL _ h))
theorem sim_oplR {β1 : Type} {t1 : Ty} {s0 : Sem Next} {k : t1.den → T} {s1 : Sp ε σ β1} {s2 : β1 → Sp ε σ β} {Rel1 : β1 → t1.den → Fact} {Γ1 : List Fact} {q : Quiet} (hm : Meets P I s0 t1 s1 Rel1 Γ1)
    (hΓ1 : ∀ A ∈ Γ1, A ∈ Γ) (hk : ∀ x b st st', s1 st = some (.ok b st') → Sim P I t Rel Δ (some q) (k x) (s2 b) L (Rel1 b x :: Γ)) : Sim P I t Rel Δ (some q) (.opl s0 t1 k) (s1 >>= s2) L Γ := by
  intro r w F H st res S hs hΓ hi hsp hq
  simp only [T.wp]
  refine meets_frame hm hΓ1 hs hΓ hi hsp ?_ ?_
  · rintro b x F' H' K1 st' w' h1 h2 hle ⟨rfl, hR⟩ hinv hS
    obtain ⟨hw, hq'⟩ := Stab.keep hq hle hS hq.1
    exact ⟨hw, x, rfl, wp_le hle (hk x b st st' h1 r w' F' H' st' res S h2 (Holds.cons hR (hΓ.mono hle)) hinv hS hq')⟩
  · rintro y c F' w' rfl hle he hS
    exact ⟨F', hle, c, rfl, he, hS⟩
theorem sim_opl {β1 : Type} {t1 : Ty} {s0 : Sem Next} {k : t1.den → T} {s1 : Sp ε σ β1} {s2 : β1 → Sp ε σ β} {Rel1 : β1 → t1.den → Fact} {Γ1 : List Fact} {q : Quiet} (hm : Meets P I s0 t1 s1 Rel1 Γ1)
    (hΓ1 : ∀ A ∈ Γ1, A ∈ Γ) (hk : ∀ x b, Sim P I t Rel Δ (some q) (k x) (s2 b) L (Rel1 b x :: Γ)) : Sim P I t Rel Δ (some q) (.opl s0 t1 k) (s1 >>= s2) L Γ :=
  sim_oplR hm hΓ1 fun x b _ _ _ => hk x b
theorem sim_op1 {t1 : Ty} {s0 : Sem Next} {k : t1.den → T} {Rel1 : β → t1.den → Fact} {Γ1 : List Fact} (hm : Meets P I s0 t1 s Rel1 Γ1)
    (hΓ1 : ∀ A ∈ Γ1, A ∈ Γ) (hk : ∀ x b, Sim P I t Rel Δ none (k x) (Pure.pure b) L (Rel1 b x :: Γ)) : Sim P I t Rel Δ q (.op s0 t1 k) s L Γ :=
  Sim.spec (Sp.bind_pure s).symm (sim_op hm hΓ1 hk)
theorem sim_opl1 {t1 : Ty} {s0 : Sem Next} {k : t1.den → T} {Rel1 : β → t1.den → Fact} {Γ1 : List Fact} {q : Quiet} (hm : Meets P I s0 t1 s Rel1 Γ1)
    (hΓ1 : ∀ A ∈ Γ1, A ∈ Γ) (hk : ∀ x b, Sim P I t Rel Δ (some q) (k x) (Pure.pure b) L (Rel1 b x :: Γ)) : Sim P I t Rel Δ (some q) (.opl s0 t1 k) s L Γ :=
  Sim.spec (Sp.bind_pure s).symm (sim_opl hm hΓ1 hk)

def Loc (P : Program) (s0 : Sem Next) (t1 : Ty) (L : Own) (Γ : List Fact) (post : t1.den → Own → List Fact → Prop) : Prop :=
  ∀ r w F H, Holds Γ F → Split r w (H ++ L) F → upon P (fun v w' => ∃ x L' Γ' F', v = t1.enc x ∧ F.le F' ∧ Holds Γ' F' ∧ Split r w' (H ++ L') F' ∧ post x L' Γ') (fun _ _ => False) (s0.run P w)
theorem Loc.val {s0 : Sem Next} {t1 : Ty} {post : t1.den → Own → List Fact → Prop}
    (h : ∀ r w F H, Holds Γ F → Split r w (H ++ L) F → ∃ x w' L' Γ' F', (s0.run P w = .ok (.value (t1.enc x)) w' ∨ (s0.run P w = .ok .skip w' ∧ t1.enc x = undef)) ∧ F.le F' ∧ Holds Γ' F' ∧ Split r w' (H ++ L') F' ∧ post x L' Γ') :
    Loc P s0 t1 L Γ post := by
  intro r w F H hF hsp
  obtain ⟨x, w', L', Γ', F', hrun, hle, hΓ', hsp', hpost⟩ := h r w F H hF hsp
  rcases hrun with hrun | ⟨hrun, hu⟩
  · rw [hrun]; exact ⟨x, L', Γ', F', rfl, hle, hΓ', hsp', hpost⟩
  · rw [hrun]; exact ⟨x, L', Γ', F', hu.symm, hle, hΓ', hsp', hpost⟩
theorem Loc.mono {s0 : Sem Next} {t1 : Ty} {post post' : t1.den → Own → List Fact → Prop} (h : Loc P s0 t1 L Γ post) (hp : ∀ x L' Γ', post x L' Γ' → post' x L' Γ') : Loc P s0 t1 L Γ post' :=
  fun r w F H hF hsp => upon_mono (fun v w' ⟨x, L', Γ', F', h1, h2, h3, h4, h5⟩ => ⟨x, L', Γ', F', h1, h2, h3, h4, hp _ _ _ h5⟩) (fun _ _ h => h) _ (h r w F H hF hsp)
theorem inv_le {I : Ifc ε σ} {st : σ} {H : Own} {F F' : Heap} (hle : F.le F') (h : (I.inv st H).p F) : (I.inv st H).p F' := (I.inv st H).mono F F' hle h
theorem sim_loc {t1 : Ty} {s0 : Sem Next} {k : t1.den → T} {post : t1.den → Own → List Fact → Prop} (h : Loc P s0 t1 L Γ post)
    (hk : ∀ x L' Γ', post x L' Γ' → Sim P I t Rel Δ none (k x) s L' Γ') : Sim P I t Rel Δ q (.op s0 t1 k) s L Γ := by
  intro r w F H st res S hs hΓ hi hsp hq
  simp only [T.wp]
  refine upon_mono ?_ (fun _ _ h => h.elim) _ (h r w F H hΓ hsp)
  rintro v w' ⟨x, L', Γ', F', rfl, hle, hΓ', hsp', hpost⟩
  exact ⟨x, rfl, wp_le hle (hk x L' Γ' hpost r w' F' H st res S hs hΓ' (inv_le hle hi) hsp' trivial)⟩
theorem sim_locl {t1 : Ty} {s0 : Sem Next} {k : t1.den → T} {post : t1.den → Own → List Fact → Prop} {q : Quiet} (h : Loc P s0 t1 L Γ post)
    (hk : ∀ x L' Γ', post x L' Γ' → (∀ p ∈ q.L, p ∈ L') ∧ Sim P I t Rel Δ (some q) (k x) s L' Γ') : Sim P I t Rel Δ (some q) (.opl s0 t1 k) s L Γ := by
  intro r w F H st res S hs hΓ hi hsp hq
  simp only [T.wp]
  refine upon_mono ?_ (fun _ _ h => h.elim) _ (h r w F H hΓ hsp)
  rintro v w' ⟨x, L', Γ', F', rfl, hle, hΓ', hsp', hpost⟩
  obtain ⟨hsub, hsim⟩ := hk x L' Γ' hpost
  obtain ⟨hw, hq'⟩ := Stab.keep hq hle hsp' hsub
  exact ⟨hw, x, rfl, wp_le hle (hsim r w' F' H st res S hs hΓ' (inv_le hle hi) hsp' hq')⟩

theorem sim_draw {m : T} (Lq : Own) (hL : ∀ p ∈ Lq, p ∈ L) (h : Sim P I t Rel Δ (some ⟨Γ, Lq⟩) m s L Γ) : Sim P I t Rel Δ q (.draw m) s L Γ := by
  intro r w F H st res S hs hΓ hi hsp hq
  simp only [T.wp]
  have hsp' := hsp.drewW
  let K : Heap := fun b => match Lq.find? (fun p => p.1 == b) with | some p => some p.2 | none => F b
  have hnd : (L.map (·.1)).Nodup := by
    have := hsp.nodup; rw [List.map_append, List.nodup_append] at this; exact this.2.1
  have hfind : ∀ p ∈ Lq, Lq.find? (fun x => x.1 == p.1) = some p := fun p hp => by
    cases hf : Lq.find? (fun x => x.1 == p.1) with
    | none => have := List.find?_eq_none.1 hf p hp; simp at this
    | some u =>
      have hu := List.mem_of_find?_eq_some hf
      have hub : u.1 = p.1 := by simpa using List.find?_some hf
      have h1 := Split.find_mem L p.1 p.2 hnd (hL p hp)
      have h2 := Split.find_mem L p.1 u.2 hnd (by rw [← hub]; exact hL u hu)
      rw [h1] at h2
      simp only [Option.some.injEq, Prod.mk.injEq, true_and] at h2
      obtain ⟨u1, u2⟩ := u; obtain ⟨p1, p2⟩ := p
      simp only at hub h2; subst hub; subst h2; rfl
  have hK : ∀ b o, K b = some o → F b = some o ∨ (b, o) ∈ Lq := fun b o hb => by
    simp only [K] at hb
    split at hb
    · rename_i p hp
      cases hb
      have hpb : p.1 = b := by simpa using List.find?_some hp
      right; rw [← hpb]; exact List.mem_of_find?_eq_some hp
    · exact .inl hb
  have hle : F.le K := fun b o hb => by
    simp only [K]
    split
    · rename_i p hp
      have hpb : p.1 = b := by simpa using List.find?_some hp
      exact absurd hpb ((hsp.frz b o hb).2 p (List.mem_append_right _ (hL _ (List.mem_of_find?_eq_some hp))))
    · exact hb
  have hq' : Quiet.ok (some ⟨Γ, Lq⟩) (Stab K) F L := ⟨hL, K, rfl, hΓ.mono hle, fun p hp => by simp only [K]; rw [hfind p hp], hK⟩
  exact ⟨Stab K, Quiet.stab hq' hsp', h r _ F H st res _ hs hΓ hi hsp' hq'⟩
def QVal (P : Program) (q : Quiet) (s0 : Sem Next) (v : Value) : Prop := ∀ K, Holds q.Γ K → (∀ p ∈ q.L, K p.1 = some p.2) → ∀ w, Stab K w → s0.run P w = .ok (.value v) w
theorem sim_opq {t1 : Ty} {s0 : Sem Next} {k : t1.den → T} {q : Quiet} (x : t1.den) (h : QVal P q s0 (t1.enc x)) (hk : Sim P I t Rel Δ (some q) (k x) s L Γ) : Sim P I t Rel Δ (some q) (.opq s0 t1 k) s L Γ := by
  intro r w F H st res S hs hΓ hi hsp hq
  simp only [T.wp]
  have hS := Quiet.stab hq hsp
  have hk' := hk r w F H st res S hs hΓ hi hsp hq
  obtain ⟨_, K, rfl, h1, h2, h3⟩ := hq
  exact ⟨x, hS, fun w' hw' => h K h1 h2 w' hw', hk'⟩

def RelEq {α : Type} (b x : α) : Fact := Fact.prop (x = b)
theorem pure_ok {ε σ α : Type} {a b : α} {st st' : σ} (h : (Pure.pure a : Sp ε σ α) st = some (.ok b st')) : b = a := by
  have : (some (Res.ok a st) : Option (Res ε σ α)) = some (.ok b st') := h
  cases this; rfl
theorem sim_val {t1 : Ty} {s0 : Sem Next} {k : t1.den → T} {b0 : t1.den} {Γ1 : List Fact} (hm : Meets P I s0 t1 (Pure.pure b0 : Sp ε σ t1.den) RelEq Γ1) (hΓ1 : ∀ A ∈ Γ1, A ∈ Γ)
    (hk : Sim P I t Rel Δ none (k b0) s L Γ) : Sim P I t Rel Δ q (.op s0 t1 k) s L Γ :=
  Sim.spec (s' := (Pure.pure b0 : Sp ε σ t1.den) >>= fun _ => s) rfl (sim_opR hm hΓ1 fun x b st st' h => Sim.prop fun hx => by
    rw [hx, pure_ok h]; exact hk)
theorem sim_vall {t1 : Ty} {s0 : Sem Next} {k : t1.den → T} {b0 : t1.den} {Γ1 : List Fact} {q : Quiet} (hm : Meets P I s0 t1 (Pure.pure b0 : Sp ε σ t1.den) RelEq Γ1) (hΓ1 : ∀ A ∈ Γ1, A ∈ Γ)
    (hk : Sim P I t Rel Δ (some q) (k b0) s L Γ) : Sim P I t Rel Δ (some q) (.opl s0 t1 k) s L Γ :=
  Sim.spec (s' := (Pure.pure b0 : Sp ε σ t1.den) >>= fun _ => s) rfl (sim_oplR hm hΓ1 fun x b st st' h => Sim.prop fun hx => by
    rw [hx, pure_ok h]; exact hk)
theorem sim_valR {β1 : Type} {t1 : Ty} {s0 : Sem Next} {k : t1.den → T} {b0 : β1} {Rel1 : β1 → t1.den → Fact} {Γ1 : List Fact} (hm : Meets P I s0 t1 (Pure.pure b0 : Sp ε σ β1) Rel1 Γ1) (hΓ1 : ∀ A ∈ Γ1, A ∈ Γ)
    (hk : ∀ x, Sim P I t Rel Δ none (k x) s L (Rel1 b0 x :: Γ)) : Sim P I t Rel Δ q (.op s0 t1 k) s L Γ :=
  Sim.spec (s' := (Pure.pure b0 : Sp ε σ β1) >>= fun _ => s) rfl (sim_opR hm hΓ1 fun x b st st' h => by rw [pure_ok h]; exact hk x)
theorem sim_valRl {β1 : Type} {t1 : Ty} {s0 : Sem Next} {k : t1.den → T} {b0 : β1} {Rel1 : β1 → t1.den → Fact} {Γ1 : List Fact} {q : Quiet} (hm : Meets P I s0 t1 (Pure.pure b0 : Sp ε σ β1) Rel1 Γ1) (hΓ1 : ∀ A ∈ Γ1, A ∈ Γ)
    (hk : ∀ x, Sim P I t Rel Δ (some q) (k x) s L (Rel1 b0 x :: Γ)) : Sim P I t Rel Δ (some q) (.opl s0 t1 k) s L Γ :=
  Sim.spec (s' := (Pure.pure b0 : Sp ε σ β1) >>= fun _ => s) rfl (sim_oplR hm hΓ1 fun x b st st' h => by rw [pure_ok h]; exact hk x)
theorem sim_fails {β1 : Type} {t1 : Ty} {s0 : Sem Next} {k : t1.den → T} {s1 : Sp ε σ β1} {Rel1 : β1 → t1.den → Own → Fact} {Γ1 : List Fact} (hm : MeetsO P I s0 t1 s1 Rel1 Γ1)
    (hΓ1 : ∀ A ∈ Γ1, A ∈ Γ) (hs : ∀ st, ∃ y, s1 st = some (.err y) ∧ s st = some (.err y)) : Sim P I t Rel Δ q (.op s0 t1 k) s L Γ := by
  intro r w F H st res S hst hΓ hi hsp hq
  simp only [T.wp]
  obtain ⟨y, h1, h2⟩ := hs st
  obtain rfl : Res.err y = res := Option.some.inj (h2.symm.trans hst)
  refine upon_mono ?_ ?_ _ (hm (Split.give r L) w F H st (.err y) h1 (fun A hA => hΓ A (hΓ1 A hA)) hi hsp.out)
  · rintro v w' ⟨F', hle, c, hc, _⟩; cases hc
  · rintro c w' ⟨F', hle, c', hc, herr', hS⟩
    cases hc
    exact ⟨F', hle, c, rfl, herr', (Split.back hsp hS).sub (List.nil_sublist _)⟩
theorem run_resR1 (v : Value) (w : World) : (resR #[.v v]).run P w = .ok v w := by simp [resR, RV.sem]
theorem run_resR2 (u v : Value) (w : World) : (resR #[.v u, .v v]).run P w = .ok (.tuple #[u, v]) w := by simp [resR, RV.sem]
theorem run_resR0 (w : World) : (resR #[]).run P w = .ok (.tuple #[]) w := by simp [resR]
theorem sim_retO {rs : Array RV} {b : β} (K : Own) (hK : K.Sublist L) (x : t.den) (hr : ∀ r w F H, Holds Γ F → Split r w (H ++ L) F → (resR rs).run P w = .ok (t.enc x) w) (h : ∀ F, Holds Γ F → (Rel b x K).p F) :
    Sim P I t Rel Δ q (.ret rs) (Pure.pure b) L Γ := by
  intro r w F H st res S hs hΓ hi hsp hq
  simp only [T.wp]
  obtain rfl : Res.ok b st = res := Option.some.inj hs
  exact ⟨_, hr r w F H hΓ hsp, F, Heap.le.refl F, H, K, x, rfl, hi, hsp.sub (hK.append_left H), h F hΓ⟩
theorem sim_ret {Rel : β → t.den → Fact} {rs : Array RV} {b : β} (x : t.den) (hr : ∀ r w F H, Holds Γ F → Split r w (H ++ L) F → (resR rs).run P w = .ok (t.enc x) w) (h : ∀ F, Holds Γ F → (Rel b x).p F) :
    Sim P I t (pl Rel) Δ q (.ret rs) (Pure.pure b) L Γ := sim_retO [] (List.nil_sublist _) x hr fun F hF => ⟨rfl, h F hF⟩
theorem sim_ret1 {Rel : β → t.den → Fact} {v : Value} {b : β} (x : t.den) (hv : v = t.enc x) (h : ∀ F, Holds Γ F → (Rel b x).p F) :
    Sim P I t (pl Rel) Δ q (.ret #[.v v]) (Pure.pure b) L Γ :=
  sim_ret x (fun r w F H _ _ => by rw [run_resR1, hv]) h
theorem sim_ret1O {v : Value} {b : β} (K : Own) (hK : K.Sublist L) (x : t.den) (hv : v = t.enc x) (h : ∀ F, Holds Γ F → (Rel b x K).p F) :
    Sim P I t Rel Δ q (.ret #[.v v]) (Pure.pure b) L Γ :=
  sim_retO K hK x (fun r w F H _ _ => by rw [run_resR1, hv]) h

theorem run_callS {f : FuncId} {fn : Func} {args : Array Value} {w : World} (hf : P.funcs[f]? = some fn) (hb : fn.body.isNone = false) (hn : (fn.name == "runtime.NumGoroutine") = false) :
    (callS f args).run P w = .ok (.enter f args) w := by
  have hn' : ¬ fn.name = "runtime.NumGoroutine" := by simpa using hn
  have hb' : ¬ fn.body = none := by
    intro h; rw [h] at hb; cases hb
  unfold callS callvS Deferred.ofValue invoke callFunc
  simp [hf, hb', hn']
theorem meets_of_sim {f : FuncId} {fn : Func} {an : An} {args : List Value} (hf : P.funcs[f]? = some fn) (hb : fn.body.isNone = false) (hn : (fn.name == "runtime.NumGoroutine") = false)
    (hsz : args.length ≤ fn.ntmps) (h : Sim P I t Rel noLabel none (fnT P fn an args) s [] Γ) : MeetsO P I (callS f args.toArray) t s Rel Γ := by
  intro r w F H st res hs hΓ hi hsp
  rw [run_callS hf hb hn]
  have := fnT_sound hf hsz (h r w F H st res (fun _ => True) hs hΓ hi (by simpa using hsp) trivial)
  refine Calls.mono this fun e w' he => ?_
  cases e with
  | returned v => exact he
  | panicked c => exact he
  | outgrown => obtain ⟨F', hle, he⟩ := he; cases res <;> simp at he
theorem upon_of_wp {f : FuncId} {fn : Func} {an : An} {args : List Value} {S : World → Prop} {Φ : Outs} {R : Ending → World → Prop} {w : World} (hf : P.funcs[f]? = some fn) (hb : fn.body.isNone = false) (hn : (fn.name == "runtime.NumGoroutine") = false)
    (hsz : args.length ≤ fn.ntmps) (hR : ∀ w, ¬ R .outgrown w) (h : (fnT P fn an args).wp P S Φ R w) : upon P (fun v w' => R (.returned v) w') (fun c w' => R (.panicked c) w') ((callS f args.toArray).run P w) := by
  rw [run_callS hf hb hn]
  refine Calls.mono (fnT_sound hf hsz h) fun e w' he => ?_
  cases e with
  | returned v => exact he
  | panicked c => exact he
  | outgrown => exact hR _ he
end
end Go.Proofs.YtjlgcpgjdgeejaaGreatDoor
end

/- What the operations on memory do, each with its law; the rules where the state's own memory is looked into. Conditions: none (general tools). -/
section
namespace Go.Proofs.YtjlgcpgjdgeejaaGreatDoor
open Go
set_option linter.unusedSimpArgs false
set_option linter.unusedVariables false
set_option linter.constructorNameAsVariable false

def blk (T : TypeId) (l : List Value) : Obj := .cells l.toArray T (0, 0)
def shapeOf (P : Program) (t : TypeId) : Option (Bool × Nat) :=
  match P.underlying t, P.info? t with
  | some d, some i => some (match d with | .struct _ => true | .array _ _ => true | _ => false, i.size)
  | _, _ => none
def isOne (P : Program) (t : TypeId) : Option Bool := (shapeOf P t).map fun x => !x.1
theorem isOne_spec {P : Program} {t : TypeId} (h : isOne P t = some true) : ∃ n, shapeOf P t = some (false, n) := by
  unfold isOne at h
  cases hs : shapeOf P t with
  | none => rw [hs] at h; cases h
  | some x => obtain ⟨b, n⟩ := x; rw [hs] at h; simp at h; subst h; exact ⟨n, rfl⟩
def zeroOf (P : Program) (t : TypeId) : Option (List Value) := match P.info? t with
  | some i => i.zero.map (·.cells.toList)
  | none => none

section runs
variable {P : Program} {w : World} {a : Addr} {T T0 : TypeId} {n : Nat} {l : List Value} {v : Value}
theorem cell_blk (hb : w.heap[a.block]? = some (blk T0 l)) (ha : a.spot = none) : w.cell? a = l[a.off]? := by
  simp [World.cell?, hb, blk, ha]
theorem run_isAgg {b : Bool} (hs : shapeOf P T = some (b, n)) : (isAgg T).run P w = .ok b w ∧ (sizeOf T).run P w = .ok n w := by
  unfold shapeOf at hs
  split at hs
  · rename_i d i hd hi
    simp only [Option.some.injEq, Prod.mk.injEq] at hs
    obtain ⟨h1, rfl⟩ := hs
    refine ⟨?_, by simp [sizeOf, typeInfo, hi]⟩
    simp only [isAgg, Sem.run_bind, run_underlying hd, Result.andThen_ok]
    cases d <;> simp at h1 <;> simp [← h1]
  · cases hs
theorem run_ld1 (h1 : isOne P T = some true) (hb : w.heap[a.block]? = some (blk T0 l)) (ha : a.spot = none) (hv : l[a.off]? = some v) :
    (ldS T (.pointer (some a))).run P w = .ok (.value v) w := by
  obtain ⟨n, hs⟩ := isOne_spec h1
  have hc : w.cell? a = some v := (cell_blk hb ha).trans hv
  simp [ldS, valS, Instr.loadAt, Instr.sureAddr, loadVar, (run_isAgg hs).1, hc]
theorem run_ldC (h1 : isOne P T = some true) (hc : w.cell? a = some v) : (ldS T (.pointer (some a))).run P w = .ok (.value v) w := by
  obtain ⟨n, hs⟩ := isOne_spec h1
  simp [ldS, valS, Instr.loadAt, Instr.sureAddr, loadVar, (run_isAgg hs).1, hc]
theorem addr_add (a : Addr) (ha : a.spot = none) (i : Nat) : (a.add i).block = a.block ∧ (a.add i).off = a.off + i ∧ (a.add i).spot = none := by
  unfold Addr.add; split <;> simp_all
theorem run_loadCells_blk {vs : List Value} (hb : w.heap[a.block]? = some (blk T0 l)) (ha : a.spot = none) (hv : (l.drop a.off).take vs.length = vs) :
    (loadCells a vs.length).run P w = .ok vs.toArray w := by
  refine run_loadCells_list w a vs fun j u hj => ?_
  obtain ⟨h1, h2, h3⟩ := addr_add a ha j
  rw [cell_blk (T0 := T0) (l := l) (by rw [h1]; exact hb) h3, h2]
  have hlt : j < vs.length := by
    rcases Nat.lt_or_ge j vs.length with h | h
    · exact h
    · rw [List.getElem?_eq_none h] at hj; cases hj
  have : ((l.drop a.off).take vs.length)[j]? = some u := by rw [hv]; exact hj
  rw [List.getElem?_take, if_pos hlt, List.getElem?_drop] at this
  exact this
theorem run_ldA {vs : List Value} (hs : shapeOf P T = some (true, vs.length)) (hb : w.heap[a.block]? = some (blk T0 l)) (ha : a.spot = none) (hv : (l.drop a.off).take vs.length = vs) :
    (ldS T (.pointer (some a))).run P w = .ok (.value (.agg vs.toArray)) w := by
  simp [ldS, valS, Instr.loadAt, Instr.sureAddr, loadVar, (run_isAgg hs).1, (run_isAgg hs).2, run_loadCells_blk hb ha hv]
theorem loadVar_1 (hs : shapeOf P T = some (false, n)) (hb : w.heap[a.block]? = some (blk T0 l)) (ha : a.spot = none) (hv : l[a.off]? = some v) : (loadVar T a).run P w = .ok v w := by
  have hc : w.cell? a = some v := (cell_blk hb ha).trans hv
  simp [loadVar, (run_isAgg hs).1, hc]
theorem loadVar_A {vs : List Value} (hs : shapeOf P T = some (true, vs.length)) (hb : w.heap[a.block]? = some (blk T0 l)) (ha : a.spot = none) (hv : (l.drop a.off).take vs.length = vs) :
    (loadVar T a).run P w = .ok (.agg vs.toArray) w := by
  simp [loadVar, (run_isAgg hs).1, (run_isAgg hs).2, run_loadCells_blk hb ha hv]
def splice (l : List Value) (o : Nat) (vs : List Value) : List Value := l.take o ++ vs ++ l.drop (o + vs.length)
theorem run_st {c : Bool} (hs : shapeOf P T = some (c, v.cells.toList.length)) (hb : w.heap[a.block]? = some (blk T0 l)) (ha : a.spot = none) (hl : a.off + v.cells.toList.length ≤ l.length)
    (h1 : ∀ x ∈ v.cells.toList, x.oneCell' = true) : (stS T (.pointer (some a)) v).run P w = .ok .skip (w.setRow a.block (splice l a.off v.cells.toList).toArray) := by
  obtain ⟨b, o, sp⟩ := a
  obtain rfl : sp = none := ha
  have hst := run_storeCells_at (P := P) b o T0 v.cells.toList 0 l.toArray w hb (by simpa using hl) h1
  have hsz : v.cells.size = v.cells.toList.length := by simp
  simp only [stS, Instr.storeAt, Instr.sureAddr, storeVar, Sem.run_bind, Sem.run_pure, Result.andThen_ok, (run_isAgg hs).2, hsz, ne_eq, not_true_eq_false, if_false]
  simp only [Nat.add_zero] at hst
  simp [hst, splice]
theorem zeroValue_run {z : List Value} (hz : zeroOf P T = some z) : ∃ v, v.cells.toList = z ∧ (zeroValue T).run P w = .ok v w := by
  unfold zeroOf at hz
  split at hz
  · rename_i i hi
    simp only [Option.map_eq_some_iff] at hz
    obtain ⟨v, hv, h2⟩ := hz
    exact ⟨v, h2, by simp [zeroValue, typeInfo, hi, hv]⟩
  · cases hz
theorem run_allocS {z : List Value} (hz : zeroOf P T = some z) : (allocS T).run P w = .ok (.value (.pointer (some ⟨w.heap.size, 0, none⟩))) (w.alloc (blk T z)) := by
  obtain ⟨v, h1, h2⟩ := zeroValue_run (w := w) hz
  simp [allocS, valS, Instr.alloc, h2, newVar, newRow, blk, ← h1]
theorem run_boxS (v : Value) : (boxS T v).run P w = .ok (.value (.pointer (some ⟨w.heap.size, 0, none⟩))) (w.alloc (blk T v.cells.toList)) := by
  simp [boxS, valS, Instr.box, newVar, newRow, blk]
end runs

def EndsLoc (t1 : Ty) (r : Rest) (H : Own) (F : Heap) (post : t1.den → Own → List Fact → Prop) (e : Ending) (w' : World) : Prop :=
  ∃ x L' Γ' F', e = .returned (t1.enc x) ∧ F.le F' ∧ Holds Γ' F' ∧ Split r w' (H ++ L') F' ∧ post x L' Γ'
theorem Loc.of_wp {P : Program} {s0 : Sem Next} {t1 : Ty} {m : T} {L : Own} {Γ : List Fact} {post : t1.den → Own → List Fact → Prop}
    (hu : ∀ (S : World → Prop) (Φ : Outs) (R : Ending → World → Prop) (w : World), (∀ w, ¬ R .outgrown w) → m.wp P S Φ R w → upon P (fun v w' => R (.returned v) w') (fun c w' => R (.panicked c) w') (s0.run P w))
    (h : ∀ r w F H, Holds Γ F → Split r w (H ++ L) F → m.wp P (fun _ => True) (fun _ _ _ => False) (EndsLoc t1 r H F post) w) : Loc P s0 t1 L Γ post := by
  intro r w F H hF hsp
  refine upon_mono ?_ ?_ _ (hu (fun _ => True) (fun _ _ _ => False) (EndsLoc t1 r H F post) w (fun w ⟨x, _, _, _, h, _⟩ => by cases h) (h r w F H hF hsp))
  · rintro v w' ⟨x, L', Γ', F', hv, h1, h2, h3, h4⟩
    cases hv
    exact ⟨x, L', Γ', F', rfl, h1, h2, h3, h4⟩
  · rintro c w' ⟨x, L', Γ', F', hv, _⟩; cases hv
def Rd (L : Own) (Γ : List Fact) (b : Nat) (o : Obj) : Prop := ∀ r w F H, Holds Γ F → Split r w (H ++ L) F → w.heap[b]? = some o
theorem Rd.own {L : Own} {Γ : List Fact} {b : Nat} {o : Obj} (h : (b, o) ∈ L) : Rd L Γ b o := fun _ _ _ _ _ hsp => hsp.own b o (List.mem_append_right _ h)
theorem Rd.of {L : Own} {Γ : List Fact} {b : Nat} {o : Obj} (h : ∀ F, Holds Γ F → F b = some o) : Rd L Γ b o := fun _ _ F _ hF hsp => (hsp.frz b o (h F hF)).1
theorem Rd.at {L : Own} {Γ : List Fact} {b : Nat} {o : Obj} (h : Fact.at b o ∈ Γ) : Rd L Γ b o := Rd.of fun F hF => hF _ h
def QRd (q : Quiet) (b : Nat) (o : Obj) : Prop := ∀ K, Holds q.Γ K → (∀ p ∈ q.L, K p.1 = some p.2) → K b = some o
theorem QRd.own {q : Quiet} {b : Nat} {o : Obj} (h : (b, o) ∈ q.L) : QRd q b o := fun _ _ h2 => h2 _ h
theorem QRd.of {q : Quiet} {b : Nat} {o : Obj} (h : ∀ F, Holds q.Γ F → F b = some o) : QRd q b o := fun K h1 _ => h K h1

theorem Split.setRow {r : Rest} {w : World} {H L1 L2 : Own} {F : Heap} {b : Nat} {T0 : TypeId} {l l' : List Value} (h : Split r w (H ++ (L1 ++ (b, blk T0 l) :: L2)) F) :
    Split r (w.setRow b l'.toArray) (H ++ (L1 ++ (b, blk T0 l') :: L2)) F := by
  have hp : ∀ o : Obj, ((b, o) :: (H ++ (L1 ++ L2))).Perm (H ++ (L1 ++ (b, o) :: L2)) := fun o => by
    have := (List.perm_middle (a := (b, o)) (l₁ := H ++ L1) (l₂ := L2)).symm
    simpa [List.append_assoc] using this
  have hb := h.own b _ (List.mem_append_right _ (List.mem_append_right _ (List.mem_cons_self ..)))
  refine ((h.perm (hp _)).write (w.setRow b l'.toArray) (blk T0 l') (fun x => ?_) (by simp [World.setRow]) rfl rfl rfl).perm (hp _).symm
  by_cases hx : x = b
  · subst hx; rw [if_pos rfl]; exact setRow_heap w x _ _ _ _ hb
  · rw [if_neg hx]; exact setRow_other w b x _ hx

section laws
variable {P : Program} {L : Own} {Γ : List Fact} {q : Quiet}
theorem loc_ld1 {T T0 : TypeId} {a : Addr} {b1 : B} {l : List Value} (x : b1.den) (hr : Rd L Γ a.block (blk T0 l)) (hs : isOne P T = some true) (ha : a.spot = none) (hv : l[a.off]? = some (b1.enc x)) :
    Loc P (ldS T (.pointer (some a))) (.c (.b b1)) L Γ fun y L' Γ' => x = y ∧ L' = L ∧ Γ' = Γ :=
  Loc.val fun r w F H hF hsp => ⟨x, w, L, Γ, F, .inl (run_ld1 hs (hr r w F H hF hsp) ha hv), Heap.le.refl F, hF, hsp, rfl, rfl, rfl⟩
theorem loc_ldA {T T0 : TypeId} {a : Addr} {bs : List B} {l : List Value} (x : HB bs) (hr : Rd L Γ a.block (blk T0 l)) (hs : shapeOf P T = some (true, (HB.enc bs x).length)) (ha : a.spot = none)
    (hv : (l.drop a.off).take (HB.enc bs x).length = HB.enc bs x) : Loc P (ldS T (.pointer (some a))) (.c (.agg bs)) L Γ fun y L' Γ' => x = y ∧ L' = L ∧ Γ' = Γ :=
  Loc.val fun r w F H hF hsp => ⟨x, w, L, Γ, F, .inl (run_ldA hs (hr r w F H hF hsp) ha hv), Heap.le.refl F, hF, hsp, rfl, rfl, rfl⟩
theorem loc_st {T T0 : TypeId} {a : Addr} {v : Value} {c : Bool} {l : List Value} {L1 L2 : Own} (hL : L = L1 ++ (a.block, blk T0 l) :: L2) (hs : shapeOf P T = some (c, v.cells.toList.length)) (ha : a.spot = none)
    (hl : a.off + v.cells.toList.length ≤ l.length) (h1 : ∀ x ∈ v.cells.toList, x.oneCell' = true) :
    Loc P (stS T (.pointer (some a)) v) tU L Γ fun _ L' Γ' => L' = L1 ++ (a.block, blk T0 (splice l a.off v.cells.toList)) :: L2 ∧ Γ' = Γ := by
  subst hL
  refine Loc.val fun r w F H hF hsp => ?_
  have hb := hsp.own a.block _ (List.mem_append_right _ (List.mem_append_right _ (List.mem_cons_self ..)))
  exact ⟨(), _, _, Γ, F, .inr ⟨run_st hs hb ha hl h1, rfl⟩, Heap.le.refl F, hF, hsp.setRow, rfl, rfl⟩
theorem loc_alloc {T : TypeId} {z : List Value} (hz : zeroOf P T = some z) : Loc P (allocS T) tA L Γ fun y L' Γ' => ∃ b, y = ⟨b, 0, none⟩ ∧ L' = (b, blk T z) :: L ∧ Γ' = Γ :=
  Loc.val fun r w F H hF hsp => ⟨_, _, _, Γ, F, .inl (run_allocS hz), Heap.le.refl F, hF, (hsp.new _).perm (List.perm_middle), w.heap.size, rfl, rfl, rfl⟩
theorem loc_box {T : TypeId} (v : Value) : Loc P (boxS T v) tA L Γ fun y L' Γ' => ∃ b, y = ⟨b, 0, none⟩ ∧ L' = (b, blk T v.cells.toList) :: L ∧ Γ' = Γ :=
  Loc.val fun r w F H hF hsp => ⟨_, _, _, Γ, F, .inl (run_boxS v), Heap.le.refl F, hF, (hsp.new _).perm (List.perm_middle), w.heap.size, rfl, rfl, rfl⟩
theorem qval_ld1 {T T0 : TypeId} {a : Addr} {v : Value} {l : List Value} (hr : QRd q a.block (blk T0 l)) (hs : isOne P T = some true) (ha : a.spot = none) (hv : l[a.off]? = some v) :
    QVal P q (ldS T (.pointer (some a))) v := fun K h1 h2 w hw => run_ld1 hs (hw _ _ (hr K h1 h2)) ha hv
theorem qval_ldA {T T0 : TypeId} {a : Addr} {vs : List Value} {l : List Value} (hr : QRd q a.block (blk T0 l)) (hs : shapeOf P T = some (true, vs.length)) (ha : a.spot = none) (hv : (l.drop a.off).take vs.length = vs) :
    QVal P q (ldS T (.pointer (some a))) (.agg vs.toArray) := fun K h1 h2 w hw => run_ldA hs (hw _ _ (hr K h1 h2)) ha hv
theorem loc_pure {s0 : Sem Next} {t1 : Ty} (x : t1.den) (h : ∀ w, s0.run P w = .ok (.value (t1.enc x)) w) : Loc P s0 t1 L Γ fun y L' Γ' => x = y ∧ L' = L ∧ Γ' = Γ :=
  Loc.val fun r w F H hF hsp => ⟨x, w, L, Γ, F, .inl (h w), Heap.le.refl F, hF, hsp, rfl, rfl, rfl⟩
theorem qval_pure {s0 : Sem Next} {v : Value} (h : ∀ w, s0.run P w = .ok (.value v) w) : QVal P q s0 v := fun _ _ _ w _ => h w
end laws

section
variable {ε σ β : Type} {P : Program} {I : Ifc ε σ} {t : Ty} {Rel : β → t.den → Own → Fact} {Δ : Labels ε σ β} {q : Option Quiet} {L : Own} {Γ : List Fact}
def SimAt {ε σ β : Type} (P : Program) (I : Ifc ε σ) (t : Ty) (Rel : β → t.den → Own → Fact) (Δ : Labels ε σ β) (q : Option Quiet) (m : T) (run : Option (Res ε σ β)) (L : Own) (Γ : List Fact) : Prop :=
  ∀ r w F res S, run = some res → Holds Γ F → Split r w L F → Quiet.ok q S F L → m.wp P S (fun l => (Δ l).outs I r F res) (Ends I t Rel r F res) w
theorem Sim.opened {m : T} {s : Sp ε σ β} (h : ∀ st H, SimAt P I t Rel Δ none m (s st) (H ++ L) (I.inv st H :: Γ)) : Sim P I t Rel Δ q m s L Γ :=
  fun r w F H st res S hs hF hi hsp hq => h st H r w F res S hs (Holds.cons hi hF) hsp trivial
theorem SimAt.shut {m : T} {s : Sp ε σ β} {st : σ} {H : Own} (h : Sim P I t Rel Δ q m s L Γ) (hi : ∀ F, Holds Γ F → (I.inv st H).p F) (hq : q = none) : SimAt P I t Rel Δ q m (s st) (H ++ L) Γ := by
  subst hq
  exact fun r w F res S hs hF hsp hq => h r w F H st res S hs hF (hi F hF) hsp trivial
theorem at_lift {m : T} {run : Option (Res ε σ β)} (h : SimAt P I t Rel Δ none m run L Γ) : SimAt P I t Rel Δ q m run L Γ := fun r w F res S hs hF hsp hq => h r w F res S hs hF hsp trivial
theorem at_perm {m : T} {run : Option (Res ε σ β)} {L' : Own} (hp : L'.Perm L) (h : SimAt P I t Rel Δ none m run L' Γ) : SimAt P I t Rel Δ q m run L Γ :=
  fun r w F res S hs hF hsp hq => h r w F res S hs hF (hsp.perm hp) trivial
theorem at_prop {m : T} {run : Option (Res ε σ β)} {φ : Prop} (h : φ → SimAt P I t Rel Δ q m run L Γ) : SimAt P I t Rel Δ q m run L (Fact.prop φ :: Γ) :=
  fun r w F res S hs hF hsp hq => h (hF _ (List.mem_cons_self ..)) r w F res S hs (fun A hA => hF A (List.mem_cons_of_mem _ hA)) hsp hq
theorem at_both {m : T} {run : Option (Res ε σ β)} {A B : Fact} (h : SimAt P I t Rel Δ q m run L (A :: B :: Γ)) : SimAt P I t Rel Δ q m run L (A.both B :: Γ) :=
  fun r w F res S hs hF hsp hq => h r w F res S hs
    (Holds.cons (hF _ (List.mem_cons_self ..)).1 (Holds.cons (hF _ (List.mem_cons_self ..)).2 fun A hA => hF A (List.mem_cons_of_mem _ hA))) hsp hq
theorem at_ex {m : T} {run : Option (Res ε σ β)} {α : Sort 1} {A : α → Fact} (h : ∀ x, SimAt P I t Rel Δ q m run L (A x :: Γ)) : SimAt P I t Rel Δ q m run L (Fact.ex A :: Γ) :=
  fun r w F res S hs hF hsp hq => by
    obtain ⟨x, hx⟩ := hF _ (List.mem_cons_self ..)
    exact h x r w F res S hs (Holds.cons hx fun A hA => hF A (List.mem_cons_of_mem _ hA)) hsp hq
theorem at_note {m : T} {run : Option (Res ε σ β)} {φ : Prop} (ha : ∀ F, Holds Γ F → φ) (h : φ → SimAt P I t Rel Δ q m run L Γ) : SimAt P I t Rel Δ q m run L Γ :=
  fun r w F res S hs hF hsp hq => h (ha F hF) r w F res S hs hF hsp hq
theorem at_ite {b : Bool} {x y : T} {run : Option (Res ε σ β)} (h1 : b = true → SimAt P I t Rel Δ q x run L Γ) (h2 : b = false → SimAt P I t Rel Δ q y run L Γ) : SimAt P I t Rel Δ q (.ite b x y) run L Γ := by
  intro r w F res S hs hΓ hsp hq
  simp only [T.wp]
  exact ⟨fun hb => h1 hb r w F res S hs hΓ hsp hq, fun hb => h2 hb r w F res S hs hΓ hsp hq⟩
theorem at_loc {t1 : Ty} {s0 : Sem Next} {k : t1.den → T} {run : Option (Res ε σ β)} {post : t1.den → Own → List Fact → Prop} (h : Loc P s0 t1 L Γ post)
    (hk : ∀ x L' Γ', post x L' Γ' → SimAt P I t Rel Δ none (k x) run L' Γ') : SimAt P I t Rel Δ q (.op s0 t1 k) run L Γ := by
  intro r w F res S hs hΓ hsp hq
  simp only [T.wp]
  refine upon_mono ?_ (fun _ _ h => h.elim) _ (h r w F [] hΓ hsp)
  rintro v w' ⟨x, L', Γ', F', rfl, hle, hΓ', hsp', hpost⟩
  exact ⟨x, rfl, wp_le hle (hk x L' Γ' hpost r w' F' res S hs hΓ' hsp' trivial)⟩
theorem at_locl {t1 : Ty} {s0 : Sem Next} {k : t1.den → T} {run : Option (Res ε σ β)} {post : t1.den → Own → List Fact → Prop} {q : Quiet} (h : Loc P s0 t1 L Γ post)
    (hk : ∀ x L' Γ', post x L' Γ' → (∀ p ∈ q.L, p ∈ L') ∧ SimAt P I t Rel Δ (some q) (k x) run L' Γ') : SimAt P I t Rel Δ (some q) (.opl s0 t1 k) run L Γ := by
  intro r w F res S hs hΓ hsp hq
  simp only [T.wp]
  refine upon_mono ?_ (fun _ _ h => h.elim) _ (h r w F [] hΓ hsp)
  rintro v w' ⟨x, L', Γ', F', rfl, hle, hΓ', hsp', hpost⟩
  obtain ⟨hsub, hsim⟩ := hk x L' Γ' hpost
  obtain ⟨hw, hq'⟩ := Stab.keep (H' := []) hq hle hsp' hsub
  exact ⟨hw, x, rfl, wp_le hle (hsim r w' F' res S hs hΓ' hsp' hq')⟩
theorem at_draw {m : T} {run : Option (Res ε σ β)} (Lq : Own) (hL : ∀ p ∈ Lq, p ∈ L) (h : SimAt P I t Rel Δ (some ⟨Γ, Lq⟩) m run L Γ) : SimAt P I t Rel Δ q (.draw m) run L Γ := by
  intro r w F res S hs hΓ hsp hq
  simp only [T.wp]
  have hsp' := hsp.drewW
  let K : Heap := fun b => match Lq.find? (fun p => p.1 == b) with | some p => some p.2 | none => F b
  have hnd : (L.map (·.1)).Nodup := hsp.nodup
  have hfind : ∀ p ∈ Lq, Lq.find? (fun x => x.1 == p.1) = some p := fun p hp => by
    cases hf : Lq.find? (fun x => x.1 == p.1) with
    | none => have := List.find?_eq_none.1 hf p hp; simp at this
    | some u =>
      have hu := List.mem_of_find?_eq_some hf
      have hub : u.1 = p.1 := by simpa using List.find?_some hf
      have h1 := Split.find_mem L p.1 p.2 hnd (hL p hp)
      have h2 := Split.find_mem L p.1 u.2 hnd (by rw [← hub]; exact hL u hu)
      rw [h1] at h2
      simp only [Option.some.injEq, Prod.mk.injEq, true_and] at h2
      obtain ⟨u1, u2⟩ := u; obtain ⟨p1, p2⟩ := p
      simp only at hub h2; subst hub; subst h2; rfl
  have hK : ∀ b o, K b = some o → F b = some o ∨ (b, o) ∈ Lq := fun b o hb => by
    simp only [K] at hb
    split at hb
    · rename_i p hp
      cases hb
      have hpb : p.1 = b := by simpa using List.find?_some hp
      right; rw [← hpb]; exact List.mem_of_find?_eq_some hp
    · exact .inl hb
  have hle : F.le K := fun b o hb => by
    simp only [K]
    split
    · rename_i p hp
      have hpb : p.1 = b := by simpa using List.find?_some hp
      exact absurd hpb ((hsp.frz b o hb).2 p (hL _ (List.mem_of_find?_eq_some hp)))
    · exact hb
  have hq' : Quiet.ok (some ⟨Γ, Lq⟩) (Stab K) F L := ⟨hL, K, rfl, hΓ.mono hle, fun p hp => by simp only [K]; rw [hfind p hp], hK⟩
  exact ⟨Stab K, Quiet.stab (H := []) hq' hsp', h r _ F res _ hs hΓ hsp' hq'⟩
theorem at_opq {t1 : Ty} {s0 : Sem Next} {k : t1.den → T} {run : Option (Res ε σ β)} {q : Quiet} (x : t1.den) (h : QVal P q s0 (t1.enc x)) (hk : SimAt P I t Rel Δ (some q) (k x) run L Γ) : SimAt P I t Rel Δ (some q) (.opq s0 t1 k) run L Γ := by
  intro r w F res S hs hΓ hsp hq
  simp only [T.wp]
  have hS := Quiet.stab (H := []) hq hsp
  have hk' := hk r w F res S hs hΓ hsp hq
  obtain ⟨_, K, rfl, h1, h2, h3⟩ := hq
  exact ⟨x, hS, fun w' hw' => h K h1 h2 w' hw', hk'⟩
theorem run_resRcA {a : Addr} {T T0 : TypeId} {l vs : List Value} {w : World} (hs : shapeOf P T = some (true, vs.length)) (hb : w.heap[a.block]? = some (blk T0 l)) (ha : a.spot = none) (hv : (l.drop a.off).take vs.length = vs) :
    (resR #[.c (.pointer (some a)) T]).run P w = .ok (.agg vs.toArray) w := by simp [resR, RV.sem, asAddr, loadVar_A hs hb ha hv]
theorem run_resRcA1 {a : Addr} {T T0 : TypeId} {l vs : List Value} {v : Value} {w : World} (hs : shapeOf P T = some (true, vs.length)) (hb : w.heap[a.block]? = some (blk T0 l)) (ha : a.spot = none) (hv : (l.drop a.off).take vs.length = vs) :
    (resR #[.c (.pointer (some a)) T, .v v]).run P w = .ok (.tuple #[.agg vs.toArray, v]) w := by simp [resR, RV.sem, asAddr, loadVar_A hs hb ha hv]
theorem run_resRcA2 {a : Addr} {T T0 : TypeId} {l vs : List Value} {v u : Value} {w : World} (hs : shapeOf P T = some (true, vs.length)) (hb : w.heap[a.block]? = some (blk T0 l)) (ha : a.spot = none) (hv : (l.drop a.off).take vs.length = vs) :
    (resR #[.c (.pointer (some a)) T, .v v, .v u]).run P w = .ok (.tuple #[.agg vs.toArray, v, u]) w := by simp [resR, RV.sem, asAddr, loadVar_A hs hb ha hv]
theorem at_retO {rs : Array RV} {b : β} {st : σ} {run : Option (Res ε σ β)} {H K : Own} (x : t.den) (hrun : run = some (.ok b st)) (hH : (H ++ K).Sublist L) (hi : ∀ F, Holds Γ F → (I.inv st H).p F)
    (hr : ∀ r w F, Holds Γ F → Split r w L F → (resR rs).run P w = .ok (t.enc x) w) (h : ∀ F, Holds Γ F → (Rel b x K).p F) : SimAt P I t Rel Δ q (.ret rs) run L Γ := by
  intro r w F res S hs hΓ hsp hq
  simp only [T.wp]
  obtain rfl : Res.ok b st = res := Option.some.inj (hrun ▸ hs)
  exact ⟨_, hr r w F hΓ hsp, F, Heap.le.refl F, H, K, x, rfl, hi F hΓ, hsp.sub hH, h F hΓ⟩
theorem at_ret {Rel : β → t.den → Fact} {rs : Array RV} {b : β} {st : σ} {run : Option (Res ε σ β)} {H : Own} (x : t.den) (hrun : run = some (.ok b st)) (hH : H.Sublist L) (hi : ∀ F, Holds Γ F → (I.inv st H).p F)
    (hr : ∀ r w F, Holds Γ F → Split r w L F → (resR rs).run P w = .ok (t.enc x) w) (h : ∀ F, Holds Γ F → (Rel b x).p F) : SimAt P I t (pl Rel) Δ q (.ret rs) run L Γ :=
  at_retO (K := []) x hrun (by simpa using hH) hi hr fun F hF => ⟨rfl, h F hF⟩
end
end Go.Proofs.YtjlgcpgjdgeejaaGreatDoor
end

/- Rules for specifications that go on behind a choice; truths, nodes and nothing that several ways come to. Conditions: none (general tools). -/
section
namespace Go.Proofs.YtjlgcpgjdgeejaaGreatDoor
open Go
set_option linter.unusedSimpArgs false
set_option linter.unusedVariables false
set_option linter.constructorNameAsVariable false

section
variable {ε σ α γ β : Type} {P : Program} {I : Ifc ε σ} {t : Ty} {Rel : β → t.den → Own → Fact} {Δ : Labels ε σ β} {q : Option Quiet} {L : Own} {Γ : List Fact} {s : Sp ε σ β}
theorem sA {m : T} {a : Sp ε σ α} {b : α → Sp ε σ γ} {c : γ → Sp ε σ β} (h : Sim P I t Rel Δ q m (a >>= fun x => b x >>= c) L Γ) : Sim P I t Rel Δ q m ((a >>= b) >>= c) L Γ :=
  Sim.spec (Sp.bind_assoc a b c) h
theorem qB {b : Bool} {x y : T} {s1 s2 : Sp ε σ α} {k : α → Sp ε σ β} (h1 : b = true → Sim P I t Rel Δ q x (s1 >>= k) L Γ) (h2 : b = false → Sim P I t Rel Δ q y (s2 >>= k) L Γ) :
    Sim P I t Rel Δ q (.ite b x y) (cond b s1 s2 >>= k) L Γ := by
  cases b with
  | true => exact qE (fun h => h1 h) (fun h => by cases h)
  | false => exact qE (fun h => by cases h) (fun h => h2 h)
theorem qC {b : Bool} {x y : T} {s1 s2 : Sp ε σ β} (h1 : b = false → Sim P I t Rel Δ q x s2 L Γ) (h2 : b = true → Sim P I t Rel Δ q y s1 L Γ) :
    Sim P I t Rel Δ q (.ite (!b) x y) (cond b s1 s2) L Γ := by
  cases b with
  | true => exact qE (fun h => by cases h) (fun h => h2 rfl)
  | false => exact qE (fun h => h1 rfl) (fun h => by cases h)
theorem qD {b : Bool} {x y : T} {s1 s2 : Sp ε σ α} {k : α → Sp ε σ β} (h1 : b = false → Sim P I t Rel Δ q x (s2 >>= k) L Γ) (h2 : b = true → Sim P I t Rel Δ q y (s1 >>= k) L Γ) :
    Sim P I t Rel Δ q (.ite (!b) x y) (cond b s1 s2 >>= k) L Γ := by
  cases b with
  | true => exact qE (fun h => by cases h) (fun h => h2 rfl)
  | false => exact qE (fun h => h1 rfl) (fun h => by cases h)
theorem sC {m : T} {s' : Sp ε σ β} (h : Sim P I t Rel Δ q m s L Γ) : Sim P I t Rel Δ q m (cond true s s') L Γ := h
theorem sD {m : T} {s' : Sp ε σ β} (h : Sim P I t Rel Δ q m s L Γ) : Sim P I t Rel Δ q m (cond false s' s) L Γ := h
theorem sE {m : T} {a a' : Sp ε σ α} {k : α → Sp ε σ β} (h : Sim P I t Rel Δ q m (a >>= k) L Γ) : Sim P I t Rel Δ q m (cond true a a' >>= k) L Γ := h
theorem sF {m : T} {a a' : Sp ε σ α} {k : α → Sp ε σ β} (h : Sim P I t Rel Δ q m (a >>= k) L Γ) : Sim P I t Rel Δ q m (cond false a' a >>= k) L Γ := h
def lbB (s' : Bool → Sp ε σ β) (L : Own) : Label ε σ β := { ι := Bool, sp := s', J := fun c vs L' => Fact.prop (vs = [.bool c] ∧ L' = L) }
def lbU (s' : Sp ε σ β) (L : Own) : Label ε σ β := { ι := Unit, sp := fun _ => s', J := fun _ vs L' => Fact.prop (vs = [] ∧ L' = L) }
def lbI (s' : Int → Sp ε σ β) (L : Own) : Label ε σ β := { ι := Int, sp := s', J := fun c vs L' => Fact.prop (vs = [.int .i64 c] ∧ L' = L) }
def lbS (s' : ByteArray → Sp ε σ β) (L : Own) : Label ε σ β := { ι := ByteArray, sp := s', J := fun c vs L' => Fact.prop (vs = [.string c] ∧ L' = L) }
def lbP {δ : Type} (Rl : δ → Option Addr → Fact) (s' : δ → Sp ε σ β) (L : Own) : Label ε σ β :=
  { ι := δ, sp := s', J := fun c vs L' => Fact.ex fun p : Option Addr => (Fact.prop (vs = [.pointer p] ∧ L' = L)).both (Rl c p) }
theorem sim_joinB {l : Nat} {m : T} {k : HC [.b .bool] → T} (s' : Bool → Sp ε σ β) (hm : Sim P I t Rel (Δ.set l (lbB s' L)) q m s L Γ)
    (hk : ∀ c, Sim P I t Rel Δ none (k (c, ())) (s' c) L Γ) : Sim P I t Rel Δ q (.join l [.b .bool] m k) s L Γ := by
  refine sim_join (lbB s' L) hm fun c vs L' => ⟨?_, ?_⟩
  · rintro F ⟨rfl, _⟩; exact ⟨(c, ()), rfl⟩
  · rintro ⟨y, ⟨⟩⟩
    refine Sim.prop fun ⟨h1, h2⟩ => ?_
    subst h2
    have h3 : y = c := by
      have := (List.cons.inj h1).1
      cases this; rfl
    rw [← h3]
    exact hk y
theorem sim_joinI {l : Nat} {m : T} {k : HC [.b (.int .i64)] → T} (s' : Int → Sp ε σ β) (hm : Sim P I t Rel (Δ.set l (lbI s' L)) q m s L Γ)
    (hk : ∀ c, Sim P I t Rel Δ none (k (c, ())) (s' c) L Γ) : Sim P I t Rel Δ q (.join l [.b (.int .i64)] m k) s L Γ := by
  refine sim_join (lbI s' L) hm fun c vs L' => ⟨?_, ?_⟩
  · rintro F ⟨rfl, _⟩; exact ⟨(c, ()), rfl⟩
  · rintro ⟨y, ⟨⟩⟩
    refine Sim.prop fun ⟨h1, h2⟩ => ?_
    subst h2
    have h3 : y = c := by
      have := (List.cons.inj h1).1
      cases this; rfl
    rw [← h3]
    exact hk y
theorem sim_joinS {l : Nat} {m : T} {k : HC [.b .str] → T} (s' : ByteArray → Sp ε σ β) (hm : Sim P I t Rel (Δ.set l (lbS s' L)) q m s L Γ)
    (hk : ∀ c, Sim P I t Rel Δ none (k (c, ())) (s' c) L Γ) : Sim P I t Rel Δ q (.join l [.b .str] m k) s L Γ := by
  refine sim_join (lbS s' L) hm fun c vs L' => ⟨?_, ?_⟩
  · rintro F ⟨rfl, _⟩; exact ⟨(c, ()), rfl⟩
  · rintro ⟨y, ⟨⟩⟩
    refine Sim.prop fun ⟨h1, h2⟩ => ?_
    subst h2
    have h3 : y = c := by
      have := (List.cons.inj h1).1
      cases this; rfl
    rw [← h3]
    exact hk y
theorem sim_joinP {δ : Type} {l : Nat} {m : T} {k : HC [.b .ptr] → T} (Rl : δ → Option Addr → Fact) (s' : δ → Sp ε σ β) (hm : Sim P I t Rel (Δ.set l (lbP Rl s' L)) q m s L Γ)
    (hk : ∀ c p, Sim P I t Rel Δ none (k (p, ())) (s' c) L (Rl c p :: Γ)) : Sim P I t Rel Δ q (.join l [.b .ptr] m k) s L Γ := by
  refine sim_join (lbP Rl s' L) hm fun c vs L' => ⟨?_, ?_⟩
  · rintro F ⟨p, ⟨rfl, _⟩, _⟩; exact ⟨(p, ()), rfl⟩
  · rintro ⟨y, ⟨⟩⟩
    refine Sim.ex fun p => Sim.both (Sim.prop fun ⟨h1, h2⟩ => ?_)
    subst h2
    have h3 : y = p := by
      have := (List.cons.inj h1).1
      cases this; rfl
    rw [h3]
    exact hk c p
theorem sim_joinU {l : Nat} {m : T} {k : HC [] → T} (s' : Sp ε σ β) (hm : Sim P I t Rel (Δ.set l (lbU s' L)) q m s L Γ)
    (hk : Sim P I t Rel Δ none (k ()) s' L Γ) : Sim P I t Rel Δ q (.join l [] m k) s L Γ := by
  refine sim_join (lbU s' L) hm fun c vs L' => ⟨?_, ?_⟩
  · rintro F ⟨rfl, _⟩; exact ⟨(), rfl⟩
  · rintro ⟨⟩
    refine Sim.prop fun ⟨h1, h2⟩ => ?_
    subst h2
    exact hk
theorem sim_outX {l : Nat} {vs : List Value} {x : Label ε σ β} (hx : Δ l = x) (i : x.ι) (hs : s = x.sp i) (hJ : ∀ F, Holds Γ F → (x.J i vs L).p F) : Sim P I t Rel Δ q (.out l vs) s L Γ := by
  subst hx; exact sim_out i hs hJ
theorem sim_outB {s' : Bool → Sp ε σ β} {l : Nat} (c : Bool) (hx : Δ l = lbB s' L) (hs : s = s' c) : Sim P I t Rel Δ q (.out l [.bool c]) s L Γ :=
  sim_outX hx c hs fun F hF => ⟨rfl, rfl⟩
theorem sim_outI {s' : Int → Sp ε σ β} {l : Nat} (c : Int) (hx : Δ l = lbI s' L) (hs : s = s' c) : Sim P I t Rel Δ q (.out l [.int .i64 c]) s L Γ :=
  sim_outX hx c hs fun F hF => ⟨rfl, rfl⟩
theorem sim_outS {s' : ByteArray → Sp ε σ β} {l : Nat} (c : ByteArray) (hx : Δ l = lbS s' L) (hs : s = s' c) : Sim P I t Rel Δ q (.out l [.string c]) s L Γ :=
  sim_outX hx c hs fun F hF => ⟨rfl, rfl⟩
theorem sim_outU {s' : Sp ε σ β} {l : Nat} (hx : Δ l = lbU s' L) (hs : s = s') : Sim P I t Rel Δ q (.out l []) s L Γ :=
  sim_outX hx () hs fun F hF => ⟨rfl, rfl⟩
theorem sim_outP {δ : Type} {Rl : δ → Option Addr → Fact} {s' : δ → Sp ε σ β} {l : Nat} {p : Option Addr} (c : δ) (hx : Δ l = lbP Rl s' L) (hs : s = s' c) (h : ∀ F, Holds Γ F → (Rl c p).p F) : Sim P I t Rel Δ q (.out l [.pointer p]) s L Γ :=
  sim_outX hx c hs fun F hF => ⟨p, ⟨rfl, rfl⟩, h F hF⟩
theorem sim_joinBb {l : Nat} {m : T} {k : HC [.b .bool] → T} {a : Sp ε σ Bool} {s' : Bool → Sp ε σ β} (hm : Sim P I t Rel (Δ.set l (lbB s' L)) q m (a >>= s') L Γ)
    (hk : ∀ c, Sim P I t Rel Δ none (k (c, ())) (s' c) L Γ) : Sim P I t Rel Δ q (.join l [.b .bool] m k) (a >>= s') L Γ := sim_joinB s' hm hk
theorem sim_joinIb {l : Nat} {m : T} {k : HC [.b (.int .i64)] → T} {a : Sp ε σ Int} {s' : Int → Sp ε σ β} (hm : Sim P I t Rel (Δ.set l (lbI s' L)) q m (a >>= s') L Γ)
    (hk : ∀ c, Sim P I t Rel Δ none (k (c, ())) (s' c) L Γ) : Sim P I t Rel Δ q (.join l [.b (.int .i64)] m k) (a >>= s') L Γ := sim_joinI s' hm hk
theorem sim_joinSb {l : Nat} {m : T} {k : HC [.b .str] → T} {a : Sp ε σ ByteArray} {s' : ByteArray → Sp ε σ β} (hm : Sim P I t Rel (Δ.set l (lbS s' L)) q m (a >>= s') L Γ)
    (hk : ∀ c, Sim P I t Rel Δ none (k (c, ())) (s' c) L Γ) : Sim P I t Rel Δ q (.join l [.b .str] m k) (a >>= s') L Γ := sim_joinS s' hm hk
theorem sim_joinPb {δ : Type} {l : Nat} {m : T} {k : HC [.b .ptr] → T} {a : Sp ε σ δ} {s' : δ → Sp ε σ β} (Rl : δ → Option Addr → Fact) (hm : Sim P I t Rel (Δ.set l (lbP Rl s' L)) q m (a >>= s') L Γ)
    (hk : ∀ c p, Sim P I t Rel Δ none (k (p, ())) (s' c) L (Rl c p :: Γ)) : Sim P I t Rel Δ q (.join l [.b .ptr] m k) (a >>= s') L Γ := sim_joinP Rl s' hm hk
theorem at_out {l : Nat} {vs : List Value} {run : Option (Res ε σ β)} {x : Label ε σ β} {st : σ} {H : Own} (hx : Δ l = x) (i : x.ι) (hrun : run = x.sp i st) (hJ : ∀ F, Holds Γ F → (x.J i vs L).p F) (hi : ∀ F, Holds Γ F → (I.inv st H).p F) :
    SimAt P I t Rel Δ q (.out l vs) run (H ++ L) Γ := by
  subst hx
  intro r w F res S hs hF hsp hq
  simp only [T.wp]
  exact ⟨i, L, F, H, st, Heap.le.refl F, hrun ▸ hs, hJ F hF, hi F hF, hsp⟩
def I0 : Ifc ε Unit := { inv := fun _ H => Fact.prop (H = []), err := fun _ _ => False }
theorem at_val {t1 : Ty} {s0 : Sem Next} {k : t1.den → T} {b0 : t1.den} {run : Option (Res ε σ β)} (hm : Meets P (I0 : Ifc ε Unit) s0 t1 (Pure.pure b0 : Sp ε Unit t1.den) RelEq []) (hk : SimAt P I t Rel Δ none (k b0) run L Γ) :
    SimAt P I t Rel Δ q (.op s0 t1 k) run L Γ := by
  intro r w F res S hs hF hsp hq
  simp only [T.wp]
  have h0 : Split r w ([] ++ L) F := hsp
  refine upon_mono ?_ ?_ _ (hm (Split.give r L) w F [] () (.ok b0 ()) rfl (fun _ h => nomatch h) rfl h0.out)
  · rintro v w' ⟨F', hle, H', K1, x, hv, hinv, hS, hR⟩
    cases hv
    obtain ⟨hK, hx⟩ := hR
    have hH : H' = [] := hinv
    have hx' : x = b0 := hx
    have hK' : K1 = [] := hK
    subst hH; subst hK'; subst hx'
    exact ⟨x, rfl, wp_le hle (hk r w' F' res S hs (hF.mono hle) (Split.back h0 hS) trivial)⟩
  · rintro c w' ⟨F', hle, H', K1, x, hv, _⟩; cases hv
theorem Meets.strong {s0 : Sem Next} {t1 : Ty} {s1 : Sp ε σ α} {Rel1 : α → t1.den → Fact} {φ : α → Prop} (hm : Meets P I s0 t1 s1 Rel1 Γ) (hφ : ∀ st H F b st', (I.inv st H).p F → s1 st = some (.ok b st') → φ b) :
    Meets P I s0 t1 s1 (fun b x => (Fact.prop (φ b)).both (Rel1 b x)) Γ := by
  intro r w F H st res hs hΓ hi hsp
  refine upon_mono ?_ ?_ _ (hm r w F H st res hs hΓ hi hsp)
  · rintro v w' ⟨F', hle, h⟩
    refine ⟨F', hle, ?_⟩
    cases res with
    | err y => exact h
    | ok b st' =>
      obtain ⟨H', K, x, h1, h2, h3, h4, h5⟩ := h
      exact ⟨H', K, x, h1, h2, h3, h4, hφ st H F b st' hi hs, h5⟩
  · rintro c w' ⟨F', hle, h⟩
    refine ⟨F', hle, ?_⟩
    cases res with
    | err y => exact h
    | ok b st' =>
      obtain ⟨H', K, x, h1, h2, h3, h4, h5⟩ := h
      exact ⟨H', K, x, h1, h2, h3, h4, hφ st H F b st' hi hs, h5⟩
theorem sim_op1O {t1 : Ty} {s0 : Sem Next} {k : t1.den → T} {Rel1 : β → t1.den → Own → Fact} {Γ1 : List Fact} (hm : MeetsO P I s0 t1 s Rel1 Γ1)
    (hΓ1 : ∀ A ∈ Γ1, A ∈ Γ) (hk : ∀ x b K, Sim P I t Rel Δ none (k x) (Pure.pure b) (K ++ L) (Rel1 b x K :: Γ)) : Sim P I t Rel Δ q (.op s0 t1 k) s L Γ :=
  Sim.spec (Sp.bind_pure s).symm (sim_opO hm hΓ1 hk)
end
end Go.Proofs.YtjlgcpgjdgeejaaGreatDoor
end

/- The rules once more, with the state known by name: what a tree does from this state on is what a plain function of it says. Conditions: none (general tools). -/
section
namespace Go.Proofs.YtjlgcpgjdgeejaaGreatDoor
open Go
set_option linter.unusedSimpArgs false
set_option linter.unusedVariables false
set_option linter.constructorNameAsVariable false

abbrev Mode := Option (List Fact × Own)
def qOf {ε σ : Type} (I : Ifc ε σ) (st : σ) (H : Own) : Mode → Option Quiet
  | none => none
  | some (Γq, Lq) => some ⟨I.inv st H :: Γq, H ++ Lq⟩
def SimK {ε σ β : Type} (P : Program) (I : Ifc ε σ) (t : Ty) (Rel : β → t.den → Own → Fact) (Δ : Labels ε σ β) (md : Mode) (st : σ) (m : T) (run : Option (Res ε σ β)) (L : Own) (Γ : List Fact) : Prop :=
  ∀ H, SimAt P I t Rel Δ (qOf I st H md) m run (H ++ L) (I.inv st H :: Γ)
section
variable {ε σ β : Type} {P : Program} {I : Ifc ε σ} {t : Ty} {Rel : β → t.den → Own → Fact} {Δ : Labels ε σ β} {q : Option Quiet} {md : Mode} {L : Own} {Γ : List Fact} {s : Sp ε σ β} {st : σ} {run : Option (Res ε σ β)}
theorem k_open {m : T} (h : ∀ st, SimK P I t Rel Δ none st m (s st) L Γ) : Sim P I t Rel Δ q m s L Γ := Sim.lift (Sim.opened fun st H => h st H)
theorem k_lift {m : T} (h : SimK P I t Rel Δ none st m run L Γ) : SimK P I t Rel Δ md st m run L Γ := fun H => at_lift (h H)
theorem k_shut {m : T} (h : Sim P I t Rel Δ none m s L Γ) (hr : run = s st) : SimK P I t Rel Δ md st m run L Γ := k_lift fun H => by
  subst hr
  exact SimAt.shut (h.weak fun A hA => List.mem_cons_of_mem _ hA) (fun F hF => hF _ (List.mem_cons_self ..)) rfl
theorem k_none {m : T} (h : run = none) : SimK P I t Rel Δ md st m run L Γ := fun H r w F res S hs => by rw [h] at hs; cases hs
theorem k_ite {b : Bool} {x y : T} (h1 : b = true → SimK P I t Rel Δ md st x run L Γ) (h2 : b = false → SimK P I t Rel Δ md st y run L Γ) : SimK P I t Rel Δ md st (.ite b x y) run L Γ :=
  fun H => at_ite (fun hb => h1 hb H) (fun hb => h2 hb H)
theorem k_weak {m : T} {Γ' : List Fact} (h : SimK P I t Rel Δ none st m run L Γ') (hs : ∀ A ∈ Γ', A ∈ Γ) : SimK P I t Rel Δ md st m run L Γ := k_lift fun H r w F res S h1 hF =>
  h H r w F res S h1 fun A hA => by
    rcases List.mem_cons.1 hA with rfl | hA
    · exact hF _ (List.mem_cons_self ..)
    · exact hF _ (List.mem_cons_of_mem _ (hs A hA))
theorem k_drop {m : T} {L' : Own} (hs : L'.Sublist L) (h : SimK P I t Rel Δ none st m run L' Γ) : SimK P I t Rel Δ md st m run L Γ := k_lift fun H r w F res S h1 hF hsp hq =>
  h H r w F res S h1 hF (hsp.sub (hs.append_left H)) trivial
theorem k_perm {m : T} {L' : Own} (hp : L'.Perm L) (h : SimK P I t Rel Δ none st m run L' Γ) : SimK P I t Rel Δ md st m run L Γ := k_lift fun H r w F res S h1 hF hsp hq =>
  h H r w F res S h1 hF (hsp.perm (hp.append_left H)) trivial
theorem k_freeze {m : T} {b : Nat} {o : Obj} (h : SimK P I t Rel Δ none st m run L (Fact.at b o :: Γ)) : SimK P I t Rel Δ md st m run ((b, o) :: L) Γ := k_lift fun H r w F res S h1 hF hsp hq => by
  have hs' : Split r w ((b, o) :: (H ++ L)) F := hsp.perm List.perm_middle.symm
  have hle := hs'.ins_le
  refine wp_le hle (h H r w (F.ins b o) res S h1 ?_ hs'.freeze trivial)
  refine Holds.cons ((I.inv st H).mono _ _ hle (hF _ (List.mem_cons_self ..))) (Holds.cons (by simp [Fact.at, Heap.ins]) ?_)
  exact Holds.mono (fun A hA => hF A (List.mem_cons_of_mem _ hA)) hle
theorem k_note {m : T} {φ : Prop} (ha : ∀ F, Holds Γ F → φ) (h : φ → SimK P I t Rel Δ md st m run L Γ) : SimK P I t Rel Δ md st m run L Γ := fun H r w F res S h1 hF =>
  h (ha F fun A hA => hF A (List.mem_cons_of_mem _ hA)) H r w F res S h1 hF
theorem k_inv {m : T} {φ : Prop} (ha : ∀ H F, (I.inv st H).p F → φ) (h : φ → SimK P I t Rel Δ md st m run L Γ) : SimK P I t Rel Δ md st m run L Γ := fun H r w F res S h1 hF =>
  h (ha H F (hF _ (List.mem_cons_self ..))) H r w F res S h1 hF
theorem k_know {m : T} {A : Fact} (ha : ∀ F, Holds Γ F → A.p F) (h : SimK P I t Rel Δ none st m run L (A :: Γ)) : SimK P I t Rel Δ md st m run L Γ := k_lift fun H r w F res S h1 hF =>
  have hΓ : Holds Γ F := fun A hA => hF A (List.mem_cons_of_mem _ hA)
  h H r w F res S h1 (Holds.cons (hF _ (List.mem_cons_self ..)) (Holds.cons (ha F hΓ) hΓ))
theorem k_fact {m : T} {A : Fact} (h : ∀ F, A.p F → SimK P I t Rel Δ none st m run L Γ) : SimK P I t Rel Δ none st m run L (A :: Γ) := fun H r w F res S h1 hF =>
  h F (hF A (List.mem_cons_of_mem _ (List.mem_cons_self ..))) H r w F res S h1 fun B hB => by
    rcases List.mem_cons.1 hB with rfl | hB
    · exact hF _ (List.mem_cons_self ..)
    · exact hF _ (List.mem_cons_of_mem _ (List.mem_cons_of_mem _ hB))
theorem k_both {m : T} {A B : Fact} (h : SimK P I t Rel Δ none st m run L (A :: B :: Γ)) : SimK P I t Rel Δ none st m run L (A.both B :: Γ) := fun H r w F res S h1 hF => by
  have hAB := hF _ (List.mem_cons_of_mem _ (List.mem_cons_self ..))
  exact h H r w F res S h1 (Holds.cons (hF _ (List.mem_cons_self ..)) (Holds.cons hAB.1 (Holds.cons hAB.2 fun C hC => hF C (List.mem_cons_of_mem _ (List.mem_cons_of_mem _ hC)))))
theorem k_ex {m : T} {α : Sort 1} {A : α → Fact} (h : ∀ x, SimK P I t Rel Δ none st m run L (A x :: Γ)) : SimK P I t Rel Δ none st m run L (Fact.ex A :: Γ) := fun H r w F res S h1 hF => by
  obtain ⟨x, hx⟩ := hF _ (List.mem_cons_of_mem _ (List.mem_cons_self ..))
  exact h x H r w F res S h1 (Holds.cons (hF _ (List.mem_cons_self ..)) (Holds.cons hx fun C hC => hF C (List.mem_cons_of_mem _ (List.mem_cons_of_mem _ hC))))
theorem k_loc {t1 : Ty} {s0 : Sem Next} {k : t1.den → T} {post : t1.den → Own → List Fact → Prop} (h : Loc P s0 t1 L Γ post)
    (hk : ∀ x L' Γ', post x L' Γ' → SimK P I t Rel Δ none st (k x) run L' Γ') : SimK P I t Rel Δ md st (.op s0 t1 k) run L Γ := by
  intro H r w F res S hs hΓ hsp hq
  simp only [T.wp]
  refine upon_mono ?_ (fun _ _ h => h.elim) _ (h r w F H (fun A hA => hΓ A (List.mem_cons_of_mem _ hA)) hsp)
  rintro v w' ⟨x, L', Γ', F', rfl, hle, hΓ', hsp', hpost⟩
  exact ⟨x, rfl, wp_le hle (hk x L' Γ' hpost H r w' F' res S hs (Holds.cons ((I.inv st H).mono _ _ hle (hΓ _ (List.mem_cons_self ..))) hΓ') hsp' trivial)⟩
theorem k_locl {t1 : Ty} {s0 : Sem Next} {k : t1.den → T} {post : t1.den → Own → List Fact → Prop} {Γq : List Fact} {Lq : Own} (h : Loc P s0 t1 L Γ post)
    (hk : ∀ x L' Γ', post x L' Γ' → (∀ p ∈ Lq, p ∈ L') ∧ SimK P I t Rel Δ (some (Γq, Lq)) st (k x) run L' Γ') : SimK P I t Rel Δ (some (Γq, Lq)) st (.opl s0 t1 k) run L Γ := by
  intro H r w F res S hs hΓ hsp hq
  simp only [T.wp]
  refine upon_mono ?_ (fun _ _ h => h.elim) _ (h r w F H (fun A hA => hΓ A (List.mem_cons_of_mem _ hA)) hsp)
  rintro v w' ⟨x, L', Γ', F', rfl, hle, hΓ', hsp', hpost⟩
  obtain ⟨hsub, hsim⟩ := hk x L' Γ' hpost
  obtain ⟨hw, hq'⟩ := Stab.keep (H' := []) (L' := H ++ L') hq hle hsp' (fun p hp => by
    rcases List.mem_append.1 hp with hp | hp
    · exact List.mem_append_left _ hp
    · exact List.mem_append_right _ (hsub p hp))
  exact ⟨hw, x, rfl, wp_le hle (hsim H r w' F' res S hs (Holds.cons ((I.inv st H).mono _ _ hle (hΓ _ (List.mem_cons_self ..))) hΓ') hsp' hq')⟩
theorem k_rd {T1 : TypeId} {a : Addr} {b1 : B} {k : b1.den → T} (x : b1.den) (hs : isOne P T1 = some true) (ha : a.spot = none)
    (h : ∀ H F, (I.inv st H).p F → ∃ l T0, (a.block, blk T0 l) ∈ H ∧ l[a.off]? = some (b1.enc x)) (hk : SimK P I t Rel Δ none st (k x) run L Γ) : SimK P I t Rel Δ md st (.op (ldS T1 (.pointer (some a))) (.c (.b b1)) k) run L Γ := by
  intro H r w F res S hst hΓ hsp hq
  obtain ⟨l, T0, hm, hv⟩ := h H F (hΓ _ (List.mem_cons_self ..))
  have hrun := run_ld1 (P := P) hs (hsp.own _ _ (List.mem_append_left _ hm)) ha hv
  simp only [T.wp, hrun]
  exact ⟨x, rfl, hk H r w F res S hst hΓ hsp trivial⟩
theorem k_rdq {T1 : TypeId} {a : Addr} {b1 : B} {k : b1.den → T} {Γq : List Fact} {Lq : Own} (x : b1.den) (hs : isOne P T1 = some true) (ha : a.spot = none)
    (h : ∀ H F, (I.inv st H).p F → ∃ l T0, (a.block, blk T0 l) ∈ H ∧ l[a.off]? = some (b1.enc x)) (hk : SimK P I t Rel Δ (some (Γq, Lq)) st (k x) run L Γ) : SimK P I t Rel Δ (some (Γq, Lq)) st (.opq (ldS T1 (.pointer (some a))) (.c (.b b1)) k) run L Γ := by
  intro H r w F res S hst hΓ hsp hq
  obtain ⟨l, T0, hm, hv⟩ := h H F (hΓ _ (List.mem_cons_self ..))
  exact at_opq (t1 := .c (.b b1)) x (qval_ld1 (QRd.own (List.mem_append_left _ hm)) hs ha hv) (hk H) r w F res S hst hΓ hsp hq
theorem k_wr {T1 : TypeId} {a : Addr} {v : Value} {c : Bool} {k : T} (st' : σ) (hs : shapeOf P T1 = some (c, v.cells.toList.length)) (ha : a.spot = none) (h1 : ∀ x ∈ v.cells.toList, x.oneCell' = true)
    (h : ∀ H F, (I.inv st H).p F → ∃ H1 l T0 H2, H = H1 ++ (a.block, blk T0 l) :: H2 ∧ a.off + v.cells.toList.length ≤ l.length ∧ (I.inv st' (H1 ++ (a.block, blk T0 (splice l a.off v.cells.toList)) :: H2)).p F)
    (hk : SimK P I t Rel Δ none st' k run L Γ) : SimK P I t Rel Δ md st (.op (stS T1 (.pointer (some a)) v) tU fun _ => k) run L Γ := by
  intro H r w F res S hst hΓ hsp hq
  obtain ⟨H1, l, T0, H2, rfl, hl, hi⟩ := h H F (hΓ _ (List.mem_cons_self ..))
  have hb := hsp.own a.block _ (List.mem_append_left _ (List.mem_append_right _ (List.mem_cons_self ..)))
  have hrun := run_st (P := P) hs hb ha hl h1
  simp only [T.wp, hrun]
  refine ⟨(), rfl, hk (H1 ++ (a.block, blk T0 (splice l a.off v.cells.toList)) :: H2) r _ F res S hst (Holds.cons hi fun A hA => hΓ A (List.mem_cons_of_mem _ hA)) ?_ trivial⟩
  have h2 : Split r w ([] ++ (H1 ++ (a.block, blk T0 l) :: (H2 ++ L))) F := by simpa [List.append_assoc] using hsp
  have h3 := Split.setRow (l' := splice l a.off v.cells.toList) h2
  simpa [List.append_assoc] using h3
theorem k_draw {m : T} (Lq : Own) (hL : ∀ p ∈ Lq, p ∈ L) (h : SimK P I t Rel Δ (some (Γ, Lq)) st m run L Γ) : SimK P I t Rel Δ md st (.draw m) run L Γ := fun H =>
  at_draw (H ++ Lq) (fun p hp => by
    rcases List.mem_append.1 hp with hp | hp
    · exact List.mem_append_left _ hp
    · exact List.mem_append_right _ (hL p hp)) (h H)
theorem k_opq {t1 : Ty} {s0 : Sem Next} {k : t1.den → T} {Γq : List Fact} {Lq : Own} (x : t1.den) (h : QVal P ⟨Γq, Lq⟩ s0 (t1.enc x)) (hk : SimK P I t Rel Δ (some (Γq, Lq)) st (k x) run L Γ) : SimK P I t Rel Δ (some (Γq, Lq)) st (.opq s0 t1 k) run L Γ := fun H =>
  at_opq x (fun K h1 h2 w hw => h K (fun A hA => h1 A (List.mem_cons_of_mem _ hA)) (fun p hp => h2 p (List.mem_append_right _ hp)) w hw) (hk H)
theorem k_callO {β1 : Type} {t1 : Ty} {s0 : Sem Next} {k : t1.den → T} {s1 : Sp ε σ β1} {Rel1 : β1 → t1.den → Own → Fact} {Γ1 : List Fact} (hm : MeetsO P I s0 t1 s1 Rel1 Γ1) (hΓ1 : ∀ A ∈ Γ1, A ∈ Γ)
    (hn : s1 st = none → run = none) (he : ∀ e, s1 st = some (.err e) → run = some (.err e))
    (hk : ∀ x b K st', s1 st = some (.ok b st') → SimK P I t Rel Δ none st' (k x) run (K ++ L) (Rel1 b x K :: Γ)) : SimK P I t Rel Δ md st (.op s0 t1 k) run L Γ := by
  intro H r w F res S hs hΓ hsp hq
  have hsp0 : Split r w (H ++ L) F := hsp
  simp only [T.wp]
  have hi := hΓ _ (List.mem_cons_self ..)
  have hΓ' : Holds Γ F := fun A hA => hΓ A (List.mem_cons_of_mem _ hA)
  cases h1 : s1 st with
  | none => rw [hn h1] at hs; cases hs
  | some r1 =>
    cases r1 with
    | err y =>
      obtain rfl : Res.err y = res := Option.some.inj ((he y h1).symm.trans hs)
      refine upon_mono ?_ ?_ _ (hm (Split.give r L) w F H st (.err y) h1 (fun A hA => hΓ' A (hΓ1 A hA)) hi hsp.out)
      · rintro v w' ⟨F', hle, c, hc, _⟩; cases hc
      · rintro c w' ⟨F', hle, c', hc, herr', hS⟩
        cases hc
        exact ⟨F', hle, c, rfl, herr', (Split.back hsp0 hS).sub (List.nil_sublist _)⟩
    | ok b st' =>
      refine upon_mono ?_ ?_ _ (hm (Split.give r L) w F H st (.ok b st') h1 (fun A hA => hΓ' A (hΓ1 A hA)) hi hsp.out)
      · rintro v w' ⟨F', hle, H', K1, x, hv, hinv, hS, hR⟩
        cases hv
        refine ⟨x, rfl, wp_le hle (hk x b K1 st' h1 H' r w' F' res S hs (Holds.cons hinv (Holds.cons hR (hΓ'.mono hle))) ?_ trivial)⟩
        rw [← List.append_assoc]; exact Split.back hsp0 hS
      · rintro c w' ⟨F', hle, H', K1, x, hv, _⟩; cases hv
theorem k_call {β1 : Type} {t1 : Ty} {s0 : Sem Next} {k : t1.den → T} {s1 : Sp ε σ β1} {Rel1 : β1 → t1.den → Fact} {Γ1 : List Fact} (hm : Meets P I s0 t1 s1 Rel1 Γ1) (hΓ1 : ∀ A ∈ Γ1, A ∈ Γ)
    (hn : s1 st = none → run = none) (he : ∀ e, s1 st = some (.err e) → run = some (.err e))
    (hk : ∀ x b st', s1 st = some (.ok b st') → SimK P I t Rel Δ none st' (k x) run L (Rel1 b x :: Γ)) : SimK P I t Rel Δ md st (.op s0 t1 k) run L Γ :=
  k_callO hm hΓ1 hn he fun x b K st' h => k_both (k_fact fun F hK => by
    have hK' : K = [] := hK
    subst hK'
    exact hk x b st' h)
theorem k_valR {β1 : Type} {t1 : Ty} {s0 : Sem Next} {k : t1.den → T} {b0 : β1} {Rel1 : β1 → t1.den → Own → Fact} {Γ1 : List Fact} (hm : MeetsO P (I0 : Ifc ε Unit) s0 t1 (Pure.pure b0 : Sp ε Unit β1) Rel1 Γ1) (hΓ1 : ∀ A ∈ Γ1, A ∈ Γ)
    (hk : ∀ x K, SimK P I t Rel Δ none st (k x) run (K ++ L) (Rel1 b0 x K :: Γ)) : SimK P I t Rel Δ md st (.op s0 t1 k) run L Γ := by
  intro H r w F res S hs hF hsp hq
  simp only [T.wp]
  have hΓ' : Holds Γ F := fun A hA => hF A (List.mem_cons_of_mem _ hA)
  have h0 : Split r w ([] ++ (H ++ L)) F := hsp
  refine upon_mono ?_ ?_ _ (hm (Split.give r (H ++ L)) w F [] () (.ok b0 ()) rfl (fun A hA => hΓ' A (hΓ1 A hA)) rfl h0.out)
  · rintro v w' ⟨F', hle, H', K1, x, hv, hinv, hS, hR⟩
    cases hv
    have hH : H' = [] := hinv
    subst hH
    have hS' := Split.back h0 hS
    refine ⟨x, rfl, wp_le hle (hk x K1 H r w' F' res S hs (Holds.cons ((I.inv st H).mono _ _ hle (hF _ (List.mem_cons_self ..))) (Holds.cons hR (hΓ'.mono hle))) ?_ trivial)⟩
    refine hS'.perm ?_
    simp only [List.nil_append]
    rw [← List.append_assoc, ← List.append_assoc]
    exact List.perm_append_comm.append_right L
  · rintro c w' ⟨F', hle, H', K1, x, hv, _⟩; cases hv
theorem k_val {t1 : Ty} {s0 : Sem Next} {k : t1.den → T} {b0 : t1.den} {Γ1 : List Fact} (hm : Meets P (I0 : Ifc ε Unit) s0 t1 (Pure.pure b0 : Sp ε Unit t1.den) RelEq Γ1) (hΓ1 : ∀ A ∈ Γ1, A ∈ Γ)
    (hk : SimK P I t Rel Δ none st (k b0) run L Γ) : SimK P I t Rel Δ md st (.op s0 t1 k) run L Γ :=
  k_valR hm hΓ1 fun x K => k_both (k_fact fun F hK => k_fact fun F hx => by
    have hK' : K = [] := hK
    have hx' : x = b0 := hx
    subst hK'; subst hx'
    exact hk)
theorem k_vall {t1 : Ty} {s0 : Sem Next} {k : t1.den → T} {b0 : t1.den} {Γ1 Γq : List Fact} {Lq : Own} (hm : Meets P (I0 : Ifc ε Unit) s0 t1 (Pure.pure b0 : Sp ε Unit t1.den) RelEq Γ1) (hΓ1 : ∀ A ∈ Γ1, A ∈ Γ)
    (hL : ∀ p ∈ Lq, p ∈ L) (hk : SimK P I t Rel Δ (some (Γq, Lq)) st (k b0) run L Γ) : SimK P I t Rel Δ (some (Γq, Lq)) st (.opl s0 t1 k) run L Γ := by
  intro H r w F res S hs hF hsp hq
  simp only [T.wp]
  have hΓ' : Holds Γ F := fun A hA => hF A (List.mem_cons_of_mem _ hA)
  have h0 : Split r w ([] ++ (H ++ L)) F := hsp
  refine upon_mono ?_ ?_ _ (hm (Split.give r (H ++ L)) w F [] () (.ok b0 ()) rfl (fun A hA => hΓ' A (hΓ1 A hA)) rfl h0.out)
  · rintro v w' ⟨F', hle, H', K1, x, hv, hinv, hS, hR⟩
    cases hv
    obtain ⟨hK, hx⟩ := hR
    have hH : H' = [] := hinv
    have hx' : x = b0 := hx
    have hK' : K1 = [] := hK
    subst hH; subst hK'; subst hx'
    have hS' : Split r w' (H ++ L) F' := Split.back (L := H ++ L) h0 hS
    obtain ⟨hw, hq'⟩ := Stab.keep (H' := []) (L' := H ++ L) hq hle hS' (fun p hp => by
      rcases List.mem_append.1 hp with hp | hp
      · exact List.mem_append_left _ hp
      · exact List.mem_append_right _ (hL p hp))
    exact ⟨hw, x, rfl, wp_le hle (hk H r w' F' res S hs (hF.mono hle) hS' hq')⟩
  · rintro c w' ⟨F', hle, H', K1, x, hv, _⟩; cases hv
theorem k_retO {rs : Array RV} (b : β) (K : Own) (x : t.den) (hK : K.Sublist L) (hrun : run = some (.ok b st)) (hr : ∀ r w F H, Holds Γ F → Split r w (H ++ L) F → (resR rs).run P w = .ok (t.enc x) w) (h : ∀ F, Holds Γ F → (Rel b x K).p F) :
    SimK P I t Rel Δ md st (.ret rs) run L Γ := fun H => at_retO x hrun (hK.append_left H) (fun F hF => hF _ (List.mem_cons_self ..)) (fun r w F hF hS => hr r w F H (fun A hA => hF A (List.mem_cons_of_mem _ hA)) hS) (fun F hF => h F fun A hA => hF A (List.mem_cons_of_mem _ hA))
theorem k_ret {Rel : β → t.den → Fact} {rs : Array RV} (b : β) (x : t.den) (hrun : run = some (.ok b st)) (hr : ∀ r w F H, Holds Γ F → Split r w (H ++ L) F → (resR rs).run P w = .ok (t.enc x) w) (h : ∀ F, Holds Γ F → (Rel b x).p F) :
    SimK P I t (pl Rel) Δ md st (.ret rs) run L Γ := k_retO b [] x (List.nil_sublist _) hrun hr fun F hF => ⟨rfl, h F hF⟩
theorem k_ret1 {Δ : Labels ε σ t.den} {run : Option (Res ε σ t.den)} {rs : Value} (x : t.den) (hv : rs = t.enc x) (hrun : run = some (.ok x st)) : SimK (β := t.den) P I t (pl RelEq) Δ md st (.ret #[.v rs]) run L Γ :=
  k_ret x x hrun (fun r w F H _ _ => by rw [run_resR1, hv]) fun F hF => rfl
theorem k_outX {l : Nat} {vs : List Value} {x : Label ε σ β} (i : x.ι) (hx : Δ l = x) (hrun : run = x.sp i st) (hJ : ∀ F, Holds Γ F → (x.J i vs L).p F) : SimK P I t Rel Δ md st (.out l vs) run L Γ := fun H =>
  at_out hx i hrun (fun F hF => hJ F fun A hA => hF A (List.mem_cons_of_mem _ hA)) (fun F hF => hF _ (List.mem_cons_self ..))
def lbV (ts : List C) {δ : Type} (f : δ → HC ts) (sp : δ → Sp ε σ β) (L : Own) : Label ε σ β := { ι := δ, sp := sp, J := fun d vs L' => Fact.prop (vs = HC.enc ts (f d) ∧ L' = L) }
theorem HB.enc_inj : ∀ (bs : List B) (x y : HB bs), HB.enc bs x = HB.enc bs y → x = y
  | [], _, _, _ => rfl
  | b :: bs, x, y, h => by
    simp only [HB.enc, List.cons.injEq] at h
    obtain ⟨x1, x2⟩ := x
    obtain ⟨y1, y2⟩ := y
    have h2 := HB.enc_inj bs x2 y2 h.2
    have h1 : x1 = y1 := by
      have := h.1
      cases b <;> simp [B.enc] at this <;> try exact this
      obtain ⟨a1, a2, a3⟩ := x1
      obtain ⟨c1, c2, c3⟩ := y1
      simp at this
      obtain ⟨rfl, rfl, rfl⟩ := this
      rfl
    rw [h1, h2]
theorem HC.enc_inj : ∀ (ts : List C) (x y : HC ts), HC.enc ts x = HC.enc ts y → x = y
  | [], _, _, _ => rfl
  | c :: cs, x, y, h => by
    simp only [HC.enc, List.cons.injEq] at h
    obtain ⟨x1, x2⟩ := x
    obtain ⟨y1, y2⟩ := y
    have h2 := HC.enc_inj cs x2 y2 h.2
    have h1 : x1 = y1 := by
      have := h.1
      cases c with
      | b b =>
        have : HB.enc [b] (x1, ()) = HB.enc [b] (y1, ()) := by
          show [b.enc x1] = [b.enc y1]
          rw [show b.enc x1 = b.enc y1 from this]
        exact (Prod.mk.inj (HB.enc_inj [b] _ _ this)).1
      | agg bs =>
        have h3 : (HB.enc bs x1).toArray = (HB.enc bs y1).toArray := by
          have h4 : (Value.agg (HB.enc bs x1).toArray) = Value.agg (HB.enc bs y1).toArray := this
          exact Value.agg.inj h4
        exact HB.enc_inj bs _ _ (by simpa using congrArg Array.toList h3)
    rw [h1, h2]
theorem k_join {l : Nat} {ts : List C} {m : T} {k : HC ts → T} (s' : HC ts → Sp ε σ β) (hm : SimK P I t Rel (Δ.set l (lbV ts id s' L)) md st m run L Γ)
    (hk : ∀ y st, SimK P I t Rel Δ none st (k y) (s' y st) L Γ) : SimK P I t Rel Δ md st (.join l ts m k) run L Γ := by
  intro H r w F res S hs hΓ hsp hq
  simp only [T.wp]
  refine T.wp_mono m ?_ (fun e w h => h) (hm H r w F res S hs hΓ hsp hq)
  intro l' vs w' h
  unfold Labels.set at h
  unfold Outs.set
  split
  · rename_i hl
    rw [if_pos hl] at h
    obtain ⟨i, L', F', H', st', hle, hsp', ⟨rfl, rfl⟩, hi', hS'⟩ := h
    exact ⟨i, rfl, wp_le hle (hk i st' H' r w' F' res S hsp' (Holds.cons hi' (Holds.mono (fun A hA => hΓ A (List.mem_cons_of_mem _ hA)) hle)) hS' trivial)⟩
  · rename_i hl; rw [if_neg hl] at h; exact h
theorem k_outV {l : Nat} {vs : List Value} {ts : List C} {s' : HC ts → Sp ε σ β} (y : HC ts) (hx : Δ l = lbV ts id s' L) (hv : vs = HC.enc ts y) (hrun : run = s' y st) : SimK P I t Rel Δ md st (.out l vs) run L Γ :=
  k_outX (x := lbV ts id s' L) y hx hrun fun F hF => ⟨hv, rfl⟩
def lbG (ts : List C) {δ : Type} (f : δ → HC ts) (g : δ → Own) (sp : δ → Sp ε σ β) : Label ε σ β := { ι := δ, sp := sp, J := fun d vs L' => Fact.prop (vs = HC.enc ts (f d) ∧ L' = g d) }
theorem k_joinG {δ : Type} {l : Nat} {ts : List C} {m : T} {k : HC ts → T} (f : δ → HC ts) (g : δ → Own) (s' : δ → Sp ε σ β) (hm : SimK P I t Rel (Δ.set l (lbG ts f g s')) md st m run L Γ)
    (hk : ∀ d st, SimK P I t Rel Δ none st (k (f d)) (s' d st) (g d) Γ) : SimK P I t Rel Δ md st (.join l ts m k) run L Γ := by
  intro H r w F res S hs hΓ hsp hq
  simp only [T.wp]
  refine T.wp_mono m ?_ (fun e w h => h) (hm H r w F res S hs hΓ hsp hq)
  intro l' vs w' h
  unfold Labels.set at h
  unfold Outs.set
  split
  · rename_i hl
    rw [if_pos hl] at h
    obtain ⟨i, L', F', H', st', hle, hsp', ⟨rfl, rfl⟩, hi', hS'⟩ := h
    exact ⟨f i, rfl, wp_le hle (hk i st' H' r w' F' res S hsp' (Holds.cons hi' (Holds.mono (fun A hA => hΓ A (List.mem_cons_of_mem _ hA)) hle)) hS' trivial)⟩
  · rename_i hl; rw [if_neg hl] at h; exact h
theorem k_outG {δ : Type} {l : Nat} {vs : List Value} {ts : List C} {f : δ → HC ts} {g : δ → Own} {s' : δ → Sp ε σ β} (d : δ) (hx : Δ l = lbG ts f g s') (hv : vs = HC.enc ts (f d)) (hL : L = g d) (hrun : run = s' d st) : SimK P I t Rel Δ md st (.out l vs) run L Γ :=
  k_outX (x := lbG ts f g s') d hx hrun fun F hF => ⟨hv, hL⟩
def lbR (ts : List C) (sp : Nat → HC ts → Sp ε σ β) (L : Own) (n : Nat) : Label ε σ β := { ι := { j : Nat × HC ts // j.1 < n }, sp := fun j => sp j.1.1 j.1.2, J := fun j vs L' => Fact.prop (vs = HC.enc ts j.1.2 ∧ L' = L) }
theorem k_loop {l : Nat} {ts : List C} {vs : List Value} {body : HC ts → T} (sp : Nat → HC ts → Sp ε σ β) (n0 : Nat) (y0 : HC ts) (hv : vs = HC.enc ts y0) (hrun : run = sp n0 y0 st) (hz : ∀ y st, sp 0 y st = none)
    (hb : ∀ n y st, SimK P I t Rel (Δ.set l (lbR ts sp L (n + 1))) none st (body y) (sp (n + 1) y st) L Γ) : SimK P I t Rel Δ md st (.loop l ts vs body) run L Γ := by
  subst hv; subst hrun
  refine k_shut (s := sp n0 y0) ?_ rfl
  refine sim_loop (x := { ι := Nat × HC ts, sp := fun j => sp j.1 j.2, J := fun j vs L' => Fact.prop (vs = HC.enc ts j.2 ∧ L' = L) }) (fun j => j.1) (n0, y0) rfl (fun F hF => ⟨rfl, rfl⟩) (fun i vs L' F h => ⟨i.2, h.1⟩) ?_
  rintro ⟨n, d⟩ L' y
  refine Sim.prop fun ⟨h1, h2⟩ => ?_
  obtain rfl := HC.enc_inj ts _ _ h1
  subst h2
  cases n with
  | zero => exact k_open fun st => k_none (hz _ st)
  | succ n => exact k_open fun st => hb n y st
theorem k_outR {l n : Nat} {vs : List Value} {ts : List C} {sp : Nat → HC ts → Sp ε σ β} (y : HC ts) (hx : Δ l = lbR ts sp L (n + 1)) (hv : vs = HC.enc ts y) (hrun : run = sp n y st) : SimK P I t Rel Δ md st (.out l vs) run L Γ :=
  k_outX (x := lbR ts sp L (n + 1)) ⟨(n, y), Nat.lt_succ_self n⟩ hx hrun fun F hF => ⟨hv, rfl⟩
end
end Go.Proofs.YtjlgcpgjdgeejaaGreatDoor
end

/- Functions that defer one closure: their trees speak true. Conditions: none (general tools). -/
section
namespace Go.Proofs.YtjlgcpgjdgeejaaGreatDoor
open Go
set_option linter.unusedSimpArgs false
set_option linter.unusedVariables false
set_option linter.constructorNameAsVariable false

def _root_.Go.Code.lft : Code → Code
  | .seq a _ => a
  | c => c
def _root_.Go.Code.rgt : Code → Code
  | .seq _ b => b
  | c => c
def bodyOf (fn : Func) : Code := fn.body.getD .skip
def LeaveD (P : Program) (g : FuncId) (caps : Array Value) (rs : Array RV) (R : Ending → World → Prop) (u : FrameMode) (w : World) : Prop :=
  CallsD P g caps u w fun e u' w' => ∃ v, e = .returned v ∧ match settle u' with
    | .returning => ∃ v, (resR rs).run P w' = .ok v w' ∧ R (.returned v) w'
    | .panicking c => R (.panicked c) w'
    | .run => False
theorem run_callFunc' {P : Program} {f : FuncId} {fn : Func} {args : Array Value} {w : World} (hf : P.funcs[f]? = some fn) (hb : fn.body.isNone = false) (hn : (fn.name == "runtime.NumGoroutine") = false) :
    (callFunc f args).run P w = .ok (.enter f args) w := by
  have hn' : ¬ fn.name = "runtime.NumGoroutine" := by simpa using hn
  have hb' : ¬ fn.body = none := by
    intro h; rw [h] at hb; cases hb
  unfold callFunc
  simp [hf, hb', hn']
theorem leaves_of {P : Program} {fn fg : Func} {tmps : Array Value} {g : FuncId} {caps : Array Value} {rs : Array RV} {R : Ending → World → Prop} {u : FrameMode} {w : World} (hu : u ≠ .run)
    (hrs : results fn tmps = resR rs) (hfg : P.funcs[g]? = some fg) (hbg : fg.body.isNone = false) (hng : (fg.name == "runtime.NumGoroutine") = false) (h : LeaveD P g caps rs R u w) : Leaves P fn tmps R [{ target := .fn (.func g) caps, args := #[] }] u w := by
  refine leaves_cons (f := g) (args := caps) hu (by simp [invoke, run_callFunc' hfg hbg hng]) (CallsD.mono h ?_)
  rintro e u' w' ⟨v, rfl, h⟩
  show Leaves P fn tmps R [] (settle u') w'
  cases hs : settle u' with
  | returning => rw [hs] at h; obtain ⟨v, h1, h2⟩ := h; exact ⟨v, by rw [hrs]; exact h1, h2⟩
  | panicking c => rw [hs] at h; exact h
  | run => rw [hs] at h; exact h.elim
def resOk (slots : List Nat) (lo t : Nat) : ResultVar → Bool
  | .tmp s => slots.contains s && Nat.blt s lo && !Nat.beq s t
  | .cell s _ => slots.contains s && Nat.blt s lo && !Nat.beq s t
def capOk (slots : List Nat) : Operand → Bool
  | .tmp s => slots.contains s
  | _ => false
theorem puts_get {ss : List Nat} {vs : List Value} {e : Env} {b : Env} : e.gets ss = some vs → ∀ s ∈ ss, ∃ v u, b.puts ss vs s = some v ∧ e s = some u ∧ v.val = u.val := by
  intro h s hs
  have key : ∀ (ss : List Nat) (vs : List Value) (b : Env), e.gets ss = some vs → (s ∈ ss ∨ ∃ v u, b s = some v ∧ e s = some u ∧ v.val = u.val) → ∃ v u, b.puts ss vs s = some v ∧ e s = some u ∧ v.val = u.val := by
    intro ss
    induction ss with
    | nil =>
      intro vs b _ h
      rcases h with h | h
      · cases h
      · simpa [Env.puts] using h
    | cons x ss ih =>
      intro vs b hg h
      obtain ⟨v, us, h1, h2, rfl⟩ := gets_cons hg
      refine ih us _ h2 ?_
      by_cases hx : s = x
      · subst hx; exact .inr ⟨.v v.val, v, putE_self .., h1, rfl⟩
      · rcases h with h | ⟨v', u', g1, g2, g3⟩
        · rcases List.mem_cons.1 h with h | h
          · exact absurd h hx
          · exact .inl h
        · exact .inr ⟨v', u', by rw [putE_ne b _ hx]; exact g1, g2, g3⟩
  exact key ss vs b h (.inl hs)
theorem fnD_sound {P : Program} {f : FuncId} {fn fg : Func} {c1 c2 c3 : Code} {id : Nat} {o1 o2 : Oper} {t : Tmp} {g : FuncId} {caps : Array Operand} {args : List Value} {w : World} {R : Ending → World → Prop} {lo : Nat}
    {slots : List Nat} {an1 an2 an3 : An} {Mid : List Value → World → Prop} (hf : P.funcs[f]? = some fn) (hfg : P.funcs[g]? = some fg) (hbg : fg.body.isNone = false) (hng : (fg.name == "runtime.NumGoroutine") = false) (hb : fn.body = some (.seq c1 (.seq c2 (.seq (.region id #[o1, o2] false) c3))))
    (ho1 : o1.op = .makeFunc (.func g) #[] caps) (hd1 : o1.dst = some t) (hg1 : o1.guard = none)
    (ho2 : o2.op = .defer { callee := .value (.tmp t), args := #[], argTypes := #[] }) (hd2 : o2.dst = none) (hg2 : o2.guard = none)
    (ht : t < fn.ntmps) (hslots : ∀ s ∈ slots, s ≠ t) (hn : args.length ≤ fn.ntmps)
    (hres : fn.results.all (resOk slots lo t) = true) (hcaps : caps.all (capOk slots) = true)
    (h1 : (den P (NN.of fn.ntmps) #[] c1 an1 1 (startE args) (fun e => den P (NN.of fn.ntmps) #[] c2 an2 1 e (outT 0 slots) (fun _ _ => .bad)) fun _ _ => .bad).wp P (fun _ => True) (fun _ vs w' => Mid vs w') (fun _ _ => False) w)
    (h2 : ∀ vs w', Mid vs w' → ∀ N : NN, N.lo = lo → N.hi = fn.ntmps → N.rd = none →
      (den P N #[] c3 an3 1 (Env.puts (fun _ => none) slots vs) (fun _ => .out 0 []) fun ex _ => match ex with | .ret => .out 0 [] | _ => .bad).wp P (fun _ => True)
        (fun _ _ w'' => LeaveD P g (caps.map (Env.at (Env.puts (fun _ => none) slots vs))) (fn.results.map (rvOf (Env.puts (fun _ => none) slots vs))) R .returning w'')
        (fun en w'' => match en with
          | .panicked c => LeaveD P g (caps.map (Env.at (Env.puts (fun _ => none) slots vs))) (fn.results.map (rvOf (Env.puts (fun _ => none) slots vs))) R (.panicking c) w''
          | _ => False) w') : Calls P f args.toArray w R := by
  refine calls_of_wp_defers hf hb ?_
  have hsz : fn.ntmps - args.length + args.length = fn.ntmps := by omega
  refine wp_seq (Code.wp_mono (Q := fun ex a' w' => match ex with
    | .normal => (Code.seq c2 (.seq (.region id #[o1, o2] false) c3)).wp P (bodyPostD P fn R) a' w'
    | _ => False) (fun ex a' w' h => by cases ex <;> first | exact h | exact h.elim) (((den_ok c1).1 an1).wp rfl 1 (startE args) _ _ _ w _ _ _ h1 ?_ ?_ ?_ ?_ ?_))
  · refine ⟨⟨rfl, fun i hi => absurd hi (Nat.not_lt_zero i)⟩, by simp [NN.of]; omega, fun i v hv => ?_⟩
    simp only [startE, Option.map_eq_some_iff] at hv
    obtain ⟨x, hx, rfl⟩ := hv
    have hi : i < args.length := by
      rcases Nat.lt_or_ge i args.length with h' | h'
      · exact h'
      · simp [List.getElem?_eq_none h'] at hx
    have hx' : args[i] = x := by simpa [List.getElem?_eq_getElem hi] using hx
    simp [Array.getD_eq_getD_getElem?, Array.getElem?_append, hi, hx', EV.val]
  · intro Φ1 S1 e1 a1 w1 hb1 ha1 hs1 hx1
    refine wp_seq (Code.wp_mono (Q := fun ex a' w' => match ex with
      | .normal => (Code.seq (.region id #[o1, o2] false) c3).wp P (bodyPostD P fn R) a' w'
      | _ => False) (fun ex a' w' h => by cases ex <;> first | exact h | exact h.elim) (((den_ok c2).1 an2).wp rfl 1 e1 _ _ a1 w1 Φ1 S1 _ hx1 ha1 ?_ ?_ ?_ ?_))
    · intro Φ2 S2 e2 a2 w2 hb2 ha2 hs2 hx2
      obtain ⟨vs, hg, ho⟩ := outT_sound hx2
      rw [hb2 0 (Nat.lt_succ_self 0), hb1 0 (Nat.lt_succ_self 0)] at ho
      -- the closure is made and deferred
      let cv := caps.map a2.eval
      let a3 : Act := { (a2.put (some t) (.func (.func g) #[] cv)) with defers := [{ target := .fn (.func g) cv, args := #[] }] }
      have hlt2 : t < a2.tmps.size := by rw [ha2.size]; exact ht
      have hE : ∀ s ∈ slots, ∃ v, Env.puts (fun _ => none) slots vs s = some v ∧ a3.tmps.getD s undef = v.val ∧ a2.tmps.getD s undef = v.val := by
        intro s hs
        obtain ⟨v, u, h1, h2, h3⟩ := puts_get (b := fun _ => none) hg s hs
        have h4 := ha2.val s u h2
        refine ⟨v, h1, ?_, by rw [h3]; exact h4⟩
        have : a3.tmps.getD s undef = a2.tmps.getD s undef := by
          simp [a3, Act.put, Array.getD_eq_getD_getElem?, Array.getElem?_setIfInBounds_ne (Ne.symm (hslots s hs))]
        rw [this, h3]; exact h4
      have hcv : cv = caps.map (Env.at (Env.puts (fun _ => none) slots vs)) := by
        refine Array.map_congr_left fun o ho' => ?_
        have hc := Array.all_eq_true_iff_forall_mem.1 hcaps o ho'
        cases o with
        | tmp s =>
          simp only [capOk, List.contains_iff_mem] at hc
          obtain ⟨v, h1, _, h2⟩ := hE s (by simpa using hc)
          simp [Act.eval, Env.at, Env.ev, h1, h2]
        | _ => simp [capOk] at hc
      refine wp_seq (wp_region_list ?_)
      refine wpList_plain hg1 fun K1 hK1 => ?_
      have hr1 : (execOp a2.eval o1).run P w2 = .ok (.value (.func (.func g) #[] cv)) w2 := by
        simp [execOp, ho1, Instr.makeFunc, cv]
      unfold Oper.wp; rw [hr1, Oper.upon_value, hd1]
      refine hK1 _ _ (wpList_plain hg2 fun K2 hK2 => ?_)
      have hev : (a2.put (some t) (.func (.func g) #[] cv)).eval (.tmp t) = .func (.func g) #[] cv := by
        simp [Act.eval, Act.put, hlt2]
      have hr2 : (execOp (a2.put (some t) (.func (.func g) #[] cv)).eval o2).run P w2 = .ok (.defer { target := .fn (.func g) cv, args := #[] }) w2 := by
        simp [execOp, ho2, resolve, hev, Deferred.ofValue]
      unfold Oper.wp; rw [hr2, Oper.upon_defer, hd2]
      refine hK2 _ _ (wpList_nil ?_)
      have ha3eq : ({ (a2.put (some t) (.func (.func g) #[] cv)) with defers := { target := .fn (.func g) cv, args := #[] } :: (a2.put (some t) (.func (.func g) #[] cv)).defers } : Act).put none undef = a3 := by
        have : a2.defers = [] := ha2.defers.1
        simp [a3, Act.put, this]
      rw [ha3eq]
      -- the rest
      let N : NN := ⟨lo, fn.ntmps, a3.defers, fun i => a3.tmps.getD i undef, none⟩
      have hA3 : Agree N (Env.puts (fun _ => none) slots vs) a3 := by
        refine ⟨⟨rfl, fun i _ => rfl⟩, by simp [a3, Act.put, ha2.size, NN.of, N], fun i v hv => ?_⟩
        have hmem : i ∈ slots := by
          have key : ∀ (ss : List Nat) (vs : List Value) (b : Env), b.puts ss vs i ≠ none → i ∈ ss ∨ b i ≠ none := by
            intro ss
            induction ss with
            | nil => intro vs b h; exact .inr (by simpa [Env.puts] using h)
            | cons x ss ih =>
              intro vs b h
              cases vs with
              | nil => exact .inr (by simpa [Env.puts] using h)
              | cons v vs =>
                rcases ih vs _ h with h | h
                · exact .inl (List.mem_cons_of_mem _ h)
                · by_cases hx : i = x
                  · exact .inl (hx ▸ List.mem_cons_self ..)
                  · exact .inr (by rwa [putE_ne b _ hx] at h)
          rcases key slots vs _ (by rw [hv]; simp) with h | h
          · exact h
          · exact absurd rfl h
        obtain ⟨u, g1, g2, _⟩ := hE i hmem
        rw [hv] at g1; cases g1; exact g2
      have hRes : ∀ a : Act, Kept N a → results fn a.tmps = resR (fn.results.map (rvOf (Env.puts (fun _ => none) slots vs))) := by
        intro a ha
        refine resR_results fun r hr => ?_
        have hro := Array.all_eq_true_iff_forall_mem.1 hres r hr
        have one : ∀ s, slots.contains s = true → s < lo → (Env.puts (fun _ => none) slots vs).at (.tmp s) = a.tmps.getD s undef := fun s hs hl => by
          obtain ⟨u, g1, g2, _⟩ := hE s (by simpa using hs)
          have g3 : a.tmps.getD s undef = a3.tmps.getD s undef := ha.2 s hl
          rw [g3, g2]
          simp [Env.at, Env.ev, g1]
        cases r with
        | tmp s => simp only [resOk, Bool.and_eq_true] at hro; exact one s hro.1.1 (Nat.le_of_ble_eq_true hro.1.2)
        | cell s ty => simp only [resOk, Bool.and_eq_true] at hro; exact one s hro.1.1 (Nat.le_of_ble_eq_true hro.1.2)
      have hD : ∀ a : Act, Kept N a → a.defers = [{ target := .fn (.func g) (caps.map (Env.at (Env.puts (fun _ => none) slots vs))), args := #[] }] := fun a ha => by
        have : a.defers = a3.defers := ha.1
        rw [this, ← hcv]
      have hN1 : N.lo = lo := rfl
      refine Code.wp_mono (fun ex a w h => ?_) (((den_ok c3).1 an3).wp rfl 1 _ _ _ a3 w2 _ _ (fun ex a w => match ex with
        | .panic c => (∀ i, i < lo → a.tmps.getD i undef = N.K i) ∧ a.defers = N.D ∧ LeaveD P g (caps.map (Env.at (Env.puts (fun _ => none) slots vs))) (fn.results.map (rvOf (Env.puts (fun _ => none) slots vs))) R (.panicking c) w
        | _ => bodyPostD P fn R ex a w) (h2 vs w2 ho N rfl rfl rfl) hA3 ?_ ?_ ?_ ?_)
      · cases ex with
        | panic c =>
          obtain ⟨k1, k2, k3⟩ := h
          show Leaves P fn a.tmps R a.defers (.panicking c) w
          rw [hD a ⟨k2, k1⟩]
          exact leaves_of (by simp) (hRes a ⟨k2, k1⟩) hfg hbg hng k3
        | _ => exact h
      · intro Φ3 S3 e3 a4 w4 hb3 ha4 hs3 hx3
        simp only [T.wp] at hx3
        rw [hb3 0 (Nat.lt_succ_self 0)] at hx3
        show Leaves P fn a4.tmps R a4.defers .returning w4
        rw [hD a4 ha4.defers]
        exact leaves_of (by simp) (hRes a4 ha4.defers) hfg hbg hng hx3
      · intro Φ3 S3 ex e3 a4 w4 hne hb3 ha4 hs3 hx3
        cases ex with
        | ret =>
          simp only [T.wp] at hx3
          rw [hb3 0 (Nat.lt_succ_self 0)] at hx3
          show Leaves P fn a4.tmps R a4.defers .returning w4
          rw [hD a4 ha4.defers]
          exact leaves_of (by simp) (hRes a4 ha4.defers) hfg hbg hng hx3
        | normal => exact absurd rfl hne
        | _ => simp only [T.wp] at hx3
      · intro c a4 w4 hk hx3
        exact ⟨hk.2, hk.1, hx3⟩
      · rintro c a d v w' hd ⟨k1, k2, k3⟩
        cases d with
        | none => exact ⟨k1, k2, k3⟩
        | some d =>
          refine ⟨fun i hi => ?_, k2, k3⟩
          rw [← k1 i hi]
          have hl : lo ≤ d := hd d rfl
          have hne : d ≠ i := by omega
          simp [Act.put, Array.getD_eq_getD_getElem?, Array.getElem?_setIfInBounds_ne hne]
    · intro Φ2 S2 ex e2 a2 w2 hne hb2 ha2 hs2 hx2
      simp only [T.wp] at hx2
    · intro c a w' _ h; exact h.elim
    · intro c a d v w' hd h; exact h
  · intro Φ2 S2 ex e2 a2 w2 hne hb2 ha2 hs2 hx2
    simp only [T.wp] at hx2
  · intro c a w' _ h; exact h.elim
  · intro c a d v w' hd h; exact h
theorem fnS_sound {P : Program} {g : FuncId} {fn : Func} {id : Nat} {o : Oper} {t : Tmp} {c : Code} {caps : List Value} {w : World} {u u' : FrameMode} {v : Value} {an : An} {Post : World → Prop}
    (hf : P.funcs[g]? = some fn) (hb : fn.body = some (.seq (.region id #[o] false) c)) (ho : o.op = .call { callee := .builtin .recover, args := #[], argTypes := #[] }) (hd : o.dst = some t) (hg : o.guard = none)
    (hr : fn.results = #[]) (ht : t < fn.ntmps) (hn : caps.length ≤ fn.ntmps)
    (hm : (u = .returning ∧ v = .nilIface ∧ u' = .returning) ∨ ∃ older, u = .panicking ({ v := v, recovered := false } :: older) ∧ u' = .panicking ({ v := v, recovered := true } :: older))
    (h : (den P (NN.of fn.ntmps) #[] c an 1 ((startE caps).putE t (.v v)) (fun _ => .out 0 []) fun ex _ => match ex with | .ret => .out 0 [] | _ => .bad).wp P (fun _ => True) (fun _ _ w' => Post w') (fun _ _ => False) w) :
    CallsD P g caps.toArray u w fun e u2 w' => e = .returned (.tuple #[]) ∧ u2 = u' ∧ Post w' := by
  refine callsD_of_wpS hf hb fun c₀ cs hu => ?_
  apply wpS_seq
  apply wpS_region
  have hrun : ∀ (ρ : Operand → Value) (w : World), (execOp ρ o).run P w = .ok .recover w := fun ρ w => by simp [execOp, ho, resolve, invoke, builtin]
  have hwant : Region.wanted o (yielded #[o] (caps.toArray ++ Array.replicate (fn.ntmps - caps.toArray.size) undef)) = true := by simp [Region.wanted, hg]
  let a0 : Act := { tmps := caps.toArray ++ Array.replicate (fn.ntmps - caps.toArray.size) undef, defers := [] }
  have hA0 : Agree (NN.of fn.ntmps) (startE caps) a0 := by
    have hsz : fn.ntmps - caps.length + caps.length = fn.ntmps := by omega
    refine ⟨⟨rfl, fun i hi => absurd hi (Nat.not_lt_zero i)⟩, by simp [a0, NN.of]; omega, fun i v hv => ?_⟩
    simp only [startE, Option.map_eq_some_iff] at hv
    obtain ⟨x, hx, rfl⟩ := hv
    have hi : i < caps.length := by
      rcases Nat.lt_or_ge i caps.length with h' | h'
      · exact h'
      · simp [List.getElem?_eq_none h'] at hx
    have hx' : caps[i] = x := by simpa [List.getElem?_eq_getElem hi] using hx
    simp [a0, Array.getD_eq_getD_getElem?, Array.getElem?_append, hi, hx', EV.val]
  have hA1 := hA0.putE (d := t) ht (Nat.zero_le _) (.v v)
  have main : ∀ c1 : Frame, c1 = { c₀ with mode := u' } → c.wpS P (bodyPostS P fn c₀ cs fun e u2 w' => e = .returned (.tuple #[]) ∧ u2 = u' ∧ Post w') (a0.put (some t) v) (c1 :: cs) w := by
    rintro c1 rfl
    refine wpS_of_wp (Code.wp_mono (fun ex a w' hq => ?_) (((den_ok c).1 an).wp rfl 1 _ _ _ _ w _ _ (fun ex a w' => match ex with
      | .normal | .ret => a.defers = [] ∧ Post w'
      | _ => False) h hA1 ?_ ?_ ?_ ?_))
    · cases ex with
      | normal => exact ⟨hq.1, u', rfl, .tuple #[], by simp [results, hr], rfl, rfl, hq.2⟩
      | ret => exact ⟨hq.1, u', rfl, .tuple #[], by simp [results, hr], rfl, rfl, hq.2⟩
      | _ => exact hq.elim
    · intro Φ' S' e' a' w' hb' ha' hs' hx
      simp only [T.wp] at hx
      rw [hb' 0 (Nat.lt_succ_self 0)] at hx
      exact ⟨ha'.defers.1, hx⟩
    · intro Φ' S' ex e' a' w' hne hb' ha' hs' hx
      cases ex with
      | ret =>
        simp only [T.wp] at hx
        rw [hb' 0 (Nat.lt_succ_self 0)] at hx
        exact ⟨ha'.defers.1, hx⟩
      | normal => exact absurd rfl hne
      | _ => simp only [T.wp] at hx
    · intro c a w' _ h; exact h.elim
    · intro c a d v w' _ h; exact h
  rcases hm with ⟨rfl, rfl, rfl⟩ | ⟨older, rfl, rfl⟩
  · have hrec : recoverD (c₀ :: cs) = none := by simp [recoverD, hu]
    show wpOpsS P #[o] _ [0] a0 (c₀ :: cs) w
    simp only [wpOpsS, List.getElem?_toArray, List.getElem?_cons_zero, hrun, hrec]
    rw [if_pos hwant, hd]
    exact main c₀ (by cases c₀; simp_all)
  · have hrec : recoverD (c₀ :: cs) = some (v, { c₀ with mode := .panicking ({ v, recovered := true } :: older) } :: cs) := by simp [recoverD, hu]
    show wpOpsS P #[o] _ [0] a0 (c₀ :: cs) w
    simp only [wpOpsS, List.getElem?_toArray, List.getElem?_cons_zero, hrun, hrec]
    rw [if_pos hwant, hd]
    exact main _ rfl
end Go.Proofs.YtjlgcpgjdgeejaaGreatDoor
end

/- A range over a function: one round out of its trees; a function that holds one such loop. Conditions: none (general tools). -/
section
namespace Go.Proofs.YtjlgcpgjdgeejaaGreatDoor
open Go
set_option linter.unusedSimpArgs false
set_option linter.unusedVariables false
set_option linter.constructorNameAsVariable false

theorem Agree.start {n : NN} {a : Act} (hd : Kept n a) (hs : a.tmps.size = n.hi) : Agree n (fun _ => none) a := ⟨hd, hs, fun i v h => by cases h⟩
def badX : Exit → Env → T := fun _ _ => .bad
def outN0 : Env → T := fun _ => .out 0 []
def outX1 : Exit → Env → T := fun ex _ => match ex with
  | .ret => .out 1 []
  | _ => .bad
def RoundEnd (l : Nat) (K : Value → World → Prop) (i : Nat) (w : World) : Prop :=
  ∃ r : Loop, w.heap[l]? = some (.loop r) ∧ (if i = 0 then K (.bool true) (w.putObj l (.loop { r with state := .ready, pending := none })) else K (.bool false) (w.putObj l (.loop { r with state := .done, pending := some .ret })))
theorem round_sound {P : Program} {l f nt : Nat} {tmps : Array Value} {asn bd : Code} {w : World} {K : Value → World → Prop} {N : List PanicEntry → World → Prop} {e : Env} {anA anB : An} {slots : List Nat} {S : World → Prop} {Φ : Outs} (hsz : tmps.size = nt)
    (he : ∀ i v, e i = some v → tmps.getD i undef = v.val)
    (h : (den P ⟨0, nt, [], fun _ => undef, some l⟩ #[] asn anA 1 e (outT 0 slots) badX).wp P S (fun _ vs w1 => ∃ r : Loop, w1.heap[l]? = some (.loop r) ∧ r.state = .ready ∧
      (den P ⟨0, nt, [], fun _ => undef, some l⟩ #[] bd anB 2 (Env.puts (fun _ => none) slots vs) outN0 outX1).wp P (fun _ => True) (fun i _ w2 => RoundEnd l K i w2) (fun _ _ => False) (w1.putObj l (.loop { r with state := .busy }))) (fun _ _ => False) w) :
    RoundIn Fence.wide 0 P l f tmps asn bd w fun
      | .returned v, w' => K v w'
      | .panicked c, w' => N c w'
      | .outgrown, _ => False := by
  refine roundIn_of_wpIn (F := Fence.wide) trivial ?_
  let n0 : NN := ⟨0, nt, [], fun _ => undef, some l⟩
  have hA : Agree n0 e { tmps := tmps, defers := [] } := ⟨⟨rfl, fun i hi => absurd hi (Nat.not_lt_zero i)⟩, hsz, he⟩
  refine Code.wpIn_mono (Q := fun ex a' w' => match ex with
    | .normal => ∃ w₂, (Instr.beginRound l).run P w' = .ok () w₂ ∧ bd.wpIn (Fence.wide.inRound l) 0 P (roundPost P l fun
      | .returned v, w' => K v w'
      | .panicked c, w' => N c w'
      | .outgrown, _ => False) a' w₂
    | _ => False) (fun ex a' w' hq => by cases ex <;> first | exact hq | exact hq.elim) ((den_ok asn).1 anA 1 e (outT 0 slots) badX _ w _ S _ h hA ?_ ?_ ?_ ?_)
  · intro Φ1 S1 e1 a1 w1 hb1 ha1 hs1 hx1
    obtain ⟨vs, hg, ho⟩ := outT_sound hx1
    rw [hb1 0 (Nat.lt_succ_self 0)] at ho
    obtain ⟨r, hr, hst, ht⟩ := ho
    refine ⟨_, run_beginRound hr hst, ?_⟩
    have hA1 : Agree n0 (Env.puts (fun _ => none) slots vs) a1 := Agree.puts ha1 slots vs _ (Agree.start ha1.defers ha1.size) hg
    refine (den_ok bd).1 anB 2 _ outN0 outX1 a1 _ _ _ _ ht hA1 ?_ ?_ ?_ ?_
    · intro Φ2 S2 e2 a2 w2 hb2 ha2 hs2 hx2
      have hx3 : (T.out 0 []).wp P S2 Φ2 (fun _ _ => False) w2 := hx2
      simp only [T.wp] at hx3
      rw [hb2 0 (by decide)] at hx3
      obtain ⟨r2, hr2, hk⟩ := hx3
      rw [if_pos rfl] at hk
      refine ⟨_, _, run_endRound none hr2, ?_⟩
      exact hk
    · intro Φ2 S2 ex e2 a2 w2 hne hb2 ha2 hs2 hx2
      cases ex with
      | ret =>
        have hx3 : (T.out 1 []).wp P S2 Φ2 (fun _ _ => False) w2 := hx2
        simp only [T.wp] at hx3
        rw [hb2 1 (by decide)] at hx3
        obtain ⟨r2, hr2, hk⟩ := hx3
        rw [if_neg (by decide)] at hk
        refine ⟨_, _, run_endRound (some .ret) hr2, ?_⟩
        exact hk
      | normal => exact absurd rfl hne
      | _ => simp only [outX1, T.wp] at hx2
    · intro c a w' _ h; exact h.elim
    · intro c a d v w' _ h; exact h
  · intro Φ2 S2 ex e2 a2 w2 hne hb2 ha2 hs2 hx2
    simp only [badX, T.wp] at hx2
  · intro c a w' _ h; exact h.elim
  · intro c a d v w' _ h; exact h
def _root_.Go.Code.inB : Code → Code
  | .block _ c => c
  | c => c
theorem size_sets {ps : Array Tmp} {vs : Array Value} {tmps : Array Value} : ((ps.zip vs).foldl (fun t (p, v) => t.setIfInBounds p v) tmps).size = tmps.size := by
  rw [← Array.foldl_toList]
  generalize (ps.zip vs).toList = l
  induction l generalizing tmps with
  | nil => rfl
  | cons x l ih => simp only [List.foldl_cons]; rw [ih]; simp
theorem sets_agree {e : Env} {tmps : Array Value} (ps : List Tmp) (vs : List Value) (hnd : ps.Nodup) (hlt : ps.all (fun p => decide (p < tmps.size)) = true) (hag : ∀ s v, e s = some v → tmps.getD s undef = v.val) :
    ∀ s v, Env.puts e ps vs s = some v → ((ps.toArray.zip vs.toArray).foldl (fun t (p, v) => t.setIfInBounds p v) tmps).getD s undef = v.val := by
  rw [← Array.foldl_toList]
  have hz : (ps.toArray.zip vs.toArray).toList = ps.zip vs := by simp
  rw [hz]
  clear hz
  induction ps generalizing vs tmps e with
  | nil => intro s v h; simpa [Env.puts] using hag s v (by simpa [Env.puts] using h)
  | cons p ps ih =>
    cases vs with
    | nil => intro s v h; simpa [Env.puts] using hag s v (by simpa [Env.puts] using h)
    | cons x vs =>
      simp only [List.zip_cons_cons, List.foldl_cons]
      simp only [List.all_cons, Bool.and_eq_true, decide_eq_true_eq] at hlt
      refine ih (e := e.putE p (.v x)) vs (List.nodup_cons.1 hnd).2 ?_ ?_
      · simpa using hlt.2
      · intro s v h
        by_cases hs : s = p
        · subst hs
          rw [putE_self] at h; cases h
          simp [Array.getD_eq_getD_getElem?, hlt.1, EV.val]
        · rw [putE_ne e _ hs] at h
          have := hag s v h
          rw [← this]
          simp [Array.getD_eq_getD_getElem?, Array.getElem?_setIfInBounds_ne (Ne.symm hs)]
def _root_.Go.Code.rAs : Code → Code
  | .rangeFunc _ _ a _ => a
  | _ => .skip
def _root_.Go.Code.rBd : Code → Code
  | .rangeFunc _ _ _ b => b
  | _ => .skip
def resOk0 (slots : List Nat) (lo : Nat) : ResultVar → Bool
  | .tmp s => slots.contains s && Nat.blt s lo
  | .cell s _ => slots.contains s && Nat.blt s lo
def EndR (P : Program) (rs : Array RV) (D : Nat) (R : Ending → World → Prop) (w : World) : Prop :=
  w.heap[D]? = some (.deferred (some [])) ∧ ∃ v, (resR rs).run P (w.putObj D (.deferred none)) = .ok v (w.putObj D (.deferred none)) ∧ R (.returned v) (w.putObj D (.deferred none))
theorem fnR_sound {P : Program} {f : FuncId} {fn : Func} {c1 c2 c3 c4 asn bd : Code} {bi : Nat} {g : Tmp} {ps : Array Tmp} {args : List Value} {w : World} {R : Ending → World → Prop} {lo : Nat}
    {slots : List Nat} {an1 an2 an3 an4 : An} {Mid : List Value → World → Prop} (hf : P.funcs[f]? = some fn) (hb : fn.body = some (.seq c1 (.seq c2 (.seq (.seq c3 (.block bi (.rangeFunc (.tmp g) ps asn bd))) c4))))
    (hn : args.length ≤ fn.ntmps) (hgs : slots.contains g = true) (hres : fn.results.all (resOk0 slots lo) = true)
    (h1 : (den P (NN.of fn.ntmps) #[] c1 an1 1 (startE args) (fun e => den P (NN.of fn.ntmps) #[] c2 an2 1 e (fun e => den P (NN.of fn.ntmps) #[] c3 an3 1 e (outT 0 slots) badX) badX) badX).wp P (fun _ => True) (fun _ vs w' => Mid vs w') (fun _ _ => False) w)
    (h2 : ∀ vs w', Mid vs w' → ∃ gf lb, (Env.puts (fun _ => none) slots vs g = some (.v (.func (.func gf) #[] lb))) ∧ (∀ args w, (callFunc gf args).run P w = .ok (.enter gf args) w) ∧
      ∀ (tmps : Array Value) (fid : FuncId), tmps.size = fn.ntmps → (∀ s v, Env.puts (fun _ => none) slots vs s = some v → tmps.getD s undef = v.val) →
        Calls P gf (#[.func (.yield (w'.heap.size + 1)) #[] #[]] ++ lb) ((w'.alloc (.deferred (some []))).alloc (.loop { state := .ready, pending := none, fn := fid, tmps := tmps, params := ps, assign := asn, body := bd, defers := w'.heap.size })) fun e w3 =>
          ∃ v r, e = .returned v ∧ w3.heap[w'.heap.size + 1]? = some (.loop r) ∧ r.state ≠ .busy ∧
            ((r.pending = none ∧ ∀ N : NN, N.lo = lo → N.hi = fn.ntmps → N.rd = none → (den P N #[] c4 an4 1 (Env.puts (fun _ => none) slots vs) outN0 (fun ex _ => match ex with | .ret => .out 0 [] | _ => .bad)).wp P (fun _ => True)
                (fun _ _ w5 => EndR P (fn.results.map (rvOf (Env.puts (fun _ => none) slots vs))) w'.heap.size R w5) (fun _ _ => False) (w3.putObj (w'.heap.size + 1) (.loop { r with state := .exhausted }))) ∨
             (r.pending = some .ret ∧ EndR P (fn.results.map (rvOf (Env.puts (fun _ => none) slots vs))) w'.heap.size R (w3.putObj (w'.heap.size + 1) (.loop { r with state := .exhausted }))))) :
    Calls P f args.toArray w R := by
  refine (callsIn_wide (n := 0)).1 (callsIn_of_wp_marks hf hb trivial ?_)
  have hW : (FW none) = Fence.wide := rfl
  refine wpIn_seq (Code.wpIn_mono (Q := fun ex a' w' => match ex with
    | .normal => (Code.seq c2 (.seq (.seq c3 (.block bi (.rangeFunc (.tmp g) ps asn bd))) c4)).wpIn Fence.wide 0 P (bodyPostM Fence.wide 0 P fn R) a' w'
    | _ => False) (fun ex a' w' h => by cases ex <;> first | exact h | exact h.elim) ((den_ok c1).1 an1 1 (startE args) _ _ _ w _ _ _ h1 ?_ ?_ ?_ ?_ ?_))
  · have hsz : fn.ntmps - args.length + args.length = fn.ntmps := by omega
    refine ⟨⟨rfl, fun i hi => absurd hi (Nat.not_lt_zero i)⟩, by simp [NN.of]; omega, fun i v hv => ?_⟩
    simp only [startE, Option.map_eq_some_iff] at hv
    obtain ⟨x, hx, rfl⟩ := hv
    have hi : i < args.length := by
      rcases Nat.lt_or_ge i args.length with h' | h'
      · exact h'
      · simp [List.getElem?_eq_none h'] at hx
    have hx' : args[i] = x := by simpa [List.getElem?_eq_getElem hi] using hx
    simp [Array.getD_eq_getD_getElem?, Array.getElem?_append, hi, hx', EV.val]
  · intro Φ1 S1 e1 a1 w1 hb1 ha1 hs1 hx1
    refine wpIn_seq (Code.wpIn_mono (Q := fun ex a' w' => match ex with
      | .normal => (Code.seq (.seq c3 (.block bi (.rangeFunc (.tmp g) ps asn bd))) c4).wpIn Fence.wide 0 P (bodyPostM Fence.wide 0 P fn R) a' w'
      | _ => False) (fun ex a' w' h => by cases ex <;> first | exact h | exact h.elim) ((den_ok c2).1 an2 1 e1 _ _ a1 w1 Φ1 S1 _ hx1 ha1 ?_ ?_ ?_ ?_))
    · intro Φ2 S2 e2 a2 w2 hb2 ha2 hs2 hx2
      refine wpIn_seq (wpIn_seq (Code.wpIn_mono (Q := fun ex a' w' => match ex with
        | .normal => (Code.block bi (.rangeFunc (.tmp g) ps asn bd)).wpIn Fence.wide 0 P (Exit.then (c4.wpIn Fence.wide 0 P (bodyPostM Fence.wide 0 P fn R)) (bodyPostM Fence.wide 0 P fn R)) a' w'
        | _ => False) (fun ex a' w' h => by cases ex <;> first | exact h | exact h.elim) ((den_ok c3).1 an3 1 e2 _ _ a2 w2 Φ2 S2 _ hx2 ha2 ?_ ?_ ?_ ?_)))
      · intro Φ3 S3 e3 a3 w3 hb3 ha3 hs3 hx3
        obtain ⟨vs, hg, ho⟩ := outT_sound hx3
        rw [hb3 0 (Nat.lt_succ_self 0), hb2 0 (Nat.lt_succ_self 0), hb1 0 (Nat.lt_succ_self 0)] at ho
        obtain ⟨gf, lb, hgv, hcf, hcall⟩ := h2 vs w3 ho
        have hA3 : Agree (NN.of fn.ntmps) (Env.puts (fun _ => none) slots vs) a3 := Agree.puts ha3 slots vs _ (Agree.start ha3.defers ha3.size) hg
        refine wpIn_block (wpIn_rangeFunc fun fid _ => ?_)
        have hev : a3.eval (.tmp g) = .func (.func gf) #[] lb := by
          have := hA3.val g _ hgv
          simpa [Act.eval, EV.val] using this
        have hc := hcall a3.tmps fid ha3.size hA3.val
        let W1 := (w3.alloc (.deferred (some []))).alloc (.loop { state := .ready, pending := none, fn := fid, tmps := a3.tmps, params := ps, assign := asn, body := bd, defers := w3.heap.size })
        refine ⟨w3.heap.size + 1, [{ target := .collected w3.heap.size, args := #[] }], W1, { target := .fn (.func gf) lb, args := #[.func (.yield (w3.heap.size + 1)) #[] #[]] }, W1, gf,
          #[.func (.yield (w3.heap.size + 1)) #[] #[]] ++ lb, W1, run_enterLoop_outer _ _ _ _ _, ?_, fun f' _ => trivial, ?_, fun h => (by cases h), ?_⟩
        · simp only [resolve, hev]
          simp [Deferred.ofValue, Act.eval]
        · simp [invoke, hcf]
        refine callsIn_wide.2 (Calls.mono hc fun e w4 he => ?_)
        obtain ⟨v, ⟨rst, rpe, rfn, rtm, rps, ras, rbd, rdf⟩, rfl, hl, hbusy, hend⟩ := he
        refine ⟨_, _, run_endLoop hl hbusy, ?_⟩
        have hd3 : a3.defers = [] := ha3.defers.1
        let a4 : Act := { a3 with defers := [{ target := .collected w3.heap.size, args := #[] }] ++ a3.defers }
        have hfin : ∀ (a5 : Act) (w5 : World), a5.defers = [{ target := .collected w3.heap.size, args := #[] }] → results fn a5.tmps = resR (fn.results.map (rvOf (Env.puts (fun _ => none) slots vs))) →
            EndR P (fn.results.map (rvOf (Env.puts (fun _ => none) slots vs))) w3.heap.size R w5 → LeavesInM Fence.wide 0 P fn a5.tmps R a5.defers .returning w5 := by
          rintro a5 w5 hd hr ⟨hD, u, hu, hRu⟩
          rw [hd]
          refine ⟨by simp, .inl ⟨w3.heap.size, _, rfl, run_takeDeferred hD, ?_⟩⟩
          exact ⟨u, by rw [hr]; exact hu, hRu⟩
        have hRes : ∀ (tm : Array Value), (∀ i, i < lo → tm.getD i undef = a3.tmps.getD i undef) → results fn tm = resR (fn.results.map (rvOf (Env.puts (fun _ => none) slots vs))) := by
          intro tm htm
          refine resR_results fun r hr => ?_
          have hro := Array.all_eq_true_iff_forall_mem.1 hres r hr
          have one : ∀ s, slots.contains s = true → s < lo → (Env.puts (fun _ => none) slots vs).at (.tmp s) = tm.getD s undef := fun s hs hl => by
            obtain ⟨u, _, g1, _, _⟩ := puts_get (b := fun _ => none) hg s (by simpa using hs)
            rw [htm s hl, hA3.val s u g1]
            simp [Env.at, Env.ev, g1]
          cases r with
          | tmp s => simp only [resOk0, Bool.and_eq_true] at hro; exact one s hro.1 (Nat.le_of_ble_eq_true hro.2)
          | cell s ty => simp only [resOk0, Bool.and_eq_true] at hro; exact one s hro.1 (Nat.le_of_ble_eq_true hro.2)
        rcases hend with ⟨hp, ht⟩ | ⟨hp, ht⟩
        · have hp' : rpe = none := hp
          subst hp'
          let N : NN := ⟨lo, fn.ntmps, a4.defers, fun i => a4.tmps.getD i undef, none⟩
          have hA4 : Agree N (Env.puts (fun _ => none) slots vs) a4 := ⟨⟨rfl, fun i _ => rfl⟩, ha3.size, hA3.val⟩
          have hkeep : ∀ a5, Kept N a5 → a5.defers = [{ target := .collected w3.heap.size, args := #[] }] ∧ results fn a5.tmps = resR (fn.results.map (rvOf (Env.puts (fun _ => none) slots vs))) := fun a5 hk =>
            ⟨by rw [hk.1]; show [_] ++ a3.defers = _; rw [hd3]; rfl, hRes _ fun i hi => hk.2 i hi⟩
          refine Code.wpIn_mono (fun ex a' w' h => ?_) ((den_ok c4).1 an4 1 _ outN0 _ a4 _ _ _ (fun ex a' w' => match ex with
            | .panic _ => False
            | _ => bodyPostM Fence.wide 0 P fn R ex a' w') (ht N rfl rfl rfl) hA4 ?_ ?_ ?_ ?_)
          · cases ex <;> first | exact h | exact h.elim
          · intro Φ4 S4 e4 a5 w5 hb4 ha5 hs5 hx5
            have hx6 : (T.out 0 []).wp P S4 Φ4 (fun _ _ => False) w5 := hx5
            simp only [T.wp] at hx6
            rw [hb4 0 (Nat.lt_succ_self 0)] at hx6
            exact hfin a5 w5 (hkeep a5 ha5.defers).1 (hkeep a5 ha5.defers).2 hx6
          · intro Φ4 S4 ex e4 a5 w5 hne hb4 ha5 hs5 hx5
            cases ex with
            | ret =>
              simp only [T.wp] at hx5
              rw [hb4 0 (Nat.lt_succ_self 0)] at hx5
              exact hfin a5 w5 (hkeep a5 ha5.defers).1 (hkeep a5 ha5.defers).2 hx5
            | normal => exact absurd rfl hne
            | _ => simp only [T.wp] at hx5
          · intro c a w' _ h; exact h.elim
          · intro c a d v w' _ h; exact h
        · have hp' : rpe = some .ret := hp
          subst hp'
          refine wpIn_ret ?_
          exact hfin a4 _ (by show [_] ++ a3.defers = _; rw [hd3]; rfl) (hRes _ fun i _ => rfl) ht
      · intro Φ3 S3 ex e3 a3 w3 hne hb3 ha3 hs3 hx3
        simp only [badX, T.wp] at hx3
      · intro c a w' _ h; exact h.elim
      · intro c a d v w' _ h; exact h
    · intro Φ3 S3 ex e3 a3 w3 hne hb3 ha3 hs3 hx3
      simp only [badX, T.wp] at hx3
    · intro c a w' _ h; exact h.elim
    · intro c a d v w' _ h; exact h
  · intro Φ3 S3 ex e3 a3 w3 hne hb3 ha3 hs3 hx3
    simp only [badX, T.wp] at hx3
  · intro c a w' _ h; exact h.elim
  · intro c a d v w' _ h; exact h
end Go.Proofs.YtjlgcpgjdgeejaaGreatDoor
end

/- Slices that no one writes any more, read as lists; indexing. Conditions: none (general tools). -/
section
namespace Go.Proofs.YtjlgcpgjdgeejaaGreatDoor
open Go
set_option linter.unusedSimpArgs false
set_option linter.unusedVariables false
set_option linter.constructorNameAsVariable false

abbrev SlD := Option Addr × Nat × Nat
def rows {α : Type} (f : α → List Value) (l : List α) : List Value := l.flatMap f
theorem rows_cons {α : Type} (f : α → List Value) (x : α) (l : List α) : rows f (x :: l) = f x ++ rows f l := rfl
theorem rows_append {α : Type} (f : α → List Value) (l l' : List α) : rows f (l ++ l') = rows f l ++ rows f l' := by simp [rows]
theorem rows_length {α : Type} {f : α → List Value} {n : Nat} (hf : ∀ x, (f x).length = n) : ∀ l : List α, (rows f l).length = n * l.length
  | [] => by simp [rows]
  | x :: l => by rw [rows_cons, List.length_append, hf, rows_length hf l, List.length_cons, Nat.mul_succ, Nat.add_comm]
theorem rows_at {α : Type} {f : α → List Value} {n : Nat} (hf : ∀ x, (f x).length = n) : ∀ (l : List α) (i : Nat) (x : α), l[i]? = some x → ((rows f l).drop (i * n)).take n = f x
  | [], i, x, h => by simp at h
  | y :: l, 0, x, h => by
    simp at h; subst h
    rw [rows_cons, Nat.zero_mul, List.drop_zero, List.take_left' (hf y)]
  | y :: l, i + 1, x, h => by
    simp at h
    have hd : (f y ++ rows f l).drop ((i + 1) * n) = (rows f l).drop (i * n) := by
      rw [List.drop_append, List.drop_eq_nil_of_le (by rw [hf, Nat.succ_mul]; omega), List.nil_append, hf]
      congr 1; rw [Nat.succ_mul]; omega
    rw [rows_cons, hd]
    exact rows_at hf l i x h
def Sl {α : Type} (n : Nat) (f : α → List Value) (x : SlD) (l : List α) : Fact where
  p F := x.2.1 = l.length ∧ (l = [] ∨ ∃ a cs T0, x.1 = some a ∧ a.spot = none ∧ F a.block = some (blk T0 cs) ∧ (cs.drop a.off).take (n * l.length) = rows f l)
  mono F F' hl h := ⟨h.1, h.2.imp id fun ⟨a, cs, T0, h1, h2, h3, h4⟩ => ⟨a, cs, T0, h1, h2, hl _ _ h3, h4⟩⟩
theorem Sl.len {α : Type} {n : Nat} {f : α → List Value} {x : SlD} {l : List α} {F : Heap} (h : (Sl n f x l).p F) : x.2.1 = l.length := h.1
theorem Sl.elem {α : Type} {n : Nat} {f : α → List Value} (hf : ∀ x, (f x).length = n) {x : SlD} {l : List α} {F : Heap} (h : (Sl n f x l).p F) {i : Nat} {y : α} (hi : l[i]? = some y) :
    ∃ a cs T0, x.1 = some a ∧ a.spot = none ∧ F a.block = some (blk T0 cs) ∧ (cs.drop (a.off + i * n)).take n = f y := by
  have hlt : i < l.length := (List.getElem?_eq_some_iff.1 hi).1
  rcases h.2 with h | ⟨a, cs, T0, h1, h2, h3, h4⟩
  · subst h; simp at hi
  · refine ⟨a, cs, T0, h1, h2, h3, ?_⟩
    rw [← List.drop_drop]
    have hr := rows_at hf l i y hi
    rw [← h4, List.drop_take, List.take_take] at hr
    rw [← hr, Nat.min_eq_left]
    have : n * l.length = n * i + n * (l.length - i) := by rw [← Nat.mul_add]; congr 1; omega
    rw [this, Nat.mul_comm i n, Nat.add_sub_cancel_left]
    exact Nat.le_mul_of_pos_right n (by omega)

theorem Sl.addr {α : Type} {n : Nat} {f : α → List Value} {x : SlD} {l : List α} {F : Heap} (h : (Sl n f x l).p F) (hl : 0 < l.length) : ∃ a, x.1 = some a ∧ a.spot = none := by
  rcases h.2 with h | ⟨a, _, _, h1, h2, _⟩
  · subst h; simp at hl
  · exact ⟨a, h1, h2⟩
def slOf (P : Program) (t : TypeId) : Option (TypeId × Nat) := match P.underlying t with
  | some (.slice e) => (P.info? e).map fun i => (e, i.size)
  | _ => none
theorem slOf_spec {P : Program} {t e : TypeId} {n : Nat} (h : slOf P t = some (e, n)) : P.underlying t = some (.slice e) ∧ ∃ i, P.info? e = some i ∧ i.size = n := by
  unfold slOf at h
  split at h
  · rename_i e' he
    simp only [Option.map_eq_some_iff, Prod.mk.injEq] at h
    obtain ⟨i, hi, rfl, hn⟩ := h
    exact ⟨he, i, hi, hn⟩
  · cases h
def slN (P : Program) (t : TypeId) : Option Nat := (slOf P t).map (·.2)
theorem slN_spec {P : Program} {t : TypeId} {n : Nat} (h : slN P t = some n) : ∃ e, slOf P t = some (e, n) := by
  unfold slN at h
  cases hs : slOf P t with
  | none => rw [hs] at h; cases h
  | some x => obtain ⟨e, m⟩ := x; rw [hs] at h; simp at h; subst h; exact ⟨e, rfl⟩
section
variable {P : Program} {w : World}
theorem run_idxA {t : TypeId} {a : Addr} {len cap n : Nat} {i : Int} (hn : slN P t = some n) (h0 : 0 ≤ i) (h1 : i < len) (k : IntKind) :
    (idxAS t (.slice (some a) len cap) (.int k i)).run P w = .ok (.value (.pointer (some (a.add (i.toNat * n))))) w := by
  obtain ⟨e, ht⟩ := slN_spec hn
  obtain ⟨h2, inf, h3, h4⟩ := slOf_spec ht
  simp [idxAS, valS, Instr.indexAt, asIntOf, run_underlying h2, sizeOf, typeInfo, h3, h4, h0, h1]
theorem qidx {α : Type} {n : Nat} {f : α → List Value} (hf : ∀ x, (f x).length = n) {q : Quiet} {x : SlD} {l : List α} {a : Addr} (ha : x.1 = some a) (hF : ∀ F, Holds q.Γ F → (Sl n f x l).p F)
    {t : TypeId} (ht : slN P t = some n) {i : Int} (k : Nat) (hi : i = k) (hk : k < l.length) : QVal P q (idxAS t (.slice x.1 x.2.1 x.2.2) (.int .i64 i)) (.pointer (some (a.add (k * n)))) := by
  intro K hK _ w _
  have hl := (hF K hK).1
  rw [ha, run_idxA ht (by omega) (by omega)]
  rw [hi]; rfl
theorem qelem {α : Type} {n : Nat} {f : α → List Value} (hf : ∀ x, (f x).length = n) {q : Quiet} {x : SlD} {l : List α} {a : Addr} (ha : x.1 = some a) (hF : ∀ F, Holds q.Γ F → (Sl n f x l).p F)
    {e : TypeId} {k : Nat} {y : α} (hy : l[k]? = some y) (hs : shapeOf P e = some (true, n)) : QVal P q (ldS e (.pointer (some (a.add (k * n))))) (.agg (f y).toArray) := by
  intro K hK _ w hw
  obtain ⟨a', cs', T0', g1, g2, g3, g4⟩ := Sl.elem hf (hF K hK) hy
  rw [ha] at g1; cases g1
  obtain ⟨x1, x2, x3⟩ := addr_add a g2 (k * n)
  exact run_ldA (vs := f y) (by rw [hf]; exact hs) (hw _ _ (x1 ▸ g3)) x3 (by rw [x2, hf]; exact g4)
theorem loc_idx {α : Type} {n : Nat} {f : α → List Value} {L : Own} {Γ : List Fact} {x : SlD} {l : List α} {a : Addr} (ha : x.1 = some a) (hF : ∀ F, Holds Γ F → (Sl n f x l).p F)
    {t : TypeId} (ht : slN P t = some n) {i : Int} (k : Nat) (hi : i = k) (hk : k < l.length) :
    Loc P (idxAS t (.slice x.1 x.2.1 x.2.2) (.int .i64 i)) tA L Γ fun y L' Γ' => y = a.add (k * n) ∧ L' = L ∧ Γ' = Γ :=
  Loc.val fun r w F H hΓ hsp => ⟨a.add (k * n), w, L, Γ, F, .inl (by
    have hl := (hF F hΓ).1
    rw [ha, run_idxA ht (by omega) (by omega)]
    rw [hi]; rfl), Heap.le.refl F, hΓ, hsp, rfl, rfl, rfl⟩
theorem loc_elemA {α : Type} {f : α → List Value} {bs : List B} {L : Own} {Γ : List Fact} {x : SlD} {l : List α} {a : Addr} (hf : ∀ x, (f x).length = bs.length) (ha : x.1 = some a) (hF : ∀ F, Holds Γ F → (Sl bs.length f x l).p F)
    {e : TypeId} {k : Nat} {y : α} (hy : l[k]? = some y) (hs : shapeOf P e = some (true, bs.length)) (z : HB bs) (hz : f y = HB.enc bs z) :
    Loc P (ldS e (.pointer (some (a.add (k * bs.length))))) (.c (.agg bs)) L Γ fun y L' Γ' => z = y ∧ L' = L ∧ Γ' = Γ :=
  Loc.val fun r w F H hΓ hsp => by
    obtain ⟨a', cs', T0', g1, g2, g3, g4⟩ := Sl.elem hf (hF F hΓ) hy
    rw [ha] at g1; cases g1
    obtain ⟨x1, x2, x3⟩ := addr_add a g2 (k * bs.length)
    refine ⟨z, w, L, Γ, F, .inl ?_, Heap.le.refl F, hΓ, hsp, rfl, rfl, rfl⟩
    have := run_ldA (P := P) (w := w) (T := e) (vs := f y) (by rw [hf]; exact hs) (by rw [x1]; exact (hsp.frz _ _ g3).1) x3 (by rw [x2, hf]; exact g4)
    rw [hz] at this; exact this
theorem loc_elem1 {α : Type} {f : α → List Value} {b : B} {L : Own} {Γ : List Fact} {x : SlD} {l : List α} {a : Addr} (hf : ∀ x, (f x).length = 1) (ha : x.1 = some a) (hF : ∀ F, Holds Γ F → (Sl 1 f x l).p F)
    {e : TypeId} {k : Nat} {y : α} (hy : l[k]? = some y) (hs : isOne P e = some true) (z : b.den) (hz : f y = [b.enc z]) :
    Loc P (ldS e (.pointer (some (a.add (k * 1))))) (.c (.b b)) L Γ fun y L' Γ' => z = y ∧ L' = L ∧ Γ' = Γ :=
  Loc.val fun r w F H hΓ hsp => by
    obtain ⟨a', cs', T0', g1, g2, g3, g4⟩ := Sl.elem hf (hF F hΓ) hy
    rw [ha] at g1; cases g1
    obtain ⟨x1, x2, x3⟩ := addr_add a g2 (k * 1)
    refine ⟨z, w, L, Γ, F, .inl ?_, Heap.le.refl F, hΓ, hsp, rfl, rfl, rfl⟩
    refine run_ld1 (T0 := T0') (l := cs') hs (by rw [x1]; exact (hsp.frz _ _ g3).1) x3 ?_
    rw [x2]
    have : ((cs'.drop (a.off + k * 1)).take 1)[0]? = some (b.enc z) := by rw [g4, hz]; rfl
    rw [List.getElem?_take, List.getElem?_drop] at this
    show cs'[a.off + k * 1]? = some (b.enc z)
    simpa using this
end
end Go.Proofs.YtjlgcpgjdgeejaaGreatDoor
end

/- Names for constants, types and functions of the program. Conditions: none. By program. -/
section
namespace Go.Proofs.YtjlgcpgjdgeejaaGreatDoor
open Go
abbrev k_gt : ByteArray := ⟨#[62]⟩
abbrev k_comma : ByteArray := ⟨#[44]⟩
abbrev k_lp : ByteArray := ⟨#[40]⟩
abbrev k_lb : ByteArray := ⟨#[91]⟩
abbrev k_lc : ByteArray := ⟨#[123]⟩
abbrev k_rp : ByteArray := ⟨#[41]⟩
abbrev k_rb : ByteArray := ⟨#[93]⟩
abbrev k_rc : ByteArray := ⟨#[125]⟩
abbrev k_eq_gt : ByteArray := ⟨#[61, 62]⟩
abbrev k_lt : ByteArray := ⟨#[60]⟩
abbrev k_eq : ByteArray := ⟨#[61]⟩
abbrev k_plus_eq : ByteArray := ⟨#[43, 61]⟩
abbrev k_minus_eq : ByteArray := ⟨#[45, 61]⟩
abbrev k_star_eq : ByteArray := ⟨#[42, 61]⟩
abbrev k_pct_eq : ByteArray := ⟨#[37, 61]⟩
abbrev k_quest : ByteArray := ⟨#[63]⟩
abbrev k_colon : ByteArray := ⟨#[58]⟩
abbrev k_bar_bar : ByteArray := ⟨#[124, 124]⟩
abbrev k_amp_amp : ByteArray := ⟨#[38, 38]⟩
abbrev k_bar : ByteArray := ⟨#[124]⟩
abbrev k_caret : ByteArray := ⟨#[94]⟩
abbrev k_amp : ByteArray := ⟨#[38]⟩
abbrev k_eq_eq_eq : ByteArray := ⟨#[61, 61, 61]⟩
abbrev k_bang_eq_eq : ByteArray := ⟨#[33, 61, 61]⟩
abbrev k_lt_eq : ByteArray := ⟨#[60, 61]⟩
abbrev k_gt_eq : ByteArray := ⟨#[62, 61]⟩
abbrev kin : ByteArray := ⟨#[105, 110]⟩
abbrev kas : ByteArray := ⟨#[97, 115]⟩
abbrev k_lt_lt : ByteArray := ⟨#[60, 60]⟩
abbrev k_gt_gt : ByteArray := ⟨#[62, 62]⟩
abbrev k_gt_gt_gt : ByteArray := ⟨#[62, 62, 62]⟩
abbrev k_plus : ByteArray := ⟨#[43]⟩
abbrev k_minus : ByteArray := ⟨#[45]⟩
abbrev k_star : ByteArray := ⟨#[42]⟩
abbrev k_pct : ByteArray := ⟨#[37]⟩
abbrev k_bang : ByteArray := ⟨#[33]⟩
abbrev k_tilde : ByteArray := ⟨#[126]⟩
abbrev ktypeof : ByteArray := ⟨#[116, 121, 112, 101, 111, 102]⟩
abbrev k_dot : ByteArray := ⟨#[46]⟩
abbrev ktrue : ByteArray := ⟨#[116, 114, 117, 101]⟩
abbrev kfalse : ByteArray := ⟨#[102, 97, 108, 115, 101]⟩
abbrev knull : ByteArray := ⟨#[110, 117, 108, 108]⟩
abbrev kundefined : ByteArray := ⟨#[117, 110, 100, 101, 102, 105, 110, 101, 100]⟩
abbrev kthis : ByteArray := ⟨#[116, 104, 105, 115]⟩
abbrev knew : ByteArray := ⟨#[110, 101, 119]⟩
abbrev ksuper : ByteArray := ⟨#[115, 117, 112, 101, 114]⟩
abbrev k_semi : ByteArray := ⟨#[59]⟩
abbrev kif : ByteArray := ⟨#[105, 102]⟩
abbrev kwhile : ByteArray := ⟨#[119, 104, 105, 108, 101]⟩
abbrev kfor : ByteArray := ⟨#[102, 111, 114]⟩
abbrev kreturn : ByteArray := ⟨#[114, 101, 116, 117, 114, 110]⟩
abbrev kthrow : ByteArray := ⟨#[116, 104, 114, 111, 119]⟩
abbrev kbreak : ByteArray := ⟨#[98, 114, 101, 97, 107]⟩
abbrev kcontinue : ByteArray := ⟨#[99, 111, 110, 116, 105, 110, 117, 101]⟩
abbrev ktry : ByteArray := ⟨#[116, 114, 121]⟩
abbrev kelse : ByteArray := ⟨#[101, 108, 115, 101]⟩
abbrev klet : ByteArray := ⟨#[108, 101, 116]⟩
abbrev kof : ByteArray := ⟨#[111, 102]⟩
abbrev kconst : ByteArray := ⟨#[99, 111, 110, 115, 116]⟩
abbrev kcatch : ByteArray := ⟨#[99, 97, 116, 99, 104]⟩
abbrev kfinally : ByteArray := ⟨#[102, 105, 110, 97, 108, 108, 121]⟩
abbrev kenum : ByteArray := ⟨#[101, 110, 117, 109]⟩
abbrev kfunction : ByteArray := ⟨#[102, 117, 110, 99, 116, 105, 111, 110]⟩
abbrev kclass : ByteArray := ⟨#[99, 108, 97, 115, 115]⟩
abbrev knamespace : ByteArray := ⟨#[110, 97, 109, 101, 115, 112, 97, 99, 101]⟩
abbrev kinterface : ByteArray := ⟨#[105, 110, 116, 101, 114, 102, 97, 99, 101]⟩
abbrev kextends : ByteArray := ⟨#[101, 120, 116, 101, 110, 100, 115]⟩
abbrev ktype : ByteArray := ⟨#[116, 121, 112, 101]⟩
abbrev kimplements : ByteArray := ⟨#[105, 109, 112, 108, 101, 109, 101, 110, 116, 115]⟩
abbrev kconstructor : ByteArray := ⟨#[99, 111, 110, 115, 116, 114, 117, 99, 116, 111, 114]⟩
abbrev kreadonly : ByteArray := ⟨#[114, 101, 97, 100, 111, 110, 108, 121]⟩
abbrev kexport : ByteArray := ⟨#[101, 120, 112, 111, 114, 116]⟩
abbrev kpublic : ByteArray := ⟨#[112, 117, 98, 108, 105, 99]⟩
abbrev k_sp : ByteArray := ⟨#[32]⟩
abbrev kLong74 : ByteArray := ⟨#[32, 98, 114, 101, 97, 107, 32, 99, 97, 116, 99, 104, 32, 99, 108, 97, 115, 115, 32, 99, 111, 110, 115, 116, 32, 99, 111, 110, 115, 116, 114, 117, 99, 116, 111, 114, 32, 99, 111, 110, 116, 105, 110, 117, 101, 32, 101, 108, 115, 101, 32, 101, 110, 117, 109, 32, 101, 120, 112, 111, 114, 116, 32, 101, 120, 116, 101, 110, 100, 115, 32, 102, 97, 108, 115, 101, 32, 102, 105, 110, 97, 108, 108, 121, 32, 102, 111, 114, 32, 102, 117, 110, 99, 116, 105, 111, 110, 32, 105, 102, 32, 105, 109, 112, 108, 101, 109, 101, 110, 116, 115, 32, 105, 110, 32, 105, 110, 116, 101, 114, 102, 97, 99, 101, 32, 108, 101, 116, 32, 110, 97, 109, 101, 115, 112, 97, 99, 101, 32, 110, 101, 119, 32, 110, 117, 108, 108, 32, 111, 102, 32, 112, 117, 98, 108, 105, 99, 32, 114, 101, 97, 100, 111, 110, 108, 121, 32, 114, 101, 116, 117, 114, 110, 32, 115, 117, 112, 101, 114, 32, 116, 104, 105, 115, 32, 116, 104, 114, 111, 119, 32, 116, 114, 117, 101, 32, 116, 114, 121, 32, 116, 121, 112, 101, 32, 116, 121, 112, 101, 111, 102, 32, 117, 110, 100, 101, 102, 105, 110, 101, 100, 32, 119, 104, 105, 108, 101, 32, 97, 115, 32]⟩
abbrev k_sp_tab_nl_cr : ByteArray := ⟨#[32, 9, 10, 13]⟩
abbrev k_sl_sl : ByteArray := ⟨#[47, 47]⟩
abbrev k_sl_star : ByteArray := ⟨#[47, 42]⟩
abbrev k_star_sl : ByteArray := ⟨#[42, 47]⟩
abbrev kLong79 : ByteArray := ⟨#[32, 61, 61, 61, 32, 33, 61, 61, 32, 62, 62, 62, 32]⟩
abbrev kLong80 : ByteArray := ⟨#[32, 61, 62, 32, 43, 61, 32, 45, 61, 32, 42, 61, 32, 37, 61, 32, 60, 61, 32, 62, 61, 32, 60, 60, 32, 62, 62, 32, 38, 38, 32, 124, 124, 32]⟩
abbrev kLong81 : ByteArray := ⟨#[32, 123, 32, 125, 32, 40, 32, 41, 32, 91, 32, 93, 32, 46, 32, 44, 32, 59, 32, 58, 32, 63, 32, 61, 32, 43, 32, 45, 32, 42, 32, 37, 32, 33, 32, 126, 32, 60, 32, 62, 32, 38, 32, 124, 32, 94, 32]⟩
abbrev k_sp_tab_cr_nl : ByteArray := ⟨#[32, 9, 13, 10]⟩
abbrev kf_lp : ByteArray := ⟨#[102, 40]⟩
abbrev k_lc_a_colon_sp : ByteArray := ⟨#[123, 97, 58, 32]⟩
abbrev k1 : ByteArray := ⟨#[49]⟩
abbrev T_int : TypeId := 3
abbrev T_bool : TypeId := 4
abbrev T_uint8 : TypeId := 5
abbrev T_string : TypeId := 9
abbrev T_interface : TypeId := 20
abbrev T_Suint8 : TypeId := 22
abbrev T_Sapi_Node : TypeId := 24
abbrev T_api_Tree : TypeId := 26
abbrev T_api_Errno : TypeId := 27
abbrev T_Sint : TypeId := 37
abbrev T_api_Node : TypeId := 39
abbrev T_Sstring : TypeId := 40
abbrev T_Sapi_Token : TypeId := 43
abbrev T_api_Token : TypeId := 47
abbrev T_Psyntax_parser : TypeId := 113
abbrev T_syntax_parser : TypeId := 115
abbrev T_syntax_refused : TypeId := 117
abbrev T_Psyntax_node : TypeId := 118
abbrev T_SPsyntax_node : TypeId := 120
abbrev T_syntax_node : TypeId := 122
abbrev T_Sbool : TypeId := 132
abbrev T_scan_Scanner : TypeId := 134
abbrev T_syntax_place : TypeId := 151
abbrev T_Ssyntax_place : TypeId := 152
abbrev T_SSstring : TypeId := 160
abbrev T_A3string : TypeId := 167
abbrev F_law4_ParseBounds : FuncId := 8
abbrev F_parse_Program : FuncId := 16
abbrev F_law4_known : FuncId := 21
abbrev F_parse_Expr : FuncId := 22
abbrev F_lex_Tokens : FuncId := 26
abbrev F_parse_whole : FuncId := 33
abbrev F_lex_Scan : FuncId := 43
abbrev F_lex_Depth : FuncId := 49
abbrev F_syntax_Run : FuncId := 53
abbrev F_slices_Clone_byte_byte : FuncId := 69
abbrev F_lex_Scan_1 : FuncId := 70
abbrev F_scan_Begin : FuncId := 71
abbrev F_Scanner_Next : FuncId := 72
abbrev F_scan_Turn : FuncId := 81
abbrev F_syntax_made : FuncId := 84
abbrev F_parser_now : FuncId := 85
abbrev F_parser_statement : FuncId := 86
abbrev F_parser_expr : FuncId := 87
abbrev F_parser_typed : FuncId := 88
abbrev F_parser_fail : FuncId := 89
abbrev F_syntax_laid : FuncId := 90
abbrev F_Scanner_blanks : FuncId := 106
abbrev F_scan_Letter : FuncId := 107
abbrev F_Scanner_word : FuncId := 108
abbrev F_scan_Digit : FuncId := 109
abbrev F_Scanner_number : FuncId := 110
abbrev F_Scanner_quoted : FuncId := 111
abbrev F_Scanner_piece : FuncId := 112
abbrev F_Scanner_sign : FuncId := 113
abbrev F_parser_declaration : FuncId := 131
abbrev F_parser_is : FuncId := 132
abbrev F_parser_block : FuncId := 133
abbrev F_parser_take : FuncId := 134
abbrev F_parser_branch : FuncId := 135
abbrev F_parser_round : FuncId := 136
abbrev F_parser_loop : FuncId := 137
abbrev F_parser_ended : FuncId := 138
abbrev F_parser_must : FuncId := 139
abbrev F_parser_try : FuncId := 140
abbrev F_parser_arrow : FuncId := 141
abbrev F_parser_arrowed : FuncId := 142
abbrev F_parser_cond : FuncId := 143
abbrev F_parser_rows : FuncId := 144
abbrev F_strings_IndexByte : FuncId := 161
abbrev F_Scanner_has : FuncId := 162
abbrev F_strings_Index : FuncId := 163
abbrev F_Scanner_cut : FuncId := 164
abbrev F_scan_Reserved : FuncId := 165
abbrev F_strings_ContainsAny : FuncId := 167
abbrev F_strings_Contains : FuncId := 168
abbrev F_syntax_says : FuncId := 176
abbrev F_parser_then : FuncId := 177
abbrev F_parser_next : FuncId := 178
abbrev F_parser_enum : FuncId := 179
abbrev F_parser_variable : FuncId := 180
abbrev F_parser_function : FuncId := 181
abbrev F_parser_class : FuncId := 182
abbrev F_parser_namespace : FuncId := 183
abbrev F_parser_name : FuncId := 184
abbrev F_parser_vars : FuncId := 185
abbrev F_parser_refs : FuncId := 186
abbrev F_parser_objectType : FuncId := 187
abbrev F_parser_none : FuncId := 188
abbrev F_parser_loop_1 : FuncId := 189
abbrev F_parser_closed : FuncId := 190
abbrev F_parser_empty : FuncId := 191
abbrev F_parser_params : FuncId := 192
abbrev F_parser_level : FuncId := 193
abbrev F_parser_plain : FuncId := 194
abbrev F_parser_optional : FuncId := 214
abbrev F_parser_args : FuncId := 215
abbrev F_parser_part : FuncId := 216
abbrev F_parser_list : FuncId := 217
abbrev F_parser_vars_1 : FuncId := 218
abbrev F_parser_angle : FuncId := 219
abbrev F_parser_ref : FuncId := 220
abbrev F_parser_piece : FuncId := 221
abbrev F_parser_params_1 : FuncId := 222
abbrev F_syntax_signs : FuncId := 223
abbrev F_parser_unary : FuncId := 224
abbrev F_parser_arrowType : FuncId := 225
abbrev F_syntax_number : FuncId := 226
abbrev F_lex_Split : FuncId := 243
abbrev F_parser_postfix : FuncId := 244
abbrev F_strconv_Atoi : FuncId := 245
abbrev F_parser_primary : FuncId := 257
abbrev F_parser_calls : FuncId := 258
abbrev F_parser_given : FuncId := 259
abbrev F_parser_template : FuncId := 263
abbrev F_parser_worded : FuncId := 264
abbrev F_parser_object : FuncId := 265
abbrev F_syntax_words : FuncId := 272
end Go.Proofs.YtjlgcpgjdgeejaaGreatDoor
end

/- The trees of functions of the program, each with the proof that it is the tree of the translated code. Conditions: none. By program. -/
section
namespace Go.Proofs.YtjlgcpgjdgeejaaGreatDoor
open Go
set_option linter.unusedVariables false
set_option maxRecDepth 100000
noncomputable section
def an_parser_now : An :=
  .s (.r [some tA]) (.s (.s (.r [none, none, none, some tB]) (.c (.s (.r [none, none, none, some (.c (.agg [.int .i64, .str, .int .i64, .int .i64])), some tU]) (.x)) (.x))) (.s (.d (.q 0 none (.q 1 none (.q 2 none (.q 3 (some tSl) (.q 4 none (.q 5 none (.q 6 none (.q 7 (some tI) (.q 8 none (.q 9 none (.q 10 none (.q 11 (some tSl) (.q 12 none (.q 13 none (.q 14 none (.q 15 (some tA) (.q 16 (some (.c (.agg [.int .i64, .str, .int .i64, .int .i64]))) (.l 17 (some tU) (.e)))))))))))))))))))) (.x)))
def t_parser_now (a0_p : Addr) : T :=
 .op (allocS T_api_Token) tA fun r1 =>
 .op (ldS T_bool (.pointer (some ⟨a0_p.block, a0_p.off + 6, none⟩))) tB fun r2 =>
 .ite r2 (
 .op (ldS T_api_Token (.pointer (some ⟨a0_p.block, a0_p.off + 2, none⟩))) (.c (.agg [.int .i64, .str, .int .i64, .int .i64])) fun r3 =>
 .op (stS T_api_Token (.pointer (some r1)) (.agg #[.int .i64 r3.1, .string r3.2.1, .int .i64 r3.2.2.1, .int .i64 r3.2.2.2.1])) tU fun _ =>
 .ret #[.c (.pointer (some r1)) T_api_Token]) (
 .draw <|
 .opq (ldS T_Sapi_Token (.pointer (some a0_p))) tSl fun r5 =>
 .opq (ldS T_int (.pointer (some ⟨a0_p.block, a0_p.off + 1, none⟩))) tI fun r6 =>
 .opq (ldS T_Sapi_Token (.pointer (some a0_p))) tSl fun r7 =>
 .opq (idxAS T_Sapi_Token (.slice r5.1 r5.2.1 r5.2.2) (.int .i64 (if (IntKind.i64.wrap ((r7.2.1 : Int) - 1) : Int) < r6 then IntKind.i64.wrap ((r7.2.1 : Int) - 1) else r6))) tA fun r8 =>
 .opq (ldS T_api_Token (.pointer (some r8))) (.c (.agg [.int .i64, .str, .int .i64, .int .i64])) fun r9 =>
 .op (stS T_api_Token (.pointer (some r1)) (.agg #[.int .i64 r9.1, .string r9.2.1, .int .i64 r9.2.2.1, .int .i64 r9.2.2.2.1])) tU fun _ =>
 .ret #[.c (.pointer (some r1)) T_api_Token])
theorem d_parser_now (a0_p : Addr) : fnT Tryz.prog Tryz.f85 an_parser_now [.pointer (some a0_p)] = t_parser_now a0_p := by kernel_rfl
theorem c_parser_now {ε σ β : Type} {I : Ifc ε σ} {t : Ty} {s : Sp ε σ β} {Rel : β → t.den → Own → Fact} {Γ : List Fact} (a0_p : Addr) (h : Sim Tryz.prog I t Rel noLabel none (t_parser_now a0_p) s [] Γ) : MeetsO Tryz.prog I (callS F_parser_now #[.pointer (some a0_p)]) t s Rel Γ :=
  meets_of_sim (args := [.pointer (some a0_p)]) Tryz.func85 rfl rfl (Nat.le_of_ble_eq_true rfl) (by rw [d_parser_now]; exact h)

def an_parser_then : An :=
  .s (.r [some tA]) (.s (.s (.r [none, none]) (.c (.s (.r [none, some (.c (.agg [.int .i64, .str, .int .i64, .int .i64])), some tU]) (.x)) (.x))) (.s (.d (.q 0 none (.q 1 none (.q 2 none (.q 3 (some tSl) (.q 4 none (.q 5 none (.q 6 none (.q 7 (some tI) (.q 8 none (.q 9 none (.q 10 none (.q 11 none (.q 12 none (.q 13 (some tSl) (.q 14 none (.q 15 none (.q 16 none (.q 17 (some tA) (.q 18 (some (.c (.agg [.int .i64, .str, .int .i64, .int .i64]))) (.l 19 (some tU) (.e)))))))))))))))))))))) (.x)))
def t_parser_then (a0_p : Addr) (a1_n : Int) : T :=
 .op (allocS T_api_Token) tA fun r1 =>
 .ite ((a1_n : Int) == 0) (
 .op (callS F_parser_now #[.pointer (some a0_p)]) (.c (.agg [.int .i64, .str, .int .i64, .int .i64])) fun r2 =>
 .op (stS T_api_Token (.pointer (some r1)) (.agg #[.int .i64 r2.1, .string r2.2.1, .int .i64 r2.2.2.1, .int .i64 r2.2.2.2.1])) tU fun _ =>
 .ret #[.c (.pointer (some r1)) T_api_Token]) (
 .draw <|
 .opq (ldS T_Sapi_Token (.pointer (some a0_p))) tSl fun r4 =>
 .opq (ldS T_int (.pointer (some ⟨a0_p.block, a0_p.off + 1, none⟩))) tI fun r5 =>
 .opq (ldS T_Sapi_Token (.pointer (some a0_p))) tSl fun r6 =>
 .opq (idxAS T_Sapi_Token (.slice r4.1 r4.2.1 r4.2.2) (.int .i64 (if (IntKind.i64.wrap ((r6.2.1 : Int) - 1) : Int) < (IntKind.i64.wrap (r5 + a1_n)) then IntKind.i64.wrap ((r6.2.1 : Int) - 1) else IntKind.i64.wrap (r5 + a1_n)))) tA fun r7 =>
 .opq (ldS T_api_Token (.pointer (some r7))) (.c (.agg [.int .i64, .str, .int .i64, .int .i64])) fun r8 =>
 .op (stS T_api_Token (.pointer (some r1)) (.agg #[.int .i64 r8.1, .string r8.2.1, .int .i64 r8.2.2.1, .int .i64 r8.2.2.2.1])) tU fun _ =>
 .ret #[.c (.pointer (some r1)) T_api_Token])
theorem d_parser_then (a0_p : Addr) (a1_n : Int) : fnT Tryz.prog Tryz.f177 an_parser_then [.pointer (some a0_p), .int .i64 a1_n] = t_parser_then a0_p a1_n := by kernel_rfl
theorem c_parser_then {ε σ β : Type} {I : Ifc ε σ} {t : Ty} {s : Sp ε σ β} {Rel : β → t.den → Own → Fact} {Γ : List Fact} (a0_p : Addr) (a1_n : Int) (h : Sim Tryz.prog I t Rel noLabel none (t_parser_then a0_p a1_n) s [] Γ) : MeetsO Tryz.prog I (callS F_parser_then #[.pointer (some a0_p), .int .i64 a1_n]) t s Rel Γ :=
  meets_of_sim (args := [.pointer (some a0_p), .int .i64 a1_n]) Tryz.func177 rfl rfl (Nat.le_of_ble_eq_true rfl) (by rw [d_parser_then]; exact h)

def an_parser_fail : An :=
  .r [none, some (.c (.agg [.int .i64, .str, .int .i64, .int .i64])), none, none, none, some tU]
def t_parser_fail (a0_p : Addr) : T :=
 .op (callS F_parser_now #[.pointer (some a0_p)]) (.c (.agg [.int .i64, .str, .int .i64, .int .i64])) fun r1 =>
 .op (panicS (.iface T_syntax_refused (.agg #[.int .i64 r1.2.2.1]))) tU fun _ =>
 .ret #[]
theorem d_parser_fail (a0_p : Addr) : fnT Tryz.prog Tryz.f89 an_parser_fail [.pointer (some a0_p)] = t_parser_fail a0_p := by kernel_rfl
theorem c_parser_fail {ε σ β : Type} {I : Ifc ε σ} {t : Ty} {s : Sp ε σ β} {Rel : β → t.den → Own → Fact} {Γ : List Fact} (a0_p : Addr) (h : Sim Tryz.prog I t Rel noLabel none (t_parser_fail a0_p) s [] Γ) : MeetsO Tryz.prog I (callS F_parser_fail #[.pointer (some a0_p)]) t s Rel Γ :=
  meets_of_sim (args := [.pointer (some a0_p)]) Tryz.func89 rfl rfl (Nat.le_of_ble_eq_true rfl) (by rw [d_parser_fail]; exact h)

def an_parser_next : An :=
  .s (.r [some tA]) (.s (.r [none, some (.c (.agg [.int .i64, .str, .int .i64, .int .i64])), some tA, some tU]) (.s (.r [none, none, none, some tU]) (.s (.d (.q 0 none (.q 1 none (.q 2 none (.q 3 none (.q 4 (some tI) (.q 5 none (.q 6 none (.q 7 none (.q 8 none (.q 9 (some tSl) (.q 10 none (.q 11 none (.q 12 none (.q 13 none (.q 14 none (.l 15 (some tU) (.e)))))))))))))))))) (.s (.r [some (.c (.agg [.int .i64, .str, .int .i64, .int .i64])), some tU]) (.x)))))
def t_parser_next (a0_p : Addr) : T :=
 .op (allocS T_api_Token) tA fun r1 =>
 .op (callS F_parser_now #[.pointer (some a0_p)]) (.c (.agg [.int .i64, .str, .int .i64, .int .i64])) fun r2 =>
 .op (allocS T_api_Token) tA fun r3 =>
 .op (stS T_api_Token (.pointer (some r3)) (.agg #[.int .i64 r2.1, .string r2.2.1, .int .i64 r2.2.2.1, .int .i64 r2.2.2.2.1])) tU fun _ =>
 .op (stS T_bool (.pointer (some ⟨a0_p.block, a0_p.off + 6, none⟩)) (.bool false)) tU fun _ =>
 .draw <|
 .opq (ldS T_int (.pointer (some ⟨a0_p.block, a0_p.off + 1, none⟩))) tI fun r6 =>
 .opq (ldS T_Sapi_Token (.pointer (some a0_p))) tSl fun r7 =>
 .op (stS T_int (.pointer (some ⟨a0_p.block, a0_p.off + 1, none⟩)) (.int .i64 (if (IntKind.i64.wrap ((r7.2.1 : Int) - 1) : Int) < (IntKind.i64.wrap (r6 + 1)) then IntKind.i64.wrap ((r7.2.1 : Int) - 1) else IntKind.i64.wrap (r6 + 1)))) tU fun _ =>
 .op (ldS T_api_Token (.pointer (some r3))) (.c (.agg [.int .i64, .str, .int .i64, .int .i64])) fun r9 =>
 .op (stS T_api_Token (.pointer (some r1)) (.agg #[.int .i64 r9.1, .string r9.2.1, .int .i64 r9.2.2.1, .int .i64 r9.2.2.2.1])) tU fun _ =>
 .ret #[.c (.pointer (some r1)) T_api_Token]
theorem d_parser_next (a0_p : Addr) : fnT Tryz.prog Tryz.f178 an_parser_next [.pointer (some a0_p)] = t_parser_next a0_p := by kernel_rfl
theorem c_parser_next {ε σ β : Type} {I : Ifc ε σ} {t : Ty} {s : Sp ε σ β} {Rel : β → t.den → Own → Fact} {Γ : List Fact} (a0_p : Addr) (h : Sim Tryz.prog I t Rel noLabel none (t_parser_next a0_p) s [] Γ) : MeetsO Tryz.prog I (callS F_parser_next #[.pointer (some a0_p)]) t s Rel Γ :=
  meets_of_sim (args := [.pointer (some a0_p)]) Tryz.func178 rfl rfl (Nat.le_of_ble_eq_true rfl) (by rw [d_parser_next]; exact h)

def an_syntax_says : An :=
  .s (.r [some tA, none]) (.s (.r [none, some tI, none, none, none, some tI, none, none, none, none, some tS, none, none, none, none]) (.x))
def t_syntax_says (a0_t : HB [.int .i64, .str, .int .i64, .int .i64]) (a1_s : ByteArray) : T :=
 .op (boxS T_api_Token (.agg #[.int .i64 a0_t.1, .string a0_t.2.1, .int .i64 a0_t.2.2.1, .int .i64 a0_t.2.2.2.1])) tA fun r1 =>
 .op (ldS T_int (.pointer (some r1))) tI fun r2 =>
 .ite ((r2 : Int) == 9) (
 .op (ldS T_string (.pointer (some ⟨r1.block, r1.off + 1, none⟩))) tS fun r3 =>
 .ret #[.v (.bool (r3.toList == a1_s.toList))]) (
 .op (ldS T_int (.pointer (some r1))) tI fun r4 =>
 .ite ((r4 : Int) == 2) (
 .op (ldS T_string (.pointer (some ⟨r1.block, r1.off + 1, none⟩))) tS fun r5 =>
 .ret #[.v (.bool (r5.toList == a1_s.toList))]) (
 .ret #[.v (.bool false)]))
theorem d_syntax_says (a0_t : HB [.int .i64, .str, .int .i64, .int .i64]) (a1_s : ByteArray) : fnT Tryz.prog Tryz.f176 an_syntax_says [.agg #[.int .i64 a0_t.1, .string a0_t.2.1, .int .i64 a0_t.2.2.1, .int .i64 a0_t.2.2.2.1], .string a1_s] = t_syntax_says a0_t a1_s := by kernel_rfl
theorem c_syntax_says {ε σ β : Type} {I : Ifc ε σ} {t : Ty} {s : Sp ε σ β} {Rel : β → t.den → Own → Fact} {Γ : List Fact} (a0_t : HB [.int .i64, .str, .int .i64, .int .i64]) (a1_s : ByteArray) (h : Sim Tryz.prog I t Rel noLabel none (t_syntax_says a0_t a1_s) s [] Γ) : MeetsO Tryz.prog I (callS F_syntax_says #[.agg #[.int .i64 a0_t.1, .string a0_t.2.1, .int .i64 a0_t.2.2.1, .int .i64 a0_t.2.2.2.1], .string a1_s]) t s Rel Γ :=
  meets_of_sim (args := [.agg #[.int .i64 a0_t.1, .string a0_t.2.1, .int .i64 a0_t.2.2.1, .int .i64 a0_t.2.2.2.1], .string a1_s]) Tryz.func176 rfl rfl (Nat.le_of_ble_eq_true rfl) (by rw [d_syntax_says]; exact h)

def an_parser_is : An :=
  .s (.r [none]) (.s (.r [none, some (.c (.agg [.int .i64, .str, .int .i64, .int .i64])), none, some tB, none]) (.x))
def t_parser_is (a0_p : Addr) (a1_s : ByteArray) : T :=
 .op (callS F_parser_now #[.pointer (some a0_p)]) (.c (.agg [.int .i64, .str, .int .i64, .int .i64])) fun r1 =>
 .op (callS F_syntax_says #[.agg #[.int .i64 r1.1, .string r1.2.1, .int .i64 r1.2.2.1, .int .i64 r1.2.2.2.1], .string a1_s]) tB fun r2 =>
 .ret #[.v (.bool r2)]
theorem d_parser_is (a0_p : Addr) (a1_s : ByteArray) : fnT Tryz.prog Tryz.f132 an_parser_is [.pointer (some a0_p), .string a1_s] = t_parser_is a0_p a1_s := by kernel_rfl
theorem c_parser_is {ε σ β : Type} {I : Ifc ε σ} {t : Ty} {s : Sp ε σ β} {Rel : β → t.den → Own → Fact} {Γ : List Fact} (a0_p : Addr) (a1_s : ByteArray) (h : Sim Tryz.prog I t Rel noLabel none (t_parser_is a0_p a1_s) s [] Γ) : MeetsO Tryz.prog I (callS F_parser_is #[.pointer (some a0_p), .string a1_s]) t s Rel Γ :=
  meets_of_sim (args := [.pointer (some a0_p), .string a1_s]) Tryz.func132 rfl rfl (Nat.le_of_ble_eq_true rfl) (by rw [d_parser_is]; exact h)

def an_parser_take : An :=
  .s (.r [none]) (.s (.s (.r [none, none, some tB, none]) (.c (.s (.r [none]) (.x)) (.x))) (.s (.r [none, some (.c (.agg [.int .i64, .str, .int .i64, .int .i64]))]) (.s (.r [none]) (.x))))
def t_parser_take (a0_p : Addr) (a1_s : ByteArray) : T :=
 .op (callS F_parser_is #[.pointer (some a0_p), .string a1_s]) tB fun r1 =>
 .ite (!r1) (
 .ret #[.v (.bool false)]) (
 .op (callS F_parser_next #[.pointer (some a0_p)]) (.c (.agg [.int .i64, .str, .int .i64, .int .i64])) fun r2 =>
 .ret #[.v (.bool true)])
theorem d_parser_take (a0_p : Addr) (a1_s : ByteArray) : fnT Tryz.prog Tryz.f134 an_parser_take [.pointer (some a0_p), .string a1_s] = t_parser_take a0_p a1_s := by kernel_rfl
theorem c_parser_take {ε σ β : Type} {I : Ifc ε σ} {t : Ty} {s : Sp ε σ β} {Rel : β → t.den → Own → Fact} {Γ : List Fact} (a0_p : Addr) (a1_s : ByteArray) (h : Sim Tryz.prog I t Rel noLabel none (t_parser_take a0_p a1_s) s [] Γ) : MeetsO Tryz.prog I (callS F_parser_take #[.pointer (some a0_p), .string a1_s]) t s Rel Γ :=
  meets_of_sim (args := [.pointer (some a0_p), .string a1_s]) Tryz.func134 rfl rfl (Nat.le_of_ble_eq_true rfl) (by rw [d_parser_take]; exact h)

def an_parser_must : An :=
  .s (.r [none, none, some tB, none]) (.c (.r [none, some tU]) (.x))
def t_parser_must (a0_p : Addr) (a1_s : ByteArray) : T :=
 .op (callS F_parser_take #[.pointer (some a0_p), .string a1_s]) tB fun r1 =>
 .ite (!r1) (
 .op (callS F_parser_fail #[.pointer (some a0_p)]) tU fun _ =>
 .ret #[]) (
 .ret #[])
theorem d_parser_must (a0_p : Addr) (a1_s : ByteArray) : fnT Tryz.prog Tryz.f139 an_parser_must [.pointer (some a0_p), .string a1_s] = t_parser_must a0_p a1_s := by kernel_rfl
theorem c_parser_must {ε σ β : Type} {I : Ifc ε σ} {t : Ty} {s : Sp ε σ β} {Rel : β → t.den → Own → Fact} {Γ : List Fact} (a0_p : Addr) (a1_s : ByteArray) (h : Sim Tryz.prog I t Rel noLabel none (t_parser_must a0_p a1_s) s [] Γ) : MeetsO Tryz.prog I (callS F_parser_must #[.pointer (some a0_p), .string a1_s]) t s Rel Γ :=
  meets_of_sim (args := [.pointer (some a0_p), .string a1_s]) Tryz.func139 rfl rfl (Nat.le_of_ble_eq_true rfl) (by rw [d_parser_must]; exact h)

def an_parser_name : An :=
  .s (.r [none]) (.s (.s (.r [none, some (.c (.agg [.int .i64, .str, .int .i64, .int .i64])), none, none]) (.c (.r [none, some tU]) (.x))) (.s (.r [none, some (.c (.agg [.int .i64, .str, .int .i64, .int .i64])), none, none]) (.x)))
def t_parser_name (a0_p : Addr) : T :=
 .op (callS F_parser_now #[.pointer (some a0_p)]) (.c (.agg [.int .i64, .str, .int .i64, .int .i64])) fun r1 =>
 .ite ((r1.1 : Int) != 1) (
 .op (callS F_parser_fail #[.pointer (some a0_p)]) tU fun _ =>
 .op (callS F_parser_next #[.pointer (some a0_p)]) (.c (.agg [.int .i64, .str, .int .i64, .int .i64])) fun r3 =>
 .ret #[.v (.string r3.2.1)]) (
 .op (callS F_parser_next #[.pointer (some a0_p)]) (.c (.agg [.int .i64, .str, .int .i64, .int .i64])) fun r4 =>
 .ret #[.v (.string r4.2.1)])
theorem d_parser_name (a0_p : Addr) : fnT Tryz.prog Tryz.f184 an_parser_name [.pointer (some a0_p)] = t_parser_name a0_p := by kernel_rfl
theorem c_parser_name {ε σ β : Type} {I : Ifc ε σ} {t : Ty} {s : Sp ε σ β} {Rel : β → t.den → Own → Fact} {Γ : List Fact} (a0_p : Addr) (h : Sim Tryz.prog I t Rel noLabel none (t_parser_name a0_p) s [] Γ) : MeetsO Tryz.prog I (callS F_parser_name #[.pointer (some a0_p)]) t s Rel Γ :=
  meets_of_sim (args := [.pointer (some a0_p)]) Tryz.func184 rfl rfl (Nat.le_of_ble_eq_true rfl) (by rw [d_parser_name]; exact h)

def an_lex_Split : An :=
  .s (.r [some tA, some tA, none]) (.s (.s (.j [(18, .b .bool)] (.r [none, some tI, none, none, none, some tS, none, none, none, none, none, some tS, some tU8, none, none])) (.c (.s (.r [none, some tU, none]) (.x)) (.x))) (.s (.d (.q 0 none (.q 3 none (.l2 1 (some tS) (.q 2 (some tS) (.l 4 (some tI) (.q 5 none (.q 6 none (.l 7 (some tU) (.q 8 none (.l 9 (some tU) (.e)))))))) 4 (some tI) (.q 5 none (.l 1 (some tS) (.q 2 (some tS) (.q 6 none (.l 7 (some tU) (.q 8 none (.l 9 (some tU) (.e)))))))))))) (.s (.r [some (.c (.agg [.int .i64, .str, .int .i64, .int .i64])), some tU, none]) (.x))))
def t_lex_Split (a0_t : HB [.int .i64, .str, .int .i64, .int .i64]) : T :=
 .op (boxS T_api_Token (.agg #[.int .i64 a0_t.1, .string a0_t.2.1, .int .i64 a0_t.2.2.1, .int .i64 a0_t.2.2.2.1])) tA fun r1 =>
 .op (allocS T_api_Token) tA fun r2 =>
 .join 0 [.b .bool] (
 .op (ldS T_int (.pointer (some r1))) tI fun r3 =>
 .ite ((r3 : Int) != 9) (
 .out 0 [.bool true]) (
 .op (ldS T_string (.pointer (some ⟨r1.block, r1.off + 1, none⟩))) tS fun r4 =>
 .ite (decide (((r4.size : Int) : Int) < 2)) (
 .out 0 [.bool true]) (
 .op (ldS T_string (.pointer (some ⟨r1.block, r1.off + 1, none⟩))) tS fun r5 =>
 .op (idxS T_string (.string r5) (.int .i64 0)) tU8 fun r6 =>
 .out 0 [.bool ((r6 : Int) != 62)]))) fun x7 =>
 .ite x7.1 (
 .op (stS T_api_Token (.pointer (some r2)) (.agg #[.int .i64 0, .string kE, .int .i64 0, .int .i64 0])) tU fun _ =>
 .ret #[.c (.pointer (some r2)) T_api_Token, .v (.bool false)]) (
 .draw <|
 .both (
 .opl (ldS T_string (.pointer (some ⟨r1.block, r1.off + 1, none⟩))) tS fun r9 =>
 .opq (subS T_string (.string r9) (some (.int .i64 1)) none none) tS fun r10 =>
 .opl (ldS T_int (.pointer (some ⟨r1.block, r1.off + 2, none⟩))) tI fun r11 =>
 .opl (stS T_string (.pointer (some ⟨r1.block, r1.off + 1, none⟩)) (.string r10)) tU fun _ =>
 .op (stS T_int (.pointer (some ⟨r1.block, r1.off + 2, none⟩)) (.int .i64 (IntKind.i64.wrap (r11 + 1)))) tU fun _ =>
 .op (ldS T_api_Token (.pointer (some r1))) (.c (.agg [.int .i64, .str, .int .i64, .int .i64])) fun r14 =>
 .op (stS T_api_Token (.pointer (some r2)) (.agg #[.int .i64 r14.1, .string r14.2.1, .int .i64 r14.2.2.1, .int .i64 r14.2.2.2.1])) tU fun _ =>
 .ret #[.c (.pointer (some r2)) T_api_Token, .v (.bool true)]) (
 .opl (ldS T_int (.pointer (some ⟨r1.block, r1.off + 2, none⟩))) tI fun r16 =>
 .opl (ldS T_string (.pointer (some ⟨r1.block, r1.off + 1, none⟩))) tS fun r17 =>
 .opq (subS T_string (.string r17) (some (.int .i64 1)) none none) tS fun r18 =>
 .opl (stS T_string (.pointer (some ⟨r1.block, r1.off + 1, none⟩)) (.string r18)) tU fun _ =>
 .op (stS T_int (.pointer (some ⟨r1.block, r1.off + 2, none⟩)) (.int .i64 (IntKind.i64.wrap (r16 + 1)))) tU fun _ =>
 .op (ldS T_api_Token (.pointer (some r1))) (.c (.agg [.int .i64, .str, .int .i64, .int .i64])) fun r21 =>
 .op (stS T_api_Token (.pointer (some r2)) (.agg #[.int .i64 r21.1, .string r21.2.1, .int .i64 r21.2.2.1, .int .i64 r21.2.2.2.1])) tU fun _ =>
 .ret #[.c (.pointer (some r2)) T_api_Token, .v (.bool true)]))
theorem d_lex_Split (a0_t : HB [.int .i64, .str, .int .i64, .int .i64]) : fnT Tryz.prog Tryz.f243 an_lex_Split [.agg #[.int .i64 a0_t.1, .string a0_t.2.1, .int .i64 a0_t.2.2.1, .int .i64 a0_t.2.2.2.1]] = t_lex_Split a0_t := by kernel_rfl
theorem c_lex_Split {ε σ β : Type} {I : Ifc ε σ} {t : Ty} {s : Sp ε σ β} {Rel : β → t.den → Own → Fact} {Γ : List Fact} (a0_t : HB [.int .i64, .str, .int .i64, .int .i64]) (h : Sim Tryz.prog I t Rel noLabel none (t_lex_Split a0_t) s [] Γ) : MeetsO Tryz.prog I (callS F_lex_Split #[.agg #[.int .i64 a0_t.1, .string a0_t.2.1, .int .i64 a0_t.2.2.1, .int .i64 a0_t.2.2.2.1]]) t s Rel Γ :=
  meets_of_sim (args := [.agg #[.int .i64 a0_t.1, .string a0_t.2.1, .int .i64 a0_t.2.2.1, .int .i64 a0_t.2.2.2.1]]) Tryz.func243 rfl rfl (Nat.le_of_ble_eq_true rfl) (by rw [d_lex_Split]; exact h)

def an_parser_angle : An :=
  .s (.s (.r [none, some tB]) (.c (.x) (.x))) (.s (.r [none, some (.c (.agg [.int .i64, .str, .int .i64, .int .i64])), some (.tup [.agg [.int .i64, .str, .int .i64, .int .i64], .b .bool]), none, none, none, some tA, some tU, none]) (.s (.s (.r [none, none]) (.j [] (.c (.r [none, some tU]) (.x)))) (.r [none, none, some (.c (.agg [.int .i64, .str, .int .i64, .int .i64])), none, none, some tU, none, none, some tU])))
def t_parser_angle (a0_p : Addr) : T :=
 .op (callS F_parser_take #[.pointer (some a0_p), .string k_gt]) tB fun r1 =>
 .ite r1 (
 .ret #[]) (
 .op (callS F_parser_now #[.pointer (some a0_p)]) (.c (.agg [.int .i64, .str, .int .i64, .int .i64])) fun r2 =>
 .op (callS F_lex_Split #[.agg #[.int .i64 r2.1, .string r2.2.1, .int .i64 r2.2.2.1, .int .i64 r2.2.2.2.1]]) (.tup [.agg [.int .i64, .str, .int .i64, .int .i64], .b .bool]) fun r3 =>
 .op (allocS T_api_Token) tA fun r4 =>
 .op (stS T_api_Token (.pointer (some r4)) (.agg #[.int .i64 r3.1.1, .string r3.1.2.1, .int .i64 r3.1.2.2.1, .int .i64 r3.1.2.2.2.1])) tU fun _ =>
 .join 0 [] (
 .ite (!r3.2.1) (
 .op (callS F_parser_fail #[.pointer (some a0_p)]) tU fun _ =>
 .out 0 []) (
 .out 0 [])) fun x7 =>
 .op (ldS T_api_Token (.pointer (some r4))) (.c (.agg [.int .i64, .str, .int .i64, .int .i64])) fun r8 =>
 .op (stS T_api_Token (.pointer (some ⟨a0_p.block, a0_p.off + 2, none⟩)) (.agg #[.int .i64 r8.1, .string r8.2.1, .int .i64 r8.2.2.1, .int .i64 r8.2.2.2.1])) tU fun _ =>
 .op (stS T_bool (.pointer (some ⟨a0_p.block, a0_p.off + 6, none⟩)) (.bool true)) tU fun _ =>
 .ret #[])
theorem d_parser_angle (a0_p : Addr) : fnT Tryz.prog Tryz.f219 an_parser_angle [.pointer (some a0_p)] = t_parser_angle a0_p := by kernel_rfl
theorem c_parser_angle {ε σ β : Type} {I : Ifc ε σ} {t : Ty} {s : Sp ε σ β} {Rel : β → t.den → Own → Fact} {Γ : List Fact} (a0_p : Addr) (h : Sim Tryz.prog I t Rel noLabel none (t_parser_angle a0_p) s [] Γ) : MeetsO Tryz.prog I (callS F_parser_angle #[.pointer (some a0_p)]) t s Rel Γ :=
  meets_of_sim (args := [.pointer (some a0_p)]) Tryz.func219 rfl rfl (Nat.le_of_ble_eq_true rfl) (by rw [d_parser_angle]; exact h)

def an_parser_none : An :=
  .s (.r [none]) (.s (.r [none, some (.c (.agg [.int .i64, .str, .int .i64, .int .i64])), none, some tP, none]) (.x))
def t_parser_none (a0_p : Addr) : T :=
 .op (callS F_parser_now #[.pointer (some a0_p)]) (.c (.agg [.int .i64, .str, .int .i64, .int .i64])) fun r1 =>
 .op (callS F_syntax_made #[.int .i64 1, .string kE, .int .i64 0, .int .i64 r1.2.2.1, .slice none 0 0]) tP fun r2 =>
 .ret #[.v (.pointer r2)]
theorem d_parser_none (a0_p : Addr) : fnT Tryz.prog Tryz.f188 an_parser_none [.pointer (some a0_p)] = t_parser_none a0_p := by kernel_rfl
theorem c_parser_none {ε σ β : Type} {I : Ifc ε σ} {t : Ty} {s : Sp ε σ β} {Rel : β → t.den → Own → Fact} {Γ : List Fact} (a0_p : Addr) (h : Sim Tryz.prog I t Rel noLabel none (t_parser_none a0_p) s [] Γ) : MeetsO Tryz.prog I (callS F_parser_none #[.pointer (some a0_p)]) t s Rel Γ :=
  meets_of_sim (args := [.pointer (some a0_p)]) Tryz.func188 rfl rfl (Nat.le_of_ble_eq_true rfl) (by rw [d_parser_none]; exact h)

def an_parser_list : An :=
  .s (.r [none]) (.s (.r [none, some (.c (.agg [.int .i64, .str, .int .i64, .int .i64])), none, none, some tP, some tSl, some tP, none]) (.s (.b (.l [] (.s (.s (.r [none, some tB]) (.c (.x) (.x))) (.b (.d (.q 0 none (.q 1 none (.q 2 (some tA) (.q 3 none (.q 4 (some tSl) (.q 5 none (.l 6 (some tP) (.l 7 (some tSl) (.l 8 (some tSl) (.q 9 (some tA) (.q 10 none (.l 11 (some tU) (.e)))))))))))))))))) (.s (.r [none, none]) (.x))))
def t_parser_list (a0_p : Addr) (a1_one : Value) : T :=
 .op (callS F_parser_now #[.pointer (some a0_p)]) (.c (.agg [.int .i64, .str, .int .i64, .int .i64])) fun r1 =>
 .op (callvS a1_one #[]) tP fun r2 =>
 .op (sliceS T_SPsyntax_node 1 #[(0, .pointer r2)]) tSl fun r3 =>
 .op (callS F_syntax_made #[.int .i64 2, .string kE, .int .i64 0, .int .i64 r1.2.2.1, .slice r3.1 r3.2.1 r3.2.2]) tP fun r4 =>
 .loop 0 [] [] fun x5 =>
 .op (callS F_parser_take #[.pointer (some a0_p), .string k_comma]) tB fun r6 =>
 .ite r6 (
 .draw <|
 .opq (nilS (.pointer r4)) tA fun r7 =>
 .opq (ldS T_SPsyntax_node (.pointer (some ⟨r7.block, r7.off + 5, none⟩))) tSl fun r8 =>
 .opl (callvS a1_one #[]) tP fun r9 =>
 .opl (sliceS T_SPsyntax_node 1 #[(0, .pointer r9)]) tSl fun r10 =>
 .opl (appS #[T_SPsyntax_node, T_SPsyntax_node] T_SPsyntax_node #[.slice r8.1 r8.2.1 r8.2.2, .slice r10.1 r10.2.1 r10.2.2]) tSl fun r11 =>
 .opq (nilS (.pointer r4)) tA fun r12 =>
 .op (stS T_SPsyntax_node (.pointer (some ⟨r12.block, r12.off + 5, none⟩)) (.slice r11.1 r11.2.1 r11.2.2)) tU fun _ =>
 .out 0 []) (
 .ret #[.v (.pointer r4)])
theorem d_parser_list (a0_p : Addr) (a1_one : Value) : fnT Tryz.prog Tryz.f217 an_parser_list [.pointer (some a0_p), a1_one] = t_parser_list a0_p a1_one := by kernel_rfl
theorem c_parser_list {ε σ β : Type} {I : Ifc ε σ} {t : Ty} {s : Sp ε σ β} {Rel : β → t.den → Own → Fact} {Γ : List Fact} (a0_p : Addr) (a1_one : Value) (h : Sim Tryz.prog I t Rel noLabel none (t_parser_list a0_p a1_one) s [] Γ) : MeetsO Tryz.prog I (callS F_parser_list #[.pointer (some a0_p), a1_one]) t s Rel Γ :=
  meets_of_sim (args := [.pointer (some a0_p), a1_one]) Tryz.func217 rfl rfl (Nat.le_of_ble_eq_true rfl) (by rw [d_parser_list]; exact h)

def an_parser_empty : An :=
  .s (.r [none]) (.s (.r [none, some (.c (.agg [.int .i64, .str, .int .i64, .int .i64])), none, some tP, none]) (.x))
def t_parser_empty (a0_p : Addr) : T :=
 .op (callS F_parser_now #[.pointer (some a0_p)]) (.c (.agg [.int .i64, .str, .int .i64, .int .i64])) fun r1 =>
 .op (callS F_syntax_made #[.int .i64 2, .string kE, .int .i64 0, .int .i64 r1.2.2.1, .slice none 0 0]) tP fun r2 =>
 .ret #[.v (.pointer r2)]
theorem d_parser_empty (a0_p : Addr) : fnT Tryz.prog Tryz.f191 an_parser_empty [.pointer (some a0_p)] = t_parser_empty a0_p := by kernel_rfl
theorem c_parser_empty {ε σ β : Type} {I : Ifc ε σ} {t : Ty} {s : Sp ε σ β} {Rel : β → t.den → Own → Fact} {Γ : List Fact} (a0_p : Addr) (h : Sim Tryz.prog I t Rel noLabel none (t_parser_empty a0_p) s [] Γ) : MeetsO Tryz.prog I (callS F_parser_empty #[.pointer (some a0_p)]) t s Rel Γ :=
  meets_of_sim (args := [.pointer (some a0_p)]) Tryz.func191 rfl rfl (Nat.le_of_ble_eq_true rfl) (by rw [d_parser_empty]; exact h)

def an_scan_Turn : An :=
  .s (.r [some tA, none]) (.s (.s (.r [none, some tI]) (.b (.s (.r [none, none]) (.c (.s (.r [none]) (.x)) (.s (.r [none, none]) (.c (.s (.r [none]) (.x)) (.s (.r [none, none]) (.c (.s (.r [none, some tS]) (.b (.s (.s (.r [none, none]) (.j [(13, .b .bool)] (.c (.x) (.s (.r [none, none]) (.c (.x) (.r [none, none])))))) (.c (.s (.r [none]) (.x)) (.s (.s (.r [none, none]) (.c (.x) (.s (.r [none, none]) (.c (.x) (.r [none, none]))))) (.c (.s (.r [none]) (.x)) (.x))))))) (.x))))))))) (.s (.r [none]) (.x)))
def t_scan_Turn (a0_t : HB [.int .i64, .str, .int .i64, .int .i64]) : T :=
 .op (boxS T_api_Token (.agg #[.int .i64 a0_t.1, .string a0_t.2.1, .int .i64 a0_t.2.2.1, .int .i64 a0_t.2.2.2.1])) tA fun r1 =>
 .op (ldS T_int (.pointer (some r1))) tI fun r2 =>
 .ite ((r2 : Int) == 6) (
 .ret #[.v (.int .i64 1)]) (
 .ite ((r2 : Int) == 8) (
 .ret #[.v (.int .i64 (-1))]) (
 .ite ((r2 : Int) == 9) (
 .op (ldS T_string (.pointer (some ⟨r1.block, r1.off + 1, none⟩))) tS fun r3 =>
 .join 0 [.b .bool] (
 .ite (r3.toList == k_lp.toList) (
 .out 0 [.bool true]) (
 .ite (r3.toList == k_lb.toList) (
 .out 0 [.bool true]) (
 .out 0 [.bool (r3.toList == k_lc.toList)]))) fun x4 =>
 .ite x4.1 (
 .ret #[.v (.int .i64 1)]) (
 .ite (r3.toList == k_rp.toList) (
 .ret #[.v (.int .i64 (-1))]) (
 .ite (r3.toList == k_rb.toList) (
 .ret #[.v (.int .i64 (-1))]) (
 .ite (r3.toList == k_rc.toList) (
 .ret #[.v (.int .i64 (-1))]) (
 .ret #[.v (.int .i64 0)]))))) (
 .ret #[.v (.int .i64 0)])))
theorem d_scan_Turn (a0_t : HB [.int .i64, .str, .int .i64, .int .i64]) : fnT Tryz.prog Tryz.f81 an_scan_Turn [.agg #[.int .i64 a0_t.1, .string a0_t.2.1, .int .i64 a0_t.2.2.1, .int .i64 a0_t.2.2.2.1]] = t_scan_Turn a0_t := by kernel_rfl
theorem c_scan_Turn {ε σ β : Type} {I : Ifc ε σ} {t : Ty} {s : Sp ε σ β} {Rel : β → t.den → Own → Fact} {Γ : List Fact} (a0_t : HB [.int .i64, .str, .int .i64, .int .i64]) (h : Sim Tryz.prog I t Rel noLabel none (t_scan_Turn a0_t) s [] Γ) : MeetsO Tryz.prog I (callS F_scan_Turn #[.agg #[.int .i64 a0_t.1, .string a0_t.2.1, .int .i64 a0_t.2.2.1, .int .i64 a0_t.2.2.2.1]]) t s Rel Γ :=
  meets_of_sim (args := [.agg #[.int .i64 a0_t.1, .string a0_t.2.1, .int .i64 a0_t.2.2.1, .int .i64 a0_t.2.2.2.1]]) Tryz.func81 rfl rfl (Nat.le_of_ble_eq_true rfl) (by rw [d_scan_Turn]; exact h)

def an_parser_closed : An :=
  .s (.r [some tA]) (.s (.r [none]) (.s (.s (.r [none, none, none, some tI, none]) (.j [] (.b (.l [(3, .b (.int .i64)), (4, .b (.int .i64))] (.s (.s (.r [none, none, none, none, some tSl, none, none]) (.c (.x) (.x))) (.s (.b (.s (.r [none, none, none, none, some tSl, none, some tA, some (.c (.agg [.int .i64, .str, .int .i64, .int .i64])), some tI, none, none]) (.s (.r [none, none]) (.c (.s (.d (.q 0 none (.q 1 none (.q 2 none (.q 3 (some tSl) (.q 4 none (.q 5 none (.q 6 none (.q 7 none (.q 8 none (.q 9 (some tSl) (.q 10 none (.q 11 none (.q 12 none (.q 13 (some tA) (.q 14 (some (.c (.agg [.int .i64, .str, .int .i64, .int .i64]))) (.l 15 (some tU) (.e)))))))))))))))))) (.x)) (.x))))) (.r [none, none, none]))))))) (.s (.d (.q 0 none (.q 1 none (.q 2 none (.q 3 (some tSl) (.q 4 none (.q 5 none (.q 6 none (.q 7 (some tSl) (.q 8 none (.q 9 none (.q 10 (some tA) (.q 11 (some (.c (.agg [.int .i64, .str, .int .i64, .int .i64]))) (.l 12 (some tU) (.e))))))))))))))) (.x))))
def t_parser_closed (a0_p : Addr) : T :=
 .op (allocS T_api_Token) tA fun r1 =>
 .op (ldS T_int (.pointer (some ⟨a0_p.block, a0_p.off + 1, none⟩))) tI fun r2 =>
 .join 0 [] (
 .loop 1 [.b (.int .i64), .b (.int .i64)] [.int .i64 0, .int .i64 r2] fun x3 =>
 .op (ldS T_Sapi_Token (.pointer (some a0_p))) tSl fun r4 =>
 .ite (decide ((x3.2.1 : Int) < (r4.2.1 : Int))) (
 .op (ldS T_Sapi_Token (.pointer (some a0_p))) tSl fun r5 =>
 .op (idxAS T_Sapi_Token (.slice r5.1 r5.2.1 r5.2.2) (.int .i64 x3.2.1)) tA fun r6 =>
 .op (ldS T_api_Token (.pointer (some r6))) (.c (.agg [.int .i64, .str, .int .i64, .int .i64])) fun r7 =>
 .op (callS F_scan_Turn #[.agg #[.int .i64 r7.1, .string r7.2.1, .int .i64 r7.2.2.1, .int .i64 r7.2.2.2.1]]) tI fun r8 =>
 .ite ((IntKind.i64.wrap (x3.1 + r8) : Int) == 0) (
 .draw <|
 .opq (ldS T_Sapi_Token (.pointer (some a0_p))) tSl fun r9 =>
 .opq (ldS T_Sapi_Token (.pointer (some a0_p))) tSl fun r10 =>
 .opq (idxAS T_Sapi_Token (.slice r9.1 r9.2.1 r9.2.2) (.int .i64 (if (IntKind.i64.wrap ((r10.2.1 : Int) - 1) : Int) < (IntKind.i64.wrap (x3.2.1 + 1)) then IntKind.i64.wrap ((r10.2.1 : Int) - 1) else IntKind.i64.wrap (x3.2.1 + 1)))) tA fun r11 =>
 .opq (ldS T_api_Token (.pointer (some r11))) (.c (.agg [.int .i64, .str, .int .i64, .int .i64])) fun r12 =>
 .op (stS T_api_Token (.pointer (some r1)) (.agg #[.int .i64 r12.1, .string r12.2.1, .int .i64 r12.2.2.1, .int .i64 r12.2.2.2.1])) tU fun _ =>
 .ret #[.c (.pointer (some r1)) T_api_Token]) (
 .out 1 [.int .i64 (IntKind.i64.wrap (x3.1 + r8)), .int .i64 (IntKind.i64.wrap (x3.2.1 + 1))])) (
 .out 0 [])) fun x14 =>
 .draw <|
 .opq (ldS T_Sapi_Token (.pointer (some a0_p))) tSl fun r15 =>
 .opq (ldS T_Sapi_Token (.pointer (some a0_p))) tSl fun r16 =>
 .opq (idxAS T_Sapi_Token (.slice r15.1 r15.2.1 r15.2.2) (.int .i64 (IntKind.i64.wrap ((r16.2.1 : Int) - 1)))) tA fun r17 =>
 .opq (ldS T_api_Token (.pointer (some r17))) (.c (.agg [.int .i64, .str, .int .i64, .int .i64])) fun r18 =>
 .op (stS T_api_Token (.pointer (some r1)) (.agg #[.int .i64 r18.1, .string r18.2.1, .int .i64 r18.2.2.1, .int .i64 r18.2.2.2.1])) tU fun _ =>
 .ret #[.c (.pointer (some r1)) T_api_Token]
theorem d_parser_closed (a0_p : Addr) : fnT Tryz.prog Tryz.f190 an_parser_closed [.pointer (some a0_p)] = t_parser_closed a0_p := by kernel_rfl
theorem c_parser_closed {ε σ β : Type} {I : Ifc ε σ} {t : Ty} {s : Sp ε σ β} {Rel : β → t.den → Own → Fact} {Γ : List Fact} (a0_p : Addr) (h : Sim Tryz.prog I t Rel noLabel none (t_parser_closed a0_p) s [] Γ) : MeetsO Tryz.prog I (callS F_parser_closed #[.pointer (some a0_p)]) t s Rel Γ :=
  meets_of_sim (args := [.pointer (some a0_p)]) Tryz.func190 rfl rfl (Nat.le_of_ble_eq_true rfl) (by rw [d_parser_closed]; exact h)

def an_syntax_made : An :=
  .s (.r [none]) (.s (.r [none, none, none, none, none, none, none, some tA, none]) (.x))
def t_syntax_made (a0_kind : Int) (a1_text : ByteArray) (a2_num : Int) (a3_at : Int) (a4_kids : Option Addr × Nat × Nat) : T :=
 .op (boxS T_syntax_node (.agg #[.int .i64 a0_kind, .string a1_text, .int .i64 a2_num, .slice none 0 0, .int .i64 a3_at, .slice a4_kids.1 a4_kids.2.1 a4_kids.2.2])) tA fun r1 =>
 .ret #[.v (.pointer (some r1))]
theorem d_syntax_made (a0_kind : Int) (a1_text : ByteArray) (a2_num : Int) (a3_at : Int) (a4_kids : Option Addr × Nat × Nat) : fnT Tryz.prog Tryz.f84 an_syntax_made [.int .i64 a0_kind, .string a1_text, .int .i64 a2_num, .int .i64 a3_at, .slice a4_kids.1 a4_kids.2.1 a4_kids.2.2] = t_syntax_made a0_kind a1_text a2_num a3_at a4_kids := by kernel_rfl
theorem c_syntax_made {ε σ β : Type} {I : Ifc ε σ} {t : Ty} {s : Sp ε σ β} {Rel : β → t.den → Own → Fact} {Γ : List Fact} (a0_kind : Int) (a1_text : ByteArray) (a2_num : Int) (a3_at : Int) (a4_kids : Option Addr × Nat × Nat) (h : Sim Tryz.prog I t Rel noLabel none (t_syntax_made a0_kind a1_text a2_num a3_at a4_kids) s [] Γ) : MeetsO Tryz.prog I (callS F_syntax_made #[.int .i64 a0_kind, .string a1_text, .int .i64 a2_num, .int .i64 a3_at, .slice a4_kids.1 a4_kids.2.1 a4_kids.2.2]) t s Rel Γ :=
  meets_of_sim (args := [.int .i64 a0_kind, .string a1_text, .int .i64 a2_num, .int .i64 a3_at, .slice a4_kids.1 a4_kids.2.1 a4_kids.2.2]) Tryz.func84 rfl rfl (Nat.le_of_ble_eq_true rfl) (by rw [d_syntax_made]; exact h)
theorem cw_syntax_made (a0_kind : Int) (a1_text : ByteArray) (a2_num : Int) (a3_at : Int) (a4_kids : Option Addr × Nat × Nat) {S : World → Prop} {Φ : Outs} {R : Ending → World → Prop} {w : World} (hR : ∀ w, ¬ R .outgrown w) (h : (t_syntax_made a0_kind a1_text a2_num a3_at a4_kids).wp Tryz.prog S Φ R w) : upon Tryz.prog (fun v w' => R (.returned v) w') (fun c w' => R (.panicked c) w') ((callS F_syntax_made #[.int .i64 a0_kind, .string a1_text, .int .i64 a2_num, .int .i64 a3_at, .slice a4_kids.1 a4_kids.2.1 a4_kids.2.2]).run Tryz.prog w) :=
  upon_of_wp (args := [.int .i64 a0_kind, .string a1_text, .int .i64 a2_num, .int .i64 a3_at, .slice a4_kids.1 a4_kids.2.1 a4_kids.2.2]) Tryz.func84 rfl rfl (Nat.le_of_ble_eq_true rfl) hR (by rw [d_syntax_made]; exact h)

def an_syntax_laid : An :=
  .s (.r [some tA]) (.s (.r [some tA]) (.s (.s (.r [none, none, some tSl, none]) (.j [] (.b (.l [(4, .b .slice)] (.s (.s (.r [none, none, none]) (.c (.x) (.x))) (.b (.s (.r [none, none, none, none, some tA, some (.c (.agg [.ptr, .int .i64])), some tA, some tU]) (.s (.r [none, none, none, none, some tSl, none]) (.s (.r [none, some tSl, none, none]) (.s (.d (.q 0 none (.q 1 (some tSl) (.q 2 none (.q 3 (some tP) (.q 4 (some tA) (.q 5 none (.q 6 (some (.c (.agg [.int .i64, .str, .int .i64, .slice, .int .i64]))) (.l 7 (some tSl) (.l 8 (some tSl) (.q 9 none (.l 10 (some tU) (.e))))))))))))) (.s (.s (.r [none, some tI, none]) (.j [] (.c (.d (.q 0 none (.q 1 (some tSl) (.q 2 none (.q 3 (some tI) (.q 4 none (.q 5 (some tSl) (.q 6 none (.q 7 (some tI) (.q 8 (some tA) (.q 9 none (.q 10 (some tSl) (.q 11 none (.l 12 (some tSl) (.l 13 (some tSl) (.q 14 (some tA) (.q 15 none (.l 16 (some tU) (.e))))))))))))))))))) (.x)))) (.s (.r [none, some tP, some tA, none, some tSl, none, none, none]) (.b (.l [(4, .b .slice), (7, .b (.int .i64))] (.s (.s (.r [none, none]) (.c (.x) (.x))) (.s (.b (.r [none, none, some tP, some tA, none, some tSl, none, some tA, some tP, none, none, some tSl, some tSl, none])) (.r [none, none, none]))))))))))))))))) (.s (.r [some (.c (.agg [.slice])), some tU]) (.x))))
def t_syntax_laid (a0_a0 : Option Addr) : T :=
 .op (allocS T_api_Tree) tA fun r1 =>
 .op (allocS T_api_Tree) tA fun r2 =>
 .op (sliceS T_Ssyntax_place 1 #[(0, .agg #[.pointer a0_a0, .int .i64 (-1)])]) tSl fun r3 =>
 .join 0 [] (
 .loop 1 [.b .slice] [.slice r3.1 r3.2.1 r3.2.2] fun x4 =>
 .ite (decide (((x4.1.2.1 : Int) : Int) > 0)) (
 .op (idxAS T_Ssyntax_place (.slice x4.1.1 x4.1.2.1 x4.1.2.2) (.int .i64 (IntKind.i64.wrap ((x4.1.2.1 : Int) - 1)))) tA fun r5 =>
 .op (ldS T_syntax_place (.pointer (some r5))) (.c (.agg [.ptr, .int .i64])) fun r6 =>
 .op (allocS T_syntax_place) tA fun r7 =>
 .op (stS T_syntax_place (.pointer (some r7)) (.agg #[.pointer r6.1, .int .i64 r6.2.1])) tU fun _ =>
 .op (subS T_Ssyntax_place (.slice x4.1.1 x4.1.2.1 x4.1.2.2) none (some (.int .i64 (IntKind.i64.wrap ((x4.1.2.1 : Int) - 1)))) none) tSl fun r9 =>
 .op (ldS T_Sapi_Node (.pointer (some r2))) tSl fun r10 =>
 .draw <|
 .opq (ldS T_Sapi_Node (.pointer (some r2))) tSl fun r11 =>
 .opq (ldS T_Psyntax_node (.pointer (some r7))) tP fun r12 =>
 .opq (nilS (.pointer r12)) tA fun r13 =>
 .opq (ldS T_api_Node (.pointer (some r13))) (.c (.agg [.int .i64, .str, .int .i64, .slice, .int .i64])) fun r14 =>
 .opl (sliceS T_Sapi_Node 1 #[(0, .agg #[.int .i64 r14.1, .string r14.2.1, .int .i64 r14.2.2.1, .slice r14.2.2.2.1.1 r14.2.2.2.1.2.1 r14.2.2.2.1.2.2, .int .i64 r14.2.2.2.2.1])]) tSl fun r15 =>
 .opl (appS #[T_Sapi_Node, T_Sapi_Node] T_Sapi_Node #[.slice r11.1 r11.2.1 r11.2.2, .slice r15.1 r15.2.1 r15.2.2]) tSl fun r16 =>
 .op (stS T_Sapi_Node (.pointer (some r2)) (.slice r16.1 r16.2.1 r16.2.2)) tU fun _ =>
 .op (ldS T_int (.pointer (some ⟨r7.block, r7.off + 1, none⟩))) tI fun r18 =>
 .join 2 [] (
 .ite (decide ((r18 : Int) ≥ 0)) (
 .draw <|
 .opq (ldS T_Sapi_Node (.pointer (some r2))) tSl fun r19 =>
 .opq (ldS T_int (.pointer (some ⟨r7.block, r7.off + 1, none⟩))) tI fun r20 =>
 .opq (ldS T_Sapi_Node (.pointer (some r2))) tSl fun r21 =>
 .opq (ldS T_int (.pointer (some ⟨r7.block, r7.off + 1, none⟩))) tI fun r22 =>
 .opq (idxAS T_Sapi_Node (.slice r21.1 r21.2.1 r21.2.2) (.int .i64 r22)) tA fun r23 =>
 .opq (ldS T_Sint (.pointer (some ⟨r23.block, r23.off + 3, none⟩))) tSl fun r24 =>
 .opl (sliceS T_Sint 1 #[(0, .int .i64 (r10.2.1 : Int))]) tSl fun r25 =>
 .opl (appS #[T_Sint, T_Sint] T_Sint #[.slice r24.1 r24.2.1 r24.2.2, .slice r25.1 r25.2.1 r25.2.2]) tSl fun r26 =>
 .opq (idxAS T_Sapi_Node (.slice r19.1 r19.2.1 r19.2.2) (.int .i64 r20)) tA fun r27 =>
 .op (stS T_Sint (.pointer (some ⟨r27.block, r27.off + 3, none⟩)) (.slice r26.1 r26.2.1 r26.2.2)) tU fun _ =>
 .out 2 []) (
 .out 2 [])) fun x29 =>
 .op (ldS T_Psyntax_node (.pointer (some r7))) tP fun r30 =>
 .op (nilS (.pointer r30)) tA fun r31 =>
 .op (ldS T_SPsyntax_node (.pointer (some ⟨r31.block, r31.off + 5, none⟩))) tSl fun r32 =>
 .loop 2 [.b .slice, .b (.int .i64)] [.slice r9.1 r9.2.1 r9.2.2, .int .i64 (IntKind.i64.wrap ((r32.2.1 : Int) - 1))] fun x33 =>
 .ite (decide ((x33.2.1 : Int) ≥ 0)) (
 .op (ldS T_Psyntax_node (.pointer (some r7))) tP fun r34 =>
 .op (nilS (.pointer r34)) tA fun r35 =>
 .op (ldS T_SPsyntax_node (.pointer (some ⟨r35.block, r35.off + 5, none⟩))) tSl fun r36 =>
 .op (idxAS T_SPsyntax_node (.slice r36.1 r36.2.1 r36.2.2) (.int .i64 x33.2.1)) tA fun r37 =>
 .op (ldS T_Psyntax_node (.pointer (some r37))) tP fun r38 =>
 .op (sliceS T_Ssyntax_place 1 #[(0, .agg #[.pointer r38, .int .i64 (r10.2.1 : Int)])]) tSl fun r39 =>
 .op (appS #[T_Ssyntax_place, T_Ssyntax_place] T_Ssyntax_place #[.slice x33.1.1 x33.1.2.1 x33.1.2.2, .slice r39.1 r39.2.1 r39.2.2]) tSl fun r40 =>
 .out 2 [.slice r40.1 r40.2.1 r40.2.2, .int .i64 (IntKind.i64.wrap (x33.2.1 - 1))]) (
 .out 1 [.slice x33.1.1 x33.1.2.1 x33.1.2.2])) (
 .out 0 [])) fun x41 =>
 .op (ldS T_api_Tree (.pointer (some r2))) (.c (.agg [.slice])) fun r42 =>
 .op (stS T_api_Tree (.pointer (some r1)) (.agg #[.slice r42.1.1 r42.1.2.1 r42.1.2.2])) tU fun _ =>
 .ret #[.c (.pointer (some r1)) T_api_Tree]
theorem d_syntax_laid (a0_a0 : Option Addr) : fnT Tryz.prog Tryz.f90 an_syntax_laid [.pointer a0_a0] = t_syntax_laid a0_a0 := by kernel_rfl
theorem c_syntax_laid {ε σ β : Type} {I : Ifc ε σ} {t : Ty} {s : Sp ε σ β} {Rel : β → t.den → Own → Fact} {Γ : List Fact} (a0_a0 : Option Addr) (h : Sim Tryz.prog I t Rel noLabel none (t_syntax_laid a0_a0) s [] Γ) : MeetsO Tryz.prog I (callS F_syntax_laid #[.pointer a0_a0]) t s Rel Γ :=
  meets_of_sim (args := [.pointer a0_a0]) Tryz.func90 rfl rfl (Nat.le_of_ble_eq_true rfl) (by rw [d_syntax_laid]; exact h)
end
end Go.Proofs.YtjlgcpgjdgeejaaGreatDoor
end
