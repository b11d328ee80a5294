/- A part of the claim: general tools, trees of the program, and what its functions come to (PLeaf3 to TrB). Conditions: as its theorems say. -/
import Derived.Test.YtjlgcpgjdgeejaaGreatDoorClA
import Derived.BigFrame
import Derived.Defers
import Derived.RangeFuncLeaves
import Derived.Recover
import Derived.Test.YtjlgcpgjdgeejaaGreatDoorProg

section
namespace Go.Proofs.YtjlgcpgjdgeejaaGreatDoor
open Go
set_option linter.unusedSimpArgs false
set_option linter.unusedVariables false
set_option linter.constructorNameAsVariable false
set_option maxRecDepth 100000
abbrev m8 (n:Nat):Array Value:=(Array.range (n * 1)).map ((Value.pointer none).cells[· % (Value.pointer none).cells.size]!)
theorem tQ {n:Nat} {ps:Array (Nat × Value)} {l:List (Option Addr)} (hn:l.length=n) (h0:0 < n) (hsz:n≤1000)
  (hf:Instr.fill (fun i=>some (i * 1,1)) (m8 n) ps.toList=some (l.map Value.pointer).toArray) (w:World) :
  (ar ad n ps).run PG w=.ok (.value (.slice (some ⟨w.heap.size,0,none⟩) n n)) (w.alloc (aq ba (l.map Value.pointer))):=by
 have:=gm (P:=PG) (w:=w) (t:=ad) (e:=ba) (n:=n) (size:=1) (ps:=ps) (cells:=(l.map Value.pointer).toArray) (zero:=.pointer none) (by kernel_rfl) (by omega) (by kernel_rfl) hf (by omega)
 simpa using this
theorem Cg (l:List (Option Addr)):rows d5 l=l.map Value.pointer:=by
 induction l with
 | nil=>rfl
 | cons x l ih=>rw [eT,ih]; rfl
theorem uc {L:al} {Γ:List Fact} {n:Nat} {ps:Array (Nat × Value)} (l:List (Option Addr)) (hn:l.length=n) (h0:0 < n) (hsz:n≤1000)
  (hf:Instr.fill (fun i=>some (i * 1,1)) (m8 n) ps.toList=some (l.map Value.pointer).toArray) :
  Loc PG (ar ad n ps) ah L Γ fun y L' Γ'=>L'=L∧Γ'=Sl 1 d5 y l::Γ :=
 Loc.val fun r w F H hF hsp=>⟨(some ⟨w.heap.size,0,none⟩,n,n),_,L,_,F.ins w.heap.size (aq ba (l.map Value.pointer)),.inl (tQ hn h0 hsz hf w),hsp.new_le _,
  Holds.cons (A:=Sl 1 d5 (some ⟨w.heap.size,0,none⟩,n,n) l) ⟨hn.symm,.inr ⟨⟨w.heap.size,0,none⟩,l.map Value.pointer,ba,rfl,rfl,by simp [Heap.ins],by rw [Cg]; show List.take (1 * l.length) (l.map Value.pointer)=_; rw [List.take_of_length_le (by simp)]⟩⟩ (hF.mono (hsp.new_le _)),hsp.newF _,rfl,rfl⟩
theorem rK {L:al} {Γ:List Fact} {n:Nat} {ps:Array (Nat × Value)} (l:List (Option Addr)) (hn:l.length=n) (h0:0 < n) (hsz:n≤1000)
  (hf:Instr.fill (fun i=>some (i * 1,1)) (m8 n) ps.toList=some (l.map Value.pointer).toArray) :
  Loc PG (ar ad n ps) ah L Γ fun y L' Γ'=>∃ K,L'=K++L∧Γ'=Γ∧Buf ba 1 y (l.map Value.pointer) K :=
 Loc.val fun r w F H hF hsp=>⟨(some ⟨w.heap.size,0,none⟩,n,n),_,_,Γ,F,.inl (tQ hn h0 hsz hf w),Heap.le.refl F,hF,(hsp.new _).perm List.perm_middle,[_],rfl,rfl,
  .inr ⟨w.heap.size,_,rfl,rfl,by simp [hn],Nat.le_refl n,by show n≤maxLen; unfold maxLen; omega,by simp [hn],by
   show List.take (n * 1) (l.map Value.pointer)=_
   rw [List.take_of_length_le (by simp [hn])]⟩⟩
section
variable {ε σ β:Type} {I:av ε σ} {t:Ty} {Rel:β→t.den→al→Fact} {Δ:Labels ε σ β} {L:al} {Γ:List Fact} {s:Sp ε σ β}
theorem GT {q:Option Quiet} {kind num pos:Int} {text:ByteArray} {x:aI} {k:Option Addr→T} (ps:List (Option Addr)) (kids:List N)
  (h:∀ F,Holds Γ F→(Sl 1 d5 x ps).p F∧NodesAt F ps kids) (hk:∀ y,Sim PG I t Rel Δ none (k y) s L (NodeF (bw kind text num pos kids) y::Γ)) :
  Sim PG I t Rel Δ q (.op (aa am #[.int .i64 kind,.string text,.int .i64 num,.int .i64 pos,.slice x.1 x.2.1 x.2.2]) tP k) s L Γ :=
 kH (Bj I kind text num pos x ps kids h) (fun A hA=>hA) hk
theorem FF {q:Quiet} {kind num pos:Int} {text:ByteArray} {x:aI} {k:Option Addr→T} (ps:List (Option Addr)) (kids:List N)
  (h:∀ F,Holds Γ F→(Sl 1 d5 x ps).p F∧NodesAt F ps kids) (hk:∀ y,Sim PG I t Rel Δ (some q) (k y) s L (NodeF (bw kind text num pos kids) y::Γ)) :
  Sim PG I t Rel Δ (some q) (.opl (aa am #[.int .i64 kind,.string text,.int .i64 num,.int .i64 pos,.slice x.1 x.2.1 x.2.2]) tP k) s L Γ :=
 yN (Bj I kind text num pos x ps kids h) (fun A hA=>hA) hk
theorem fH {q:Option Quiet} {kind num pos:Int} {text:ByteArray} {k:Option Addr→T} (hk:∀ y,Sim PG I t Rel Δ none (k y) s L (NodeF (bw kind text num pos []) y::Γ)) :
  Sim PG I t Rel Δ q (.op (aa am #[.int .i64 kind,.string text,.int .i64 num,.int .i64 pos,.slice none 0 0]) tP k) s L Γ :=
 kH (sm I kind text num pos) (fun _ h=>nomatch h) hk
theorem gq {q:Quiet} {kind num pos:Int} {text:ByteArray} {k:Option Addr→T} (hk:∀ y,Sim PG I t Rel Δ (some q) (k y) s L (NodeF (bw kind text num pos []) y::Γ)) :
  Sim PG I t Rel Δ (some q) (.opl (aa am #[.int .i64 kind,.string text,.int .i64 num,.int .i64 pos,.slice none 0 0]) tP k) s L Γ :=
 yN (sm I kind text num pos) (fun _ h=>nomatch h) hk
theorem bP {q:Option Quiet} {n:Nat} {parts:Array (Nat × Value)} {kind num pos:Int} {text:ByteArray} {k:Option Addr→T} (ps:List (Option Addr)) (kids:List N) (hn:ps.length=n) (h0:0 < n) (hsz:n≤1000)
  (hf:Instr.fill (fun i=>some (i * 1,1)) (m8 n) parts.toList=some (ps.map Value.pointer).toArray) (h:∀ F,Holds Γ F→NodesAt F ps kids)
  (hk:∀ y,Sim PG I t Rel Δ none (k y) s L (NodeF (bw kind text num pos kids) y::Γ)) :
  Sim PG I t Rel Δ q (.op (ar ad n parts) ah fun x=>.op (aa am #[.int .i64 kind,.string text,.int .i64 num,.int .i64 pos,.slice x.1 x.2.1 x.2.2]) tP k) s L Γ:=by
 refine aQ (uc ps hn h0 hsz hf) ?_
 rintro x _ _ ⟨rfl,rfl⟩
 refine GT ps kids (fun F hF=>⟨hF _ (List.mem_cons_self ..),h F fun A hA=>hF A (List.mem_cons_of_mem _ hA)⟩) fun y=>?_
 exact (hk y).weak fun A hA=>by
  rcases List.mem_cons.1 hA with rfl | hA
  ·exact List.mem_cons_self ..
  ·exact List.mem_cons_of_mem _ (List.mem_cons_of_mem _ hA)
theorem eU {q:Quiet} {n:Nat} {parts:Array (Nat × Value)} {kind num pos:Int} {text:ByteArray} {k:Option Addr→T} (ps:List (Option Addr)) (kids:List N) (hn:ps.length=n) (h0:0 < n) (hsz:n≤1000)
  (hf:Instr.fill (fun i=>some (i * 1,1)) (m8 n) parts.toList=some (ps.map Value.pointer).toArray) (h:∀ F,Holds Γ F→NodesAt F ps kids) (hq:∀ p∈q.L,p∈L)
  (hk:∀ y,Sim PG I t Rel Δ (some q) (k y) s L (NodeF (bw kind text num pos kids) y::Γ)) :
  Sim PG I t Rel Δ (some q) (.opl (ar ad n parts) ah fun x=>.opl (aa am #[.int .i64 kind,.string text,.int .i64 num,.int .i64 pos,.slice x.1 x.2.1 x.2.2]) tP k) s L Γ:=by
 refine dP (uc ps hn h0 hsz hf) ?_
 rintro x _ _ ⟨rfl,rfl⟩
 refine ⟨hq,?_⟩
 refine FF ps kids (fun F hF=>⟨hF _ (List.mem_cons_self ..),h F fun A hA=>hF A (List.mem_cons_of_mem _ hA)⟩) fun y=>?_
 exact (hk y).weak fun A hA=>by
  rcases List.mem_cons.1 hA with rfl | hA
  ·exact List.mem_cons_self ..
  ·exact List.mem_cons_of_mem _ (List.mem_cons_of_mem _ hA)
end
end Go.Proofs.YtjlgcpgjdgeejaaGreatDoor
end

section
namespace Go.Proofs.YtjlgcpgjdgeejaaGreatDoor
open Go
set_option linter.unusedSimpArgs false
set_option linter.unusedVariables false
set_option linter.constructorNameAsVariable false
set_option maxRecDepth 100000
def N.text:N→ByteArray | .mk _ t _ _ _=>t
def N.pos:N→Int | .mk _ _ _ p _=>p
def N.push:N→N→N | .mk k t n p l,c=>.mk k t n p (l++[c])
theorem N.eta (n:N):n=.mk n.kind n.text n.num n.pos n.kids:=by cases n; rfl
theorem N.push_eq (n c:N):n.push c=.mk n.kind n.text n.num n.pos (n.kids++[c]):=by cases n; rfl
theorem NodesAt.length {F:Heap}:∀ {ps:List (Option Addr)} {ns:List N},NodesAt F ps ns→ps.length=ns.length
 | _,_,.nil=>rfl
 | _,_,.cons p n ps ns _ h=>by simp [NodesAt.length h]
theorem NodesAt.snoc {F:Heap} {p:Option Addr} {n:N} (hn:NodeAt F p n):∀ {ps:List (Option Addr)} {ns:List N},NodesAt F ps ns→NodesAt F (ps++[p]) (ns++[n])
 | _,_,.nil=>.cons _ _ _ _ hn .nil
 | _,_,.cons p n ps ns h1 h2=>.cons _ _ _ _ h1 (NodesAt.snoc hn h2)
theorem NodesAt.one {F:Heap} {p:Option Addr} {n:N} (h:NodeAt F p n):NodesAt F [p] [n]:=.cons _ _ _ _ h .nil
def cb (b:Nat) (n:N) (sl:aI):Nat × Obj:=(b,aq bE (co n.kind n.text n.num n.pos sl))
def cR (n:N) (x:Option Addr) (K:al):Fact:=Fact.ex fun b:Nat=>Fact.ex fun sl:aI=>Fact.ex fun ps:List (Option Addr)=>Fact.ex fun K2:al =>
 (Fact.prop (x=some ⟨b,0,none⟩∧K=cb b n sl::K2∧Buf ba 1 sl (ps.map Value.pointer) K2)).both (cG n.kids ps)
theorem Cb {P:Program} (a:Addr) (w:World):(bV (.pointer (some a))).run P w=.ok (.value (.pointer (some a))) w:=by
 simp [bV,execOp]
theorem IC {P:Program} {L:al} {Γ:List Fact} (a:Addr):Loc P (bV (.pointer (some a))) tA L Γ fun y L' Γ'=>a=y∧L'=L∧Γ'=Γ:=ey (t1:=tA) a fun w=>Cb a w
section
variable {ε σ β:Type} {I:av ε σ} {t:Ty} {Rel:β→t.den→al→Fact} {Δ:Labels ε σ β} {q:Option Quiet} {L:al} {Γ:List Fact} {s:Sp ε σ β}
theorem nI {m:T} {n:N} {x:Option Addr} {K:al}
  (h:∀ b sl ps K2,x=some ⟨b,0,none⟩→Buf ba 1 sl (ps.map Value.pointer) K2→Sim PG I t Rel Δ q m s (cb b n sl::(K2++L)) (cG n.kids ps::Γ)) :
  Sim PG I t Rel Δ q m s (K++L) (cR n x K::Γ):=by
 refine Sim.ex fun b=>Sim.ex fun sl=>Sim.ex fun ps=>Sim.ex fun K2=>Sim.both (Sim.prop fun ⟨h1,h2,h3⟩=>?_)
 subst h2
 exact h b sl ps K2 h1 h3
theorem BQ {m:T} (K:al):∀ {Γ:List Fact},(Sim PG I t Rel Δ none m s L (K.map (fun p=>Fact.at p.1 p.2)++Γ))→Sim PG I t Rel Δ none m s (K++L) Γ:=by
 induction K with
 | nil=>exact fun h=>h
 | cons p K ih =>
  intro Γ h
  refine mW (ih (h.weak fun A hA=>?_))
  simp only [List.map_cons,List.cons_append,List.mem_cons,List.mem_append] at hA ⊢
  rcases hA with h | h | h
  ·exact .inr (.inl h)
  ·exact .inl h
  ·exact .inr (.inr h)
theorem DE {m:T} {K:al} (h:Sim PG I t Rel Δ none m s L (K.map (fun p=>Fact.at p.1 p.2)++Γ)):Sim PG I t Rel Δ q m s (K++L) Γ:=(BQ K h).lift
theorem Buf.nodes {F:Heap} {sl:aI} {ps:List (Option Addr)} {K2:al} (h:Buf ba 1 sl (ps.map Value.pointer) K2) (hK:∀ p∈K2,F p.1=some p.2):(Sl 1 d5 sl ps).p F :=
 h.sl (by omega) (Cg ps).symm vc hK
theorem GZ {m:T} {n:N} {x:Option Addr} {K:al} (h:Sim PG I t Rel Δ none m s L (NodeF n x::Γ)):Sim PG I t Rel Δ q m s (K++L) (cR n x K::Γ):=by
 refine Sim.ex fun b=>Sim.ex fun sl=>Sim.ex fun ps=>Sim.ex fun K2=>Sim.both (Sim.prop fun ⟨h1,h2,h3⟩=>?_)
 refine DE (Sim.know (A:=NodeF n x) (fun F hF=>?_) (h.weak fun A hA=>?_))
 ·subst h1; subst h2
  have hn:NodesAt F ps n.kids:=hF (cG n.kids ps) (List.mem_append_right _ (List.mem_cons_self ..))
  have hat:∀ p∈(cb b n sl::K2),F p.1=some p.2:=fun p hp=>hF (Fact.at p.1 p.2) (List.mem_append_left _ (List.mem_map.2 ⟨p,hp,rfl⟩))
  show NodeAt F _ n
  rw [N.eta n]
  exact .mk b _ _ _ _ _ sl ps (hat _ (List.mem_cons_self ..)) (h3.nodes fun p hp=>hat p (List.mem_cons_of_mem _ hp)) hn
 ·rcases List.mem_cons.1 hA with rfl | hA
  ·exact List.mem_cons_self ..
  ·exact List.mem_cons_of_mem _ (List.mem_append_right _ (List.mem_cons_of_mem _ hA))
theorem gb {kind num pos:Int} {text:ByteArray} {k:Option Addr→T} (hk:∀ y K,Sim PG I t Rel Δ none (k y) s (K++L) (cR (bw kind text num pos []) y K::Γ)) :
  Sim PG I t Rel Δ q (.op (aa am #[.int .i64 kind,.string text,.int .i64 num,.int .i64 pos,.slice none 0 0]) tP k) s L Γ:=by
 refine aQ (uG kind text num pos (none,0,0)) ?_
 rintro _ _ _ ⟨b,rfl,rfl,rfl⟩
 refine Sim.know (A:=cR (bw kind text num pos []) (some ⟨b,0,none⟩) [cb b (bw kind text num pos []) (none,0,0)]) (fun F hF=>?_) (hk _ [_])
 exact ⟨b,_,[],[],⟨rfl,rfl,Buf.nil ..⟩,NodesAt.nil⟩
theorem D8 {n:Nat} {parts:Array (Nat × Value)} {kind num pos:Int} {text:ByteArray} {k:Option Addr→T} (ps:List (Option Addr)) (kids:List N) (hn:ps.length=n) (h0:0 < n) (hsz:n≤1000)
  (hf:Instr.fill (fun i=>some (i * 1,1)) (m8 n) parts.toList=some (ps.map Value.pointer).toArray) (h:∀ F,Holds Γ F→NodesAt F ps kids)
  (hk:∀ y K,Sim PG I t Rel Δ none (k y) s (K++L) (cR (bw kind text num pos kids) y K::Γ)) :
  Sim PG I t Rel Δ q (.op (ar ad n parts) ah fun x=>.op (aa am #[.int .i64 kind,.string text,.int .i64 num,.int .i64 pos,.slice x.1 x.2.1 x.2.2]) tP k) s L Γ:=by
 refine aQ (rK ps hn h0 hsz hf) ?_
 rintro x _ _ ⟨K2,rfl,rfl,hb⟩
 refine aQ (uG kind text num pos x) ?_
 rintro _ _ _ ⟨b,rfl,rfl,rfl⟩
 refine Sim.know (A:=cR (bw kind text num pos kids) (some ⟨b,0,none⟩) (cb b (bw kind text num pos kids) x::K2)) (fun F hF=>?_) (hk _ (_::K2))
 exact ⟨b,x,ps,K2,⟨rfl,rfl,hb⟩,h F hF⟩
theorem ng {P:Program} {q:Quiet} (a:Addr):mi P q (bV (.pointer (some a))) (.pointer (some a)):=lH fun w=>Cb a w
theorem Br {n:N} {x:Option Addr} {K:al} {m:aI→T}
  (hk:∀ b sl ps K2,x=some ⟨b,0,none⟩→Buf ba 1 sl (ps.map Value.pointer) K2 →
   Sim PG I t Rel Δ (some ⟨cG n.kids ps::Γ,[cb b n sl]⟩) (m sl) s (cb b n sl::(K2++L)) (cG n.kids ps::Γ)) :
  Sim PG I t Rel Δ q (.draw<|.opq (bV (.pointer x)) tA fun r7=>.opq (ai ad (.pointer (some ⟨r7.block,r7.off+5,none⟩))) ah m) s (K++L) (cR n x K::Γ):=by
 refine nI fun b sl ps K2 hx hb=>?_
 subst hx
 refine c8 [cb b n sl] (fun p hp=>by simp at hp; simp [hp]) ?_
 refine cX (t1:=tA) ⟨b,0,none⟩ (ng _) ?_
 refine cX (t1:=ah) sl (bR (QRd.own (List.mem_cons_self ..)) (by kernel_rfl) rfl rfl) ?_
 exact hk b sl ps K2 rfl hb
theorem yd {L:al} {Γ:List Fact} {y:Option Addr}:Loc PG (ar ad 1 #[(0,.pointer y)]) ah L Γ fun x L' Γ'=>∃ b,x=(some ⟨b,0,none⟩,1,1)∧L'=L∧Γ'=Fact.at b (aq ba [.pointer y])::Γ :=
 Loc.val fun r w F H hF hsp=>⟨(some ⟨w.heap.size,0,none⟩,1,1),_,L,_,F.ins w.heap.size (aq ba [.pointer y]),.inl (tQ (n:=1) (l:=[y]) rfl (by decide) (by decide) (by kernel_rfl) w),hsp.new_le _,
  Holds.cons (by simp [Fact.at,Heap.ins]) (hF.mono (hsp.new_le _)),hsp.newF _,w.heap.size,rfl,rfl,rfl⟩
theorem ga {Γq:List Fact} {b:Nat} {sl:aI} {ps:List (Option Addr)} {K2:al} {y:Option Addr} {n c:N} {k:T} (hb:Buf ba 1 sl (ps.map Value.pointer) K2) (hps:cG n.kids ps∈Γ) (hc:NodeF c y∈Γ) (hlen:n.kids.length≤4398046511104)
  (hk:∀ K,Sim PG I t Rel Δ none k s (K++L) (cR (n.push c) (some ⟨b,0,none⟩) K::Γ)) :
  Sim PG I t Rel Δ (some ⟨Γq,[cb b n sl]⟩) (.opl (ar ad 1 #[(0,.pointer y)]) ah fun r10=>.opl (dg #[ad,ad] ad #[.slice sl.1 sl.2.1 sl.2.2,.slice r10.1 r10.2.1 r10.2.2]) ah fun r11 =>
   .opq (bV (.pointer (some ⟨b,0,none⟩))) tA fun r12=>.op (aW ad (.pointer (some ⟨r12.block,r12.off+5,none⟩)) (.slice r11.1 r11.2.1 r11.2.2)) tU fun _=>k) s (cb b n sl::(K2++L)) Γ:=by
 refine Sim.note (φ:=ps.length=n.kids.length) (fun F hF=>NodesAt.length (hF _ hps)) fun hl=>?_
 refine dP yd ?_
 rintro _ _ _ ⟨bn,rfl,rfl,rfl⟩
 refine ⟨fun p hp=>by simp at hp; simp [hp],?_⟩
 have hsl:sl.2.1=ps.length:=by have:=hb.len; simp at this; omega
 refine ob (L':=K2++(cb b n sl::L)) List.perm_middle ?_
 refine dP (eM (L0:=cb b n sl::L) (K:=K2) (size:=1) (bytes:=8) (e:=ba) (m:=1) (news:=[.pointer y]) (by kernel_rfl) rfl hb (Rd.at (List.mem_cons_self ..)) rfl rfl rfl (by decide) (by simp [Value.oneCell']) (by omega) (by omega)) ?_
 rintro x _ _ ⟨K',rfl,rfl,hx,hb'⟩
 refine ⟨fun p hp=>by simp at hp; simp [hp],?_⟩
 refine cX (t1:=tA) ⟨b,0,none⟩ (ng _) ?_
 refine aQ (a6 (L1:=K') (L2:=L) (l:=co n.kind n.text n.num n.pos sl) (T:=ad) (T0:=bE) (c:=false) rfl (by kernel_rfl) rfl (Nat.le_of_ble_eq_true rfl) (by simp [Value.cells,Value.oneCell'])) ?_
 rintro _ _ _ ⟨rfl,rfl⟩
 refine kW (L':=(b,aq bE (bB (co n.kind n.text n.num n.pos sl) 5 [.slice x.1 x.2.1 x.2.2]))::(K'++L)) List.perm_middle.symm ?_
 rw [show (b,aq bE (bB (co n.kind n.text n.num n.pos sl) 5 [.slice x.1 x.2.1 x.2.2]))=cb b (n.push c) x by cases n; rfl]
 refine Sim.know (A:=cR (n.push c) (some ⟨b,0,none⟩) (cb b (n.push c) x::K')) (fun F hF=>?_) ((hk (cb b (n.push c) x::K')).weak fun A hA=>?_)
 ·refine ⟨b,x,ps++[y],K',⟨rfl,rfl,by simpa using hb'⟩,?_⟩
  rw [N.push_eq]
  exact NodesAt.snoc (hF _ (List.mem_cons_of_mem _ hc)) (hF _ (List.mem_cons_of_mem _ hps))
 ·rcases List.mem_cons.1 hA with rfl | hA
  ·exact List.mem_cons_self ..
  ·exact List.mem_cons_of_mem _ (List.mem_cons_of_mem _ hA)
theorem FM (Le:al) (hLe:∀ p∈Le,p∈L) {n:N} {x:Option Addr} {K:al} {m:aI→T}
  (hk:∀ b sl ps K2,x=some ⟨b,0,none⟩→Buf ba 1 sl (ps.map Value.pointer) K2 →
   Sim PG I t Rel Δ (some ⟨cG n.kids ps::Γ,cb b n sl::Le⟩) (m sl) s (cb b n sl::(K2++L)) (cG n.kids ps::Γ)) :
  Sim PG I t Rel Δ q (.draw<|.opq (bV (.pointer x)) tA fun r7=>.opq (ai ad (.pointer (some ⟨r7.block,r7.off+5,none⟩))) ah m) s (K++L) (cR n x K::Γ):=by
 refine nI fun b sl ps K2 hx hb=>?_
 subst hx
 refine c8 (cb b n sl::Le) (fun p hp=>by rcases List.mem_cons.1 hp with rfl | hp<;>simp [*]) ?_
 refine cX (t1:=tA) ⟨b,0,none⟩ (ng _) ?_
 refine cX (t1:=ah) sl (bR (QRd.own (List.mem_cons_self ..)) (by kernel_rfl) rfl rfl) ?_
 exact hk b sl ps K2 rfl hb
theorem yI {Le:al} (hLe:∀ p∈Le,p∈L) {Γq:List Fact} {b:Nat} {sl:aI} {ps:List (Option Addr)} {K2:al} {y:Option Addr} {n c:N} {k:T} (hb:Buf ba 1 sl (ps.map Value.pointer) K2) (hps:cG n.kids ps∈Γ) (hc:NodeF c y∈Γ) (hlen:n.kids.length≤4398046511104)
  (hk:∀ K,Sim PG I t Rel Δ none k s (K++L) (cR (n.push c) (some ⟨b,0,none⟩) K::Γ)) :
  Sim PG I t Rel Δ (some ⟨Γq,cb b n sl::Le⟩) (.opl (ar ad 1 #[(0,.pointer y)]) ah fun r10=>.opl (dg #[ad,ad] ad #[.slice sl.1 sl.2.1 sl.2.2,.slice r10.1 r10.2.1 r10.2.2]) ah fun r11 =>
   .opq (bV (.pointer (some ⟨b,0,none⟩))) tA fun r12=>.op (aW ad (.pointer (some ⟨r12.block,r12.off+5,none⟩)) (.slice r11.1 r11.2.1 r11.2.2)) tU fun _=>k) s (cb b n sl::(K2++L)) Γ:=by
 refine Sim.note (φ:=ps.length=n.kids.length) (fun F hF=>NodesAt.length (hF _ hps)) fun hl=>?_
 refine dP yd ?_
 rintro _ _ _ ⟨bn,rfl,rfl,rfl⟩
 refine ⟨fun p hp=>by rcases List.mem_cons.1 hp with rfl | hp<;>simp [*],?_⟩
 have hsl:sl.2.1=ps.length:=by have:=hb.len; simp at this; omega
 refine ob (L':=K2++(cb b n sl::L)) List.perm_middle ?_
 refine dP (eM (L0:=cb b n sl::L) (K:=K2) (size:=1) (bytes:=8) (e:=ba) (m:=1) (news:=[.pointer y]) (by kernel_rfl) rfl hb (Rd.at (List.mem_cons_self ..)) rfl rfl rfl (by decide) (by simp [Value.oneCell']) (by omega) (by omega)) ?_
 rintro x _ _ ⟨K',rfl,rfl,hx,hb'⟩
 refine ⟨fun p hp=>by rcases List.mem_cons.1 hp with rfl | hp<;>simp [*],?_⟩
 refine cX (t1:=tA) ⟨b,0,none⟩ (ng _) ?_
 refine aQ (a6 (L1:=K') (L2:=L) (l:=co n.kind n.text n.num n.pos sl) (T:=ad) (T0:=bE) (c:=false) rfl (by kernel_rfl) rfl (Nat.le_of_ble_eq_true rfl) (by simp [Value.cells,Value.oneCell'])) ?_
 rintro _ _ _ ⟨rfl,rfl⟩
 refine kW (L':=(b,aq bE (bB (co n.kind n.text n.num n.pos sl) 5 [.slice x.1 x.2.1 x.2.2]))::(K'++L)) List.perm_middle.symm ?_
 rw [show (b,aq bE (bB (co n.kind n.text n.num n.pos sl) 5 [.slice x.1 x.2.1 x.2.2]))=cb b (n.push c) x by cases n; rfl]
 refine Sim.know (A:=cR (n.push c) (some ⟨b,0,none⟩) (cb b (n.push c) x::K')) (fun F hF=>?_) ((hk (cb b (n.push c) x::K')).weak fun A hA=>?_)
 ·refine ⟨b,x,ps++[y],K',⟨rfl,rfl,by simpa using hb'⟩,?_⟩
  rw [N.push_eq]
  exact NodesAt.snoc (hF _ (List.mem_cons_of_mem _ hc)) (hF _ (List.mem_cons_of_mem _ hps))
 ·rcases List.mem_cons.1 hA with rfl | hA
  ·exact List.mem_cons_self ..
  ·exact List.mem_cons_of_mem _ (List.mem_cons_of_mem _ hA)
end
def EZ (one:PM N):Nat→N→PM N
 | 0,_=>Sp.stop
 | k+1,n=>do
  let b ← bf jB
  cond b (do let c ← one; EZ one k (n.push c)) (pure n)
def og (k:Nat) (one:PM N):PM N:=do
 let t ← cg
 let c ← one
 EZ one k (bw 2 kE 0 t.pos [c])
theorem qA {ε σ β:Type} {P:Program} {I:av ε σ} {t:Ty} {Rel:β→t.den→al→Fact} {Δ:Labels ε σ β} {q:Option Quiet} {L:al} {Γ:List Fact} {b:Bool} {x y:T} {s1 s2:Sp ε σ β}
  (h1:b=true→Sim P I t Rel Δ q x s1 L Γ) (h2:b=false→Sim P I t Rel Δ q y s2 L Γ):Sim P I t Rel Δ q (.ite b x y) (cond b s1 s2) L Γ:=by
 cases b with
 | true=>exact qE (fun h=>h1 h) (fun h=>by cases h)
 | false=>exact qE (fun h=>by cases h) (fun h=>h2 h)
theorem N.push_len (n c:N):(n.push c).kids.length=n.kids.length+1:=by cases n; simp [N.push,N.kids]
theorem gG (pb:Nat) (one:Value) (oneS:PM N) (k:Nat) (hk:k≤1099511627776) {Γ:List Fact} (h1:Meets PG (PI pb) (aK one #[]) tP oneS NodeF Γ) :
  MeetsO PG (PI pb) (aa dX #[.pointer (some (aL pb)),one]) tP (og k oneS) cR Γ:=by
 refine Ao (aL pb) one ?_
 unfold ma og
 refine ag (aZ pb) (fun _ h=>nomatch h) fun x b=>Sim.prop fun h=>?_
 subst h
 refine ag h1 (fun A hA=>hA) fun y c=>?_
 refine D8 [y] [c] rfl (by decide) (by decide) (by kernel_rfl) (fun F hF=>NodesAt.one (hF _ (List.mem_cons_self ..))) fun p K=>?_
 refine go (x:={ ι:=Nat × N,sp:=fun i=>EZ oneS i.1 i.2,J:=fun i vs L'=>Fact.ex fun K:al=>(Fact.prop (vs=[]∧L'=K++[]∧i.2.kids.length+i.1≤2199023255552)).both (cR i.2 p K) }) (fun i=>i.1) (k,bw 2 kE 0 (Tok.pos x) [c]) rfl ?_ ?_ ?_
 ·exact fun F hF=>⟨K,⟨rfl,rfl,by show 1+k≤_; omega⟩,hF _ (List.mem_cons_self ..)⟩
 ·rintro i vs L' F ⟨K,⟨rfl,_⟩,_⟩; exact ⟨(),rfl⟩
 ·rintro ⟨k,n⟩ L' y'
  refine Sim.ex fun K=>Sim.both (Sim.prop fun ⟨_,hL,hn⟩=>?_)
  subst hL
  cases k with
  | zero=>intro r w F H st res S hs; cases hs
  | succ k =>
   refine ag (aA pb _) (fun _ h=>nomatch h) fun x b=>Sim.prop fun h=>?_
   subst h
   refine qA (fun _=>?_) (fun _=>?_)
   ·refine Br fun b sl ps K2 hx hb=>?_
    refine dT h1 (fun A hA=>by simp [hA]) fun y c=>?_
    subst hx
    refine ga hb (List.mem_cons_of_mem _ (List.mem_cons_self ..)) (List.mem_cons_self ..) (by simp at hn; omega) fun K=>?_
    refine DR ⟨(k,n.push c),Nat.lt_succ_self k⟩ rfl fun F hF=>⟨K,⟨rfl,rfl,by rw [N.push_len]; simp at hn ⊢; omega⟩,hF _ (List.mem_cons_self ..)⟩
   ·exact rZ K (List.sublist_append_left ..) p rfl fun F hF=>hF _ (List.mem_cons_self ..)
end Go.Proofs.YtjlgcpgjdgeejaaGreatDoor
end

section
namespace Go.Proofs.YtjlgcpgjdgeejaaGreatDoor
open Go
set_option linter.unusedSimpArgs false
set_option linter.unusedVariables false
set_option linter.constructorNameAsVariable false
set_option maxRecDepth 100000
section
variable {ε σ α β:Type} {P:Program} {I:av ε σ} {t:Ty} {Rel:β→t.den→al→Fact} {Δ:Labels ε σ β} {q:Option Quiet} {L:al} {Γ:List Fact} {s:Sp ε σ β}
theorem sB {m:T} {a:α} {k:α→Sp ε σ β} (h:Sim P I t Rel Δ q m (k a) L Γ):Sim P I t Rel Δ q m ((Pure.pure a:Sp ε σ α)>>=k) L Γ:=h
theorem qg {z v:List Value} (h:v.length=z.length):bB z 0 v=v:=by simp [bB,h]
theorem gd {T1:TypeId} {v:Value} {z:List Value} {c:Bool} {k:Addr→T} (hz:p7 P T1=some z) (hs:ci P T1=some (c,v.cells.toList.length)) (hl:v.cells.toList.length=z.length) (h1:∀ x∈v.cells.toList,x.oneCell'=true)
  (hk:∀ b,Sim P I t Rel Δ none (k ⟨b,0,none⟩) s L (Fact.at b (aq T1 v.cells.toList)::Γ)):Sim P I t Rel Δ q (.op (bj T1) tA fun r=>.op (aW T1 (.pointer (some r)) v) tU fun _=>k r) s L Γ:=by
 refine aQ (bF hz) ?_
 rintro _ _ _ ⟨b,rfl,rfl,rfl⟩
 refine aQ (a6 (L1:=[]) (T:=T1) (c:=c) rfl hs rfl (by simp [hl]) h1) ?_
 rintro _ _ _ ⟨rfl,rfl⟩
 rw [qg hl]
 exact mW (hk b)
theorem jj {T1:TypeId} {v:Value} {k:Addr→T} (hk:∀ b,Sim P I t Rel Δ none (k ⟨b,0,none⟩) s L (Fact.at b (aq T1 v.cells.toList)::Γ)):Sim P I t Rel Δ q (.op (cJ T1 v) tA k) s L Γ:=by
 refine aQ (nd v) ?_
 rintro _ _ _ ⟨b,rfl,rfl,rfl⟩
 exact mW (hk b)
theorem aN {T1 T0:TypeId} {a:Addr} {b1:B} {l:List Value} {k:b1.den→T} (x:b1.den) (hr:Fact.at a.block (aq T0 l)∈Γ) (hs:dc P T1=some true) (ha:a.spot=none) (hv:l[a.off]? = some (b1.enc x))
  (hk:Sim P I t Rel Δ none (k x) s L Γ):Sim P I t Rel Δ q (.op (ai T1 (.pointer (some a))) (.c (.b b1)) k) s L Γ:=by
 refine aQ (cN x (Rd.at hr) hs ha hv) ?_
 rintro _ _ _ ⟨rfl,rfl,rfl⟩
 exact hk
theorem nS {T1 T0:TypeId} {a:Addr} {bs:List B} {l:List Value} {k:HB bs→T} (x:HB bs) (hr:Fact.at a.block (aq T0 l)∈Γ) (hs:ci P T1=some (true,(HB.enc bs x).length)) (ha:a.spot=none) (hv:(l.drop a.off).take (HB.enc bs x).length=HB.enc bs x)
  (hk:Sim P I t Rel Δ none (k x) s L Γ):Sim P I t Rel Δ q (.op (ai T1 (.pointer (some a))) (.c (.agg bs)) k) s L Γ:=by
 refine aQ (ft x (Rd.at hr) hs ha hv) ?_
 rintro _ _ _ ⟨rfl,rfl,rfl⟩
 exact hk
theorem cL {q:Quiet} {T1 T0:TypeId} {a:Addr} {b1:B} {l:List Value} {k:b1.den→T} (x:b1.den) (hr:Fact.at a.block (aq T0 l)∈q.Γ) (hs:dc P T1=some true) (ha:a.spot=none) (hv:l[a.off]? = some (b1.enc x))
  (hk:Sim P I t Rel Δ (some q) (k x) s L Γ):Sim P I t Rel Δ (some q) (.opq (ai T1 (.pointer (some a))) (.c (.b b1)) k) s L Γ :=
 cX (t1:=.c (.b b1)) x (bR (QRd.of fun F hF=>hF _ hr) hs ha hv) hk
theorem Hx {q:Quiet} {a:Addr} {k:Addr→T} (hk:Sim P I t Rel Δ (some q) (k a) s L Γ):Sim P I t Rel Δ (some q) (.opq (bV (.pointer (some a))) tA k) s L Γ:=cX (t1:=tA) a (ng a) hk
theorem iF {a:Addr} {k:Addr→T} (hk:Sim P I t Rel Δ none (k a) s L Γ):Sim P I t Rel Δ q (.op (bV (.pointer (some a))) tA k) s L Γ:=by
 refine aQ (IC a) ?_
 rintro _ _ _ ⟨rfl,rfl,rfl⟩
 exact hk
theorem xG {t1:TypeId} {a b:Int} {k:Int→T} (hk:Sim P I t Rel Δ none (k (CN a b)) s L Γ):Sim P I t Rel Δ q (.op (bT .or t1 (.int .i64 a) (.int .i64 b)) tI k) s L Γ:=by
 refine aQ (ey (t1:=tI) (CN a b) fun w=>JN a b) ?_
 rintro _ _ _ ⟨rfl,rfl,rfl⟩
 exact hk
theorem En {t1:TypeId} {a b:ByteArray} {k:ByteArray→T} (h:a.size+b.size≤9223372036854775807) (hk:Sim P I t Rel Δ none (k (a++b)) s L Γ):Sim P I t Rel Δ q (.op (bT .add t1 (.string a) (.string b)) tS k) s L Γ:=by
 refine aQ (ey (t1:=tS) (a++b) fun w=>ep a b h) ?_
 rintro _ _ _ ⟨rfl,rfl,rfl⟩
 exact hk
def LS {δ:Type} (sp:Nat→δ→Sp ε σ β) (J:Nat→δ→List Value→al→Fact) (k:Nat):Label ε σ β:={ ι:={ j:Nat × δ // j.1 < k },sp:=fun j=>sp j.1.1 j.1.2,J:=fun j vs L=>J j.1.1 j.1.2 vs L }
theorem nw {δ:Type} {l:Nat} {ts:List C} {vs:List Value} {body:HC ts→T} (sp:Nat→δ→Sp ε σ β) (J:Nat→δ→List Value→al→Fact) (k0:Nat) (d0:δ) (hz:∀ d,sp 0 d=Sp.stop)
  (hs:s=sp k0 d0) (h0:∀ F,Holds Γ F→(J k0 d0 vs L).p F) (hJ:∀ k d vs L' F,(J k d vs L').p F→∃ y,vs=HC.enc ts y)
  (hb:∀ k d L' y,Sim P I t Rel (Δ.set l (LS sp J (k+1))) none (body y) (sp (k+1) d) L' (J (k+1) d (HC.enc ts y) L'::Γ)) :
  Sim P I t Rel Δ q (.loop l ts vs body) s L Γ:=by
 refine go (x:={ ι:=Nat × δ,sp:=fun j=>sp j.1 j.2,J:=fun j vs L=>J j.1 j.2 vs L }) (fun j=>j.1) (k0,d0) hs h0 (fun j vs L' F h=>hJ j.1 j.2 vs L' F h) ?_
 rintro ⟨k,d⟩ L' y
 cases k with
 | zero =>
  intro r w F H st res S hst
  have h1:sp 0 d st=some res:=hst
  rw [hz d] at h1; cases h1
 | succ k=>exact hb k d L' y
theorem MeetsO.congr {s0 s0':Sem Next} (h:∀ w,s0.run P w=s0'.run P w) (hm:MeetsO P I s0' t s Rel Γ):MeetsO P I s0 t s Rel Γ:=fun r w F H st res hs hF hi hsp=>by
 rw [h]; exact hm r w F H st res hs hF hi hsp
theorem eS (f:FuncId) (first cap args:Array Value) (w:World):(aK (.func (.func f) first cap) args).run P w=(aa f (first++args++cap)).run P w:=by
 simp [aK,aa,Deferred.ofValue,invoke]
theorem MeetsO.weak {s0:Sem Next} {Γ':List Fact} (hm:MeetsO P I s0 t s Rel Γ) (h:∀ A∈Γ,A∈Γ'):MeetsO P I s0 t s Rel Γ':=fun r w F H st res hs hF hi hsp=>hm r w F H st res hs (fun A hA=>hF A (h A hA)) hi hsp
end
section
variable {ε σ α β:Type} {I:av ε σ} {t:Ty} {Rel:β→t.den→al→Fact} {Δ:Labels ε σ β} {q:Option Quiet} {L:al} {Γ:List Fact} {s:Sp ε σ β}
theorem ji {m:T} {A:Fact} (hA:A∈Γ) (h:Sim PG I t Rel Δ q m s L (A::Γ)):Sim PG I t Rel Δ q m s L Γ:=Sim.know (fun F hF=>hF A hA) h
theorem qU {n:N} {x:Option Addr} {K:al} {pos:Int} {k:T} (hn:cR n x K∈Γ) (hk:∀ K,Sim PG I t Rel Δ none k s (K++L) (cR (n.setPos pos) x K::Γ)) :
  Sim PG I t Rel Δ q (.op (bV (.pointer x)) tA fun r=>.op (aW ak (.pointer (some ⟨r.block,r.off+4,none⟩)) (.int .i64 pos)) tU fun _=>k) s (K++L) Γ:=by
 refine ji hn (nI fun b sl ps K2 hx hb=>?_)
 subst hx
 refine iF ?_
 refine aQ (a6 (L1:=[]) (L2:=K2++L) (l:=co n.kind n.text n.num n.pos sl) (T:=ak) (T0:=bE) (c:=false) rfl (by kernel_rfl) rfl (Nat.le_of_ble_eq_true rfl) (by simp [Value.cells,Value.oneCell'])) ?_
 rintro _ _ _ ⟨rfl,rfl⟩
 show Sim PG I t Rel Δ none k s ((b,aq bE (bB (co n.kind n.text n.num n.pos sl) 4 [.int .i64 pos]))::(K2++L)) _
 rw [show (b,aq bE (bB (co n.kind n.text n.num n.pos sl) 4 [.int .i64 pos]))=cb b (n.setPos pos) sl by cases n; rfl]
 refine Sim.know (A:=cR (n.setPos pos) (some ⟨b,0,none⟩) (cb b (n.setPos pos) sl::K2)) (fun F hF=>?_) ((hk (cb b (n.setPos pos) sl::K2)).weak fun A hA=>?_)
 ·exact ⟨b,sl,ps,K2,⟨rfl,rfl,hb⟩,by have:=hF _ (List.mem_cons_self ..); cases n; exact this⟩
 ·rcases List.mem_cons.1 hA with rfl | hA
  ·exact List.mem_cons_self ..
  ·exact List.mem_cons_of_mem _ (List.mem_cons_of_mem _ hA)
theorem c7 {m:T} {n:N} {x:Option Addr} {K:al} (hn:cR n x K∈Γ) (h:Sim PG I t Rel Δ none m s L (NodeF n x::Γ)):Sim PG I t Rel Δ q m s (K++L) Γ:=ji hn (GZ (h.weak fun A hA=>hA))
theorem NodeF.cells {n:N} {x:Option Addr} {F:Heap} (h:(NodeF n x).p F):∃ b sl,x=some ⟨b,0,none⟩∧F b=some (aq bE (co n.kind n.text n.num n.pos sl)):=by
 have h:NodeAt F x n:=h
 cases h with
 | mk b kind text num pos kids sl ps h1 h2 h3=>exact ⟨b,sl,rfl,h1⟩
theorem i9 {m:T} {n:N} {x:Option Addr} (hn:NodeF n x∈Γ) (h:∀ b sl,x=some ⟨b,0,none⟩→Sim PG I t Rel Δ q m s L (Fact.at b (aq bE (co n.kind n.text n.num n.pos sl))::Γ)):Sim PG I t Rel Δ q m s L Γ:=by
 intro r w F H st res S hs hF hi hsp hq
 obtain ⟨b,sl,hx,hb⟩:=NodeF.cells (hF _ hn)
 exact h b sl hx r w F H st res S hs (Holds.cons hb hF) hi hsp hq
theorem ju {n:N} {x:Option Addr} {k:Int→T} (hn:NodeF n x∈Γ) (hk:Sim PG I t Rel Δ none (k n.kind) s L Γ) :
  Sim PG I t Rel Δ q (.op (bV (.pointer x)) tA fun r=>.op (ai ak (.pointer (some r))) tI k) s L Γ:=by
 refine i9 hn fun b sl hx=>?_
 subst hx
 refine iF (aN (b1:=.int .i64) n.kind (List.mem_cons_self ..) (by kernel_rfl) rfl rfl (hk.weak fun A hA=>List.mem_cons_of_mem _ hA))
theorem Iy {n:N} {x:Option Addr} {k:Int→T} (hn:NodeF n x∈Γ) (hk:Sim PG I t Rel Δ none (k n.num) s L Γ) :
  Sim PG I t Rel Δ q (.op (bV (.pointer x)) tA fun r=>.op (ai ak (.pointer (some ⟨r.block,r.off+2,none⟩))) tI k) s L Γ:=by
 refine i9 hn fun b sl hx=>?_
 subst hx
 refine iF (aN (b1:=.int .i64) n.num (List.mem_cons_self ..) (by kernel_rfl) rfl rfl (hk.weak fun A hA=>List.mem_cons_of_mem _ hA))
theorem qZ {n:N} {x:Option Addr} {K:al} {sl:aI} {ps:List (Option Addr)} {kids:List N} {k:T} (hn:cR n x K∈Γ) (hs:∀ F,Holds Γ F→(Sl 1 d5 sl ps).p F∧NodesAt F ps kids)
  (hk:Sim PG I t Rel Δ none k s L (NodeF (n.setKids kids) x::Γ)) :
  Sim PG I t Rel Δ q (.op (bV (.pointer x)) tA fun r=>.op (aW ad (.pointer (some ⟨r.block,r.off+5,none⟩)) (.slice sl.1 sl.2.1 sl.2.2)) tU fun _=>k) s (K++L) Γ:=by
 refine ji hn (nI fun b sl0 ps0 K2 hx hb=>?_)
 subst hx
 refine iF ?_
 refine aQ (a6 (L1:=[]) (L2:=K2++L) (l:=co n.kind n.text n.num n.pos sl0) (T:=ad) (T0:=bE) (c:=false) rfl (by kernel_rfl) rfl (Nat.le_of_ble_eq_true rfl) (by simp [Value.cells,Value.oneCell'])) ?_
 rintro _ _ _ ⟨rfl,rfl⟩
 show Sim PG I t Rel Δ none k s ((b,aq bE (bB (co n.kind n.text n.num n.pos sl0) 5 [.slice sl.1 sl.2.1 sl.2.2]))::(K2++L)) _
 refine mW (tN (List.sublist_append_right K2 L) ?_)
 refine Sim.know (A:=NodeF (n.setKids kids) (some ⟨b,0,none⟩)) (fun F hF=>?_) (hk.weak fun A hA=>?_)
 ·obtain ⟨h1,h2⟩:=hs F fun A hA=>hF A (List.mem_cons_of_mem _ (List.mem_cons_of_mem _ hA))
  have hb':=hF _ (List.mem_cons_self ..)
  cases n
  exact .mk b _ _ _ _ _ sl ps hb' h1 h2
 ·rcases List.mem_cons.1 hA with rfl | hA
  ·exact List.mem_cons_self ..
  ·exact List.mem_cons_of_mem _ (List.mem_cons_of_mem _ (List.mem_cons_of_mem _ hA))
theorem NodeF.kidsAt {n:N} {x:Option Addr} {F:Heap} (h:(NodeF n x).p F):∃ b sl ps,x=some ⟨b,0,none⟩∧F b=some (aq bE (co n.kind n.text n.num n.pos sl))∧(Sl 1 d5 sl ps).p F∧NodesAt F ps n.kids:=by
 have h:NodeAt F x n:=h
 cases h with
 | mk b kind text num pos kids sl ps h1 h2 h3=>exact ⟨b,sl,ps,rfl,h1,h2,h3⟩
theorem my {m:T} {n:N} {x:Option Addr} (hn:NodeF n x∈Γ) (h:∀ b sl ps,x=some ⟨b,0,none⟩→Sim PG I t Rel Δ q m s L (Fact.at b (aq bE (co n.kind n.text n.num n.pos sl))::Sl 1 d5 sl ps::cG n.kids ps::Γ)):Sim PG I t Rel Δ q m s L Γ:=by
 intro r w F H st res S hs hF hi hsp hq
 obtain ⟨b,sl,ps,hx,hb,h1,h2⟩:=NodeF.kidsAt (hF _ hn)
 exact h b sl ps hx r w F H st res S hs (Holds.cons hb (Holds.cons h1 (Holds.cons (A:=cG n.kids ps) h2 hF))) hi hsp hq
theorem Ct {n c:N} {x y:Option Addr} {K:al} {k:T} (hn:cR n x K∈Γ) (hc:NodeF c y∈Γ) (hk:Sim PG I t Rel Δ none k s L (NodeF (n.setKids c.kids) x::Γ)) :
  Sim PG I t Rel Δ q (.op (bV (.pointer y)) tA fun r=>.op (ai ad (.pointer (some ⟨r.block,r.off+5,none⟩))) ah fun sl=>.op (bV (.pointer x)) tA fun r=>.op (aW ad (.pointer (some ⟨r.block,r.off+5,none⟩)) (.slice sl.1 sl.2.1 sl.2.2)) tU fun _=>k) s (K++L) Γ:=by
 refine my hc fun b sl ps hx=>?_
 subst hx
 refine iF ?_
 refine aN (b1:=.slice) sl (List.mem_cons_self ..) (by kernel_rfl) rfl rfl ?_
 refine qZ (ps:=ps) (List.mem_cons_of_mem _ (List.mem_cons_of_mem _ (List.mem_cons_of_mem _ hn))) (fun F hF=>⟨hF _ (by repeat (first | exact mz | apply ms)),hF (cG c.kids ps) (by repeat (first | exact mz | apply ms))⟩) (hk.weak fun A hA=>?_)
 rcases List.mem_cons.1 hA with rfl | hA
 ·exact List.mem_cons_self ..
 ·exact List.mem_cons_of_mem _ (List.mem_cons_of_mem _ (List.mem_cons_of_mem _ (List.mem_cons_of_mem _ hA)))
theorem f9 {n:N} {x:Option Addr} {K:al} {m:aI→T} (hn:cR n x K∈Γ)
  (hk:∀ b sl ps K2,x=some ⟨b,0,none⟩→Buf ba 1 sl (ps.map Value.pointer) K2 →
   Sim PG I t Rel Δ (some ⟨cG n.kids ps::Γ,[cb b n sl]⟩) (m sl) s (cb b n sl::(K2++L)) (cG n.kids ps::Γ)) :
  Sim PG I t Rel Δ q (.draw<|.opq (bV (.pointer x)) tA fun r7=>.opq (ai ad (.pointer (some ⟨r7.block,r7.off+5,none⟩))) ah m) s (K++L) Γ:=by
 refine ji hn (Br fun b sl ps K2 hx hb=>?_)
 exact hk b sl ps K2 hx hb
def H6 (sp:Nat→N→Sp ε σ β) (r:Option Addr) (L:al) (k:Nat):Label ε σ β :=
 {ι:={ j:Nat × N // j.1 < k },sp:=fun j=>sp j.1.1 j.1.2,J:=fun j vs L'=>Fact.ex fun K:al=>(Fact.prop (vs=[]∧L'=K++L∧j.1.2.kids.length+2 * j.1.1≤2199023255552)).both (cR j.1.2 r K) }
theorem gX {l:Nat} {body:HC []→T} {K0:al} {r:Option Addr} (sp:Nat→N→Sp ε σ β) (k0:Nat) (n0:N) (hz:∀ d,sp 0 d=Sp.stop) (hs:s=sp k0 n0) (hn:n0.kids.length+2 * k0≤2199023255552) (h0:cR n0 r K0∈Γ)
  (hb:∀ k n K,n.kids.length+2 * (k+1)≤2199023255552→Sim PG I t Rel (Δ.set l (H6 sp r L (k+1))) none (body ()) (sp (k+1) n) (K++L) (cR n r K::Γ)):Sim PG I t Rel Δ q (.loop l [] [] body) s (K0++L) Γ:=by
 refine nw (δ:=N) sp (fun k n vs L'=>Fact.ex fun K:al=>(Fact.prop (vs=[]∧L'=K++L∧n.kids.length+2 * k≤2199023255552)).both (cR n r K)) k0 n0 hz hs (fun F hF=>⟨K0,⟨rfl,rfl,hn⟩,hF _ h0⟩) ?_ ?_
 ·rintro k n vs L' F ⟨K,⟨rfl,_⟩,_⟩; exact ⟨(),rfl⟩
 ·rintro k n L' ⟨⟩
  refine Sim.ex fun K=>Sim.both (Sim.prop fun ⟨_,hL,hn⟩=>?_)
  subst hL
  exact hb k n K hn
theorem nT {l k:Nat} {K:al} {r:Option Addr} {sp:Nat→N→Sp ε σ β} (n:N) (hx:Δ l=H6 sp r L (k+1)) (hs:s=sp k n) (hn:n.kids.length+2 * k≤2199023255552) (h:cR n r K∈Γ):Sim PG I t Rel Δ q (.out l []) s (K++L) Γ :=
 ct hx ⟨(k,n),Nat.lt_succ_self k⟩ hs fun F hF=>⟨K,⟨rfl,rfl,hn⟩,hF _ h⟩
def Hs (sp:N→Sp ε σ β) (r:Option Addr) (L:al):Label ε σ β:={ ι:=N,sp:=sp,J:=fun n vs L'=>Fact.ex fun K:al=>(Fact.prop (vs=[]∧L'=K++L)).both (cR n r K) }
theorem lI {l:Nat} {m:T} {k:HC []→T} {L0:al} (sp:N→Sp ε σ β) (r:Option Addr) (L:al) (hm:Sim PG I t Rel (Δ.set l (Hs sp r L)) q m s L0 Γ)
  (hk:∀ n K,Sim PG I t Rel Δ none (k ()) (sp n) (K++L) (cR n r K::Γ)):Sim PG I t Rel Δ q (.join l [] m k) s L0 Γ:=by
 refine ea (Hs sp r L) hm fun n vs L'=>⟨?_,?_⟩
 ·rintro F ⟨K,⟨rfl,_⟩,_⟩; exact ⟨(),rfl⟩
 ·rintro ⟨⟩
  refine Sim.ex fun K=>Sim.both (Sim.prop fun ⟨_,hL⟩=>?_)
  subst hL
  exact hk n K
theorem f8 {l:Nat} {K:al} {r:Option Addr} {sp:N→Sp ε σ β} (n:N) (hx:Δ l=Hs sp r L) (hs:s=sp n) (h:cR n r K∈Γ):Sim PG I t Rel Δ q (.out l []) s (K++L) Γ :=
 ct hx n hs fun F hF=>⟨K,⟨rfl,rfl⟩,hF _ h⟩
def H8 (sp:Nat→N→Sp ε σ β) (L:al) (k:Nat):Label ε σ β :=
 {ι:={ j:Nat × N // j.1 < k },sp:=fun j=>sp j.1.1 j.1.2,J:=fun j vs L'=>Fact.ex fun p:Option Addr=>(Fact.prop (vs=[.pointer p]∧L'=L)).both (NodeF j.1.2 p) }
theorem rY {l:Nat} {body:HC [.b .ptr]→T} {p0:Option Addr} (sp:Nat→N→Sp ε σ β) (k0:Nat) (n0:N) (hz:∀ d,sp 0 d=Sp.stop) (hs:s=sp k0 n0) (h0:NodeF n0 p0∈Γ)
  (hb:∀ k n p,Sim PG I t Rel (Δ.set l (H8 sp L (k+1))) none (body (p,())) (sp (k+1) n) L (NodeF n p::Γ)):Sim PG I t Rel Δ q (.loop l [.b .ptr] [.pointer p0] body) s L Γ:=by
 refine nw (δ:=N) sp (fun k n vs L'=>Fact.ex fun p:Option Addr=>(Fact.prop (vs=[.pointer p]∧L'=L)).both (NodeF n p)) k0 n0 hz hs (fun F hF=>⟨p0,⟨rfl,rfl⟩,hF _ h0⟩) ?_ ?_
 ·rintro k n vs L' F ⟨p,⟨rfl,_⟩,_⟩; exact ⟨(p,()),rfl⟩
 ·rintro k n L' ⟨y,⟨⟩⟩
  refine Sim.ex fun p=>Sim.both (Sim.prop fun ⟨h1,hL⟩=>?_)
  subst hL
  have h3:y=p:=by
   have:=(List.cons.inj h1).1
   cases this; rfl
  subst h3
  exact hb k n y
theorem ux {l k:Nat} {p:Option Addr} {sp:Nat→N→Sp ε σ β} (n:N) (hx:Δ l=H8 sp L (k+1)) (hs:s=sp k n) (h:NodeF n p∈Γ):Sim PG I t Rel Δ q (.out l [.pointer p]) s L Γ :=
 ct hx ⟨(k,n),Nat.lt_succ_self k⟩ hs fun F hF=>⟨p,⟨rfl,rfl⟩,hF _ h⟩
theorem jK {Rel:β→t.den→al→Fact} {Δ:Labels Int PSt β} {I:av Int PSt} {l:Nat} {m:T} {k:HC []→T} {c:Bool} {rest:PM β} (hm:Sim PG I t Rel (Δ.set l (Gx rest L)) q m (cond c cD rest) L Γ)
  (hk:Sim PG I t Rel Δ none (k ()) rest L Γ):Sim PG I t Rel Δ q (.join l [] m k) (cond c cD rest) L Γ:=fB rest hm hk
theorem dB {l:Nat} {m:T} {k:HC [.b .bool]→T} {c:Bool} {s1 s2:Sp ε σ β} (hm:Sim PG I t Rel (Δ.set l (FX (fun c=>cond c s1 s2) L)) q m (cond c s1 s2) L Γ)
  (hk:∀ c,Sim PG I t Rel Δ none (k (c,())) (cond c s1 s2) L Γ):Sim PG I t Rel Δ q (.join l [.b .bool] m k) (cond c s1 s2) L Γ:=jA (fun c=>cond c s1 s2) hm hk
theorem lA {l k:Nat} {p:Option Addr} {sp:Nat→N→Sp ε σ β} (n:N) (hs:s=sp k n) (h:NodeF n p∈Γ):Sim PG I t Rel (Δ.set l (H8 sp L (k+1))) q (.out l [.pointer p]) s L Γ:=ux n (by simp [Labels.set]) hs h
theorem lF {l l' k:Nat} {p:Option Addr} {x:Label ε σ β} {sp:Nat→N→Sp ε σ β} (n:N) (hl:l≠l') (hs:s=sp k n) (h:NodeF n p∈Γ):Sim PG I t Rel ((Δ.set l (H8 sp L (k+1))).set l' x) q (.out l [.pointer p]) s L Γ:=ux n (by simp [Labels.set,hl]) hs h
theorem jy {l k:Nat} {K:al} {r:Option Addr} {sp:Nat→N→Sp ε σ β} (n:N) (hs:s=sp k n) (hn:n.kids.length+2 * k≤2199023255552) (h:cR n r K∈Γ):Sim PG I t Rel (Δ.set l (H6 sp r L (k+1))) q (.out l []) s (K++L) Γ:=nT n (by simp [Labels.set]) hs hn h
theorem jz {l l' k:Nat} {K:al} {r:Option Addr} {x:Label ε σ β} {sp:Nat→N→Sp ε σ β} (n:N) (hl:l≠l') (hs:s=sp k n) (hn:n.kids.length+2 * k≤2199023255552) (h:cR n r K∈Γ):Sim PG I t Rel ((Δ.set l (H6 sp r L (k+1))).set l' x) q (.out l []) s (K++L) Γ:=nT n (by simp [Labels.set,hl]) hs hn h
def Ex (s':N × N→Sp ε σ β):Label ε σ β :=
 {ι:=N × N,sp:=s',J:=fun c vs L'=>Fact.ex fun p1:Option Addr=>Fact.ex fun p2:Option Addr=>(Fact.prop (vs=[.pointer p1,.pointer p2]∧L'=[])).both ((NodeF c.1 p1).both (NodeF c.2 p2)) }
theorem DN {l:Nat} {m:T} {k:HC [.b .ptr,.b .ptr]→T} {a:Sp ε σ (N × N)} {s':N × N→Sp ε σ β} (hm:Sim PG I t Rel (Δ.set l (Ex s')) q m (a>>=s') L Γ)
  (hk:∀ n1 n2 p1 p2,Sim PG I t Rel Δ none (k (p1,p2,())) (s' (n1,n2)) [] (NodeF n1 p1::NodeF n2 p2::Γ)):Sim PG I t Rel Δ q (.join l [.b .ptr,.b .ptr] m k) (a>>=s') L Γ:=by
 refine ea (Ex s') hm fun c vs L'=>⟨?_,?_⟩
 ·rintro F ⟨p1,p2,⟨rfl,_⟩,_⟩; exact ⟨(p1,p2,()),rfl⟩
 ·rintro ⟨y1,y2,⟨⟩⟩
  refine Sim.ex fun p1=>Sim.ex fun p2=>Sim.both (Sim.prop fun ⟨h1,h2⟩=>Sim.both ?_)
  subst h2
  have e1:y1=p1:=by
   have:=(List.cons.inj h1).1
   cases this; rfl
  have e2:y2=p2:=by
   have:=(List.cons.inj (List.cons.inj h1).2).1
   cases this; rfl
  subst e1; subst e2
  exact hk c.1 c.2 _ _
theorem yG {l:Nat} {p1 p2:Option Addr} {s':N × N→Sp ε σ β} (c:N × N) (hs:s=s' c) (h1:NodeF c.1 p1∈Γ) (h2:NodeF c.2 p2∈Γ):Sim PG I t Rel (Δ.set l (Ex s')) q (.out l [.pointer p1,.pointer p2]) s L Γ:=by
 refine (tN (List.nil_sublist L) ?_).lift
 exact ct (x:=Ex s') (by simp [Labels.set]) c hs fun F hF=>⟨p1,p2,⟨rfl,rfl⟩,hF _ h1,hF _ h2⟩
theorem Gq {n c:N} {x y:Option Addr} {K:al} {k:T} (hn:cR n x K∈Γ) (hc:NodeF c y∈Γ) (hlen:n.kids.length≤4398046511104)
  (hk:∀ K,Sim PG I t Rel Δ none k s (K++L) (cR (n.push c) x K::Γ)) :
  Sim PG I t Rel Δ q (.op (bV (.pointer x)) tA fun r7=>.op (ai ad (.pointer (some ⟨r7.block,r7.off+5,none⟩))) ah fun sl=>.op (ar ad 1 #[(0,.pointer y)]) ah fun r10=>.op (dg #[ad,ad] ad #[.slice sl.1 sl.2.1 sl.2.2,.slice r10.1 r10.2.1 r10.2.2]) ah fun r11 =>
   .op (bV (.pointer x)) tA fun r12=>.op (aW ad (.pointer (some ⟨r12.block,r12.off+5,none⟩)) (.slice r11.1 r11.2.1 r11.2.2)) tU fun _=>k) s (K++L) Γ:=by
 refine ji hn (nI fun b sl ps K2 hx hb=>?_)
 subst hx
 refine Sim.note (φ:=ps.length=n.kids.length) (fun F hF=>NodesAt.length (hF (cG n.kids ps) (List.mem_cons_self ..))) fun hl=>?_
 refine iF ?_
 refine aQ (cN (b1:=.slice) (x:=sl) (Rd.own (List.mem_cons_self ..)) (by kernel_rfl) rfl rfl) ?_
 rintro _ _ _ ⟨rfl,rfl,rfl⟩
 refine aQ yd ?_
 rintro _ _ _ ⟨bn,rfl,rfl,rfl⟩
 have hsl:sl.2.1=ps.length:=by have:=hb.len; simp at this; omega
 refine kW (L':=K2++(cb b n sl::L)) List.perm_middle ?_
 refine aQ (eM (L0:=cb b n sl::L) (K:=K2) (size:=1) (bytes:=8) (e:=ba) (m:=1) (news:=[.pointer y]) (by kernel_rfl) rfl hb (Rd.at (List.mem_cons_self ..)) rfl rfl rfl (by decide) (by simp [Value.oneCell']) (by omega) (by omega)) ?_
 rintro x _ _ ⟨K',rfl,rfl,hx,hb'⟩
 refine iF ?_
 refine aQ (a6 (L1:=K') (L2:=L) (l:=co n.kind n.text n.num n.pos sl) (T:=ad) (T0:=bE) (c:=false) rfl (by kernel_rfl) rfl (Nat.le_of_ble_eq_true rfl) (by simp [Value.cells,Value.oneCell'])) ?_
 rintro _ _ _ ⟨rfl,rfl⟩
 refine kW (L':=(b,aq bE (bB (co n.kind n.text n.num n.pos sl) 5 [.slice x.1 x.2.1 x.2.2]))::(K'++L)) List.perm_middle.symm ?_
 rw [show (b,aq bE (bB (co n.kind n.text n.num n.pos sl) 5 [.slice x.1 x.2.1 x.2.2]))=cb b (n.push c) x by cases n; rfl]
 refine Sim.know (A:=cR (n.push c) (some ⟨b,0,none⟩) (cb b (n.push c) x::K')) (fun F hF=>?_) ((hk (cb b (n.push c) x::K')).weak fun A hA=>?_)
 ·refine ⟨b,x,ps++[y],K',⟨rfl,rfl,by simpa using hb'⟩,?_⟩
  rw [N.push_eq]
  exact NodesAt.snoc (hF _ (List.mem_cons_of_mem _ (List.mem_cons_of_mem _ hc))) (hF (cG n.kids ps) (List.mem_cons_of_mem _ (List.mem_cons_self ..)))
 ·rcases List.mem_cons.1 hA with rfl | hA
  ·exact List.mem_cons_self ..
  ·exact List.mem_cons_of_mem _ (List.mem_cons_of_mem _ (List.mem_cons_of_mem _ hA))
def sI (P:Program) (t:TypeId):Bool:=match P.underlying t with
 | some (.pointer _)=>true
 | _=>false
theorem uQ {P:Program} {t:TypeId} (h:sI P t=true):∃ e,P.underlying t=some (.pointer e):=by
 unfold sI at h
 split at h
 ·exact ⟨_,by assumption⟩
 ·cases h
theorem Fm {P:Program} {t:TypeId} (ht:sI P t=true) (p:Option Addr) (w:World):(bT .eql t (.pointer p) (.pointer none)).run P w=.ok (.value (.bool p.isNone)) w:=by
 obtain ⟨e,hu⟩:=uQ ht
 have h:(Op.equal t (.pointer p) (.pointer none)).run P w=.ok p.isNone w:=by
  unfold Op.equal
  rw [show Op.maxDepth=9999+1 from rfl,Op.equalIn]
  rw [Sem.run_bind,run_underlying hu,Result.andThen_ok]
  cases p<;>rfl
 simp [bT,cj,eqGuard,binOp,h]
theorem Gh {P:Program} {t:TypeId} (ht:sI P t=true) (p:Option Addr) (w:World):(bT .neq t (.pointer p) (.pointer none)).run P w=.ok (.value (.bool !p.isNone)) w:=by
 obtain ⟨e,hu⟩:=uQ ht
 have h:(Op.equal t (.pointer p) (.pointer none)).run P w=.ok p.isNone w:=by
  unfold Op.equal
  rw [show Op.maxDepth=9999+1 from rfl,Op.equalIn]
  rw [Sem.run_bind,run_underlying hu,Result.andThen_ok]
  cases p<;>rfl
 simp [bT,cj,eqGuard,binOp,h]
theorem y6 {t1:TypeId} {p:Option Addr} {k:Bool→T} (ht:sI PG t1=true) (hk:Sim PG I t Rel Δ none (k p.isNone) s L Γ):Sim PG I t Rel Δ q (.op (bT .eql t1 (.pointer p) (.pointer none)) tB k) s L Γ:=by
 refine aQ (ey (t1:=tB) p.isNone fun w=>Fm ht p w) ?_
 rintro _ _ _ ⟨rfl,rfl,rfl⟩
 exact hk
theorem yM {t1:TypeId} {p:Option Addr} {k:Bool→T} (ht:sI PG t1=true) (hk:Sim PG I t Rel Δ none (k !p.isNone) s L Γ):Sim PG I t Rel Δ q (.op (bT .neq t1 (.pointer p) (.pointer none)) tB k) s L Γ:=by
 refine aQ (ey (t1:=tB) (!p.isNone) fun w=>Gh ht p w) ?_
 rintro _ _ _ ⟨rfl,rfl,rfl⟩
 exact hk
theorem Bt {m:T}:Sim PG I t Rel Δ q m (Sp.stop:Sp ε σ β) L Γ:=fun r w F H st res S hs=>by cases hs
theorem wb (f:FuncId) (a p:Value) (w:World):(aK (.func (.func f) #[] #[p]) #[a]).run PG w=(aa f #[a,p]).run PG w:=by rw [eS]; rfl
theorem fA (f:FuncId) (p:Value) (w:World):(aK (.func (.func f) #[p] #[]) #[]).run PG w=(aa f #[p]).run PG w:=by rw [eS]; rfl
theorem vb (f:FuncId) (p:Value) (w:World):(aK (.func (.func f) #[] #[p]) #[]).run PG w=(aa f #[p]).run PG w:=by rw [eS]; rfl
theorem vd (f:FuncId) (p u:Value) (w:World):(aK (.func (.func f) #[] #[p,u]) #[]).run PG w=(aa f #[p,u]).run PG w:=by rw [eS]; rfl
theorem ed {α γ:Type} (k:γ→PM α) (st:PSt):∃ y,(cD:PM Unit) st=some (.err y)∧((cD:PM γ)>>=k) st=some (.err y):=⟨_,rfl,rfl⟩
theorem ws (Le:al) (hLe:∀ p∈Le,p∈L) {n:N} {x:Option Addr} {K:al} {m:aI→T} (hn:cR n x K∈Γ)
  (hk:∀ b sl ps K2,x=some ⟨b,0,none⟩→Buf ba 1 sl (ps.map Value.pointer) K2 →
   Sim PG I t Rel Δ (some ⟨cG n.kids ps::Γ,cb b n sl::Le⟩) (m sl) s (cb b n sl::(K2++L)) (cG n.kids ps::Γ)) :
  Sim PG I t Rel Δ q (.draw<|.opq (bV (.pointer x)) tA fun r7=>.opq (ai ad (.pointer (some ⟨r7.block,r7.off+5,none⟩))) ah m) s (K++L) Γ:=by
 refine ji hn (FM Le hLe fun b sl ps K2 hx hb=>?_)
 exact hk b sl ps K2 hx hb
end
end Go.Proofs.YtjlgcpgjdgeejaaGreatDoor
end

section
namespace Go.Proofs.YtjlgcpgjdgeejaaGreatDoor
open Go
set_option linter.unusedSimpArgs false
set_option linter.unusedVariables false
set_option maxRecDepth 100000
structure aY where
 fuel:Nat
 expr:PM N
 typed:PM N
 block:PM N
 unary:PM N
 branch:PM N
 statement:PM N
 declaration:Tok→PM (Option N)
def IR:aY:=⟨0,Sp.stop,Sp.stop,Sp.stop,Sp.stop,Sp.stop,Sp.stop,fun _=>Sp.stop⟩
abbrev oq (x y:PM Bool):PM Bool:=do let b ← x; cond b (pure true) y
abbrev yk (x y:PM Bool):PM Bool:=do let b ← x; cond b y (pure false)
def LR (pos:Int) (l:List N):N:=bw 2 kE 0 pos l
def cH (t:Tok):Int :=
 if t.kind==6 then 1 else if t.kind==8 then -1 else if t.kind==9 then
  if t.text.toList==k_lp.toList||t.text.toList==k_lb.toList||t.text.toList==k_lc.toList then 1
  else if t.text.toList==k_rp.toList||t.text.toList==k_rb.toList||t.text.toList==k_rc.toList then -1 else 0
 else 0
def m4 (l:List Tok):Nat→Nat→Int→Tok
 | 0,_,_=>l.getD (l.length - 1) cf
 | k+1,i,n=>let n:=n+cH (l.getD i cf)
  if n==0 then l.getD (min (i+1) (l.length - 1)) cf else m4 l k (i+1) n
def xj:PM Tok:=fun s=>some (.ok (m4 s.l (s.l.length - s.i) s.i 0) s)
def el (t:Tok):Bool:=t.kind==9&&decide (2≤t.text.size)&&a7 t.text 0==62
def dR (t:Tok):Tok:=⟨t.kind,t.text.extract 1 t.text.size,IntKind.i64.wrap (t.pos+1),t.fin,()⟩
def jF (t:Tok):HC [.agg d3,.b .bool]:=if el t then (dR t,true,()) else (cf,false,())
def vj:PM Unit:=do
 let b ← bf k_gt
 cond b (pure ()) do
  let t ← cg
  cond (el t) (fun s=>some (.ok () { s with left:=dR t,split:=true })) cD
def rR (s:ByteArray):Int:=(Lib.atoi s.data.toList).getD 0
def gT (R:aY):PM N:=do
 let t ← cg
 let b ← bf jh
 cond b (do
  let l ← og R.fuel R.typed
  vj
  pure (l.setPos t.pos)) fi
def GS:PM N:=do
 let t ← cg
 let s ← db
 pure (bw 67 s 0 t.pos [])
def qH (R:aY):PM N:=do
 let t ← cg
 let b ← bf jh
 cond b (do
  let l ← og R.fuel GS
  vj
  pure (l.setPos t.pos)) fi
def vT:Nat→ByteArray→PM ByteArray
 | 0,_=>Sp.stop
 | k+1,s=>do
  let b ← bf k_dot
  cond b (do let x ← db; vT k (s++(k_dot++x))) (pure s)
def EK (R:aY):PM N:=do
 let t ← cg
 let b ← oq (bf knull) (oq (bf kundefined) (oq (bf ktrue) (bf kfalse)))
 cond b (do let e ← fi; pure (bw 80 t.text 0 t.pos [e])) do
  let s ← db
  let s ← vT R.fuel s
  let a ← gT R
  pure (bw 80 s 0 t.pos [a])
def Bb (R:aY) (word:ByteArray):PM N:=do
 let t ← cg
 let b ← bf word
 cond b (do let l ← og R.fuel (EK R); pure (l.setPos t.pos)) fi
def jD (R:aY):PM N:=do
 let b ← bf gK
 cond b R.typed iD
def Ca (R:aY) (marks:Bool):PM N:=do
 let t ← cg
 let b ← cond marks (bf Ej) (pure false)
 let n ← cond b (pure (CN 0 2)) (pure 0)
 let b ← cond marks (bf n9) (pure false)
 let n ← cond b (pure (CN n 4)) (pure n)
 let s ← db
 let b ← bf nc
 let n ← cond b (pure (CN n 1)) (pure n)
 let o ← jD R
 pure (bw 66 s n t.pos [o])
def lc (R:aY) (marks:Bool):PM N:=do
 let b ← d4 k_rp
 cond b fi (og R.fuel (Ca R marks))
def B5 (R:aY):PM N:=do
 let t ← cg
 let s ← db
 let b ← d4 k_lp
 cond b (do
  let o ← cg
  bC k_lp
  let l ← lc R false
  bC k_rp
  bC gK
  let x ← R.typed
  pure (bw 85 s 0 t.pos [bw 86 kE 0 o.pos [l,x]])) do
  let q ← bf nc
  let n ← cond q (pure 1) (pure 0)
  bC gK
  let x ← R.typed
  pure (bw 85 s n t.pos [x])
def yc (R:aY):Nat→N→PM N
 | 0,_=>Sp.stop
 | k+1,n=>do
  let b ← d4 k_rc
  cond b (do bC k_rc; pure n) do
   let x ← B5 R
   let b ← oq (bf cS) (bf jB)
   cond b (yc R k (n.push x)) (do bC k_rc; pure (n.push x))
def lu (R:aY):PM N:=do
 let t ← cg
 bC k_lc
 yc R R.fuel (bw 84 kE 0 t.pos [])
def qo (R:aY):PM N:=do
 let t ← cg
 bC k_lp
 let l ← lc R false
 bC k_rp
 bC gH
 let x ← R.typed
 pure (bw 86 kE 0 t.pos [l,x])
def BC (R:aY):PM N:=do
 let t ← cg
 let b ← yk (d4 k_lp) (do let c ← xj; pure (dO c gH))
 cond b (qo R) do
  let b ← bf k_lp
  cond b (do let x ← R.typed; bC k_rp; pure x) <|
   cond (t.kind==3) (do let _ ← d2; pure (bw 81 kE (rR t.text) t.pos [])) do
    let b ← bf ix
    cond b (do
     let u ← cg
     cond (u.kind != 3) cD (do let v ← d2; pure (bw 81 kE (IntKind.i64.wrap (0 - rR v.text)) t.pos []))) <|
     cond (t.kind==4) (do let _ ← d2; pure (bw 82 t.text 0 t.pos [])) do
      let b ← d4 k_lc
      cond b (lu R) (EK R)
def yf (pos:Int):Nat→N→PM N
 | 0,_=>Sp.stop
 | k+1,n=>do
  let b ← yk (d4 k_lb) (do let t ← ou 1; pure (dO t k_rb))
  cond b (do let _ ← d2; let _ ← d2; yf pos k (bw 83 kE 0 pos [n])) (pure n)
def A0 (R:aY):PM N:=do
 let t ← cg
 let x ← BC R
 yf t.pos R.fuel x
def BD (R:aY):Nat→N→PM N
 | 0,_=>Sp.stop
 | k+1,n=>do
  let b ← bf j8
  cond b (do let x ← A0 R; BD R k (n.push x)) (pure n)
def Cd (R:aY):PM N:=do
 let t ← cg
 let _ ← bf j8
 let x ← A0 R
 let b ← d4 j8
 cond b (BD R R.fuel (bw 87 kE 0 t.pos [x])) (pure x)
def o8 (R:aY):PM Bool:=fun s=>match (do let _ ← gT R; d4 k_lp:PM Bool) s with
 | none=>none
 | some (.err _)=>some (.ok false s)
 | some (.ok b _)=>some (.ok b s)
def Bo:PM Bool:=do
 let t ← cg
 cond (t.kind==1) (do let u ← ou 1; pure (dO u gH)) do
  let b ← d4 k_lp
  cond b (do let u ← xj; pure (dO u gH)) (d4 jh)
def t6 (R:aY) (pos:Int):PM N:=do
 let e1 ← fi
 let e2 ← fi
 let t ← cg
 let vp ← cond (t.kind==1) (do
   let s ← db
   let o ← iD
   pure (e1,e2.setKids [bw 66 s 0 pos [o]])) (do
   let v ← qH R
   bC k_lp
   let p ← lc R false
   bC k_rp
   pure (v,p):PM (N × N))
 bC gH
 let b ← d4 k_lc
 let x ← cond b R.block R.expr
 pure (bw 22 kE 0 pos [vp.1,vp.2,x])
def E8 (R:aY) (sx:PM N):PM N:=do
 let t ← cg
 let a ← Bo
 cond a (t6 R t.pos) do
  let x ← sx
  let u ← cg
  let b ← oq (bf oC) (oq (bf yV) (oq (bf wm) (oq (bf yT) (bf BA))))
  cond b (cond (x.kind != 17&&x.kind != 29&&x.kind != 30) cD (do
   let y ← R.expr
   pure (bw 26 u.text 0 t.pos [x,y]))) (pure x)
def pA (R:aY):PM N:=do
 bC k_lp
 let e ← fi
 let b ← d4 k_rp
 let l ← cond b (pure e) (og R.fuel R.expr)
 bC k_rp
 pure l
def CA (R:aY):Nat→N→PM N
 | 0,_=>Sp.stop
 | k+1,n=>do
  let b ← d4 k_rc
  cond b (do bC k_rc; pure n) do
   let t ← cg
   let s ← db
   let c ← bf gK
   let x ← cond c R.expr (pure (bw 17 s 0 t.pos []))
   let b ← bf jB
   let n:=n.push (bw 21 s 0 t.pos [x])
   cond b (CA R k n) (do bC k_rc; pure n)
def xE (R:aY):PM N:=do
 let t ← cg
 bC k_lc
 CA R R.fuel (bw 20 kE 0 t.pos [])
def no (R:aY):Nat→Tok→N→PM N
 | 0,_,_=>Sp.stop
 | k+1,t,n=>cond (t.kind != 5&&t.kind != 8) (do
   let x ← R.expr
   let u ← cg
   cond (u.kind != 7&&u.kind != 8) cD do
    let v ← d2
    no R k v ((n.push x).push (bw 11 v.text 0 v.pos []))) (pure n)
def rE (R:aY):PM N:=do
 let t ← d2
 no R R.fuel t (bw 12 kE 0 t.pos [bw 11 t.text 0 t.pos []])
def gY (s:ByteArray):Int :=
 if s.toList==ktrue.toList then 13 else if s.toList==kfalse.toList then 14 else if s.toList==knull.toList then 15
 else if s.toList==kundefined.toList then 16 else if s.toList==kthis.toList then 18 else 0
def membersS (pos:Int):Nat→N→PM N
 | 0,_=>Sp.stop
 | k+1,x=>do
  let b ← bf k_dot
  cond b (do let s ← db; membersS pos k (bw 29 s 0 pos [x])) (pure x)
def xp (R:aY) (t:Tok):PM N :=
 cond (gY t.text != 0) (do let _ ← d2; pure (bw (gY t.text) kE 0 t.pos [])) do
  let b ← bf JI
  cond b (do
   let f ← cg
   let s ← db
   let x ← membersS f.pos R.fuel (bw 17 s 0 f.pos [])
   let a ← gT R
   let g ← pA R
   pure (bw 28 kE 0 t.pos [x,a,g])) do
    let b ← bf FT
    cond b (do
     let d ← bf k_dot
     cond d (do let s ← db; pure (bw 32 s 0 t.pos [])) (do let g ← pA R; pure (bw 31 kE 0 t.pos [g]))) cD
def uz (R:aY):PM N:=do
 let t ← cg
 cond (t.kind==3) (do let _ ← d2; pure (bw 10 kE (rR t.text) t.pos [])) <|
  cond (t.kind==4) (do let _ ← d2; pure (bw 11 t.text 0 t.pos [])) <|
  cond (t.kind==5||t.kind==6) (rE R) <|
  cond (t.kind==1) (do let _ ← d2; pure (bw 17 t.text 0 t.pos [])) <|
  cond (t.kind==2) (xp R t) do
   let b ← bf k_lp
   cond b (do let x ← R.expr; bC k_rp; pure x) do
    let b ← bf k_lb
    cond b (do
     let e ← d4 k_rb
     let l ← cond e (pure (LR t.pos [])) (og R.fuel R.expr)
     bC k_rb
     pure (bw 19 kE 0 t.pos l.kids)) (xE R)
def pI (R:aY) (pos:Int):Nat→N→PM N
 | 0,_=>Sp.stop
 | k+1,x=>do
  let b ← bf k_dot
  cond b (do let s ← db; pI R pos k (bw 29 s 0 pos [x])) do
   let b ← bf k_lb
   cond b (do let y ← R.expr; bC k_rb; pI R pos k (bw 30 kE 0 pos [x,y])) do
    let b ← oq (d4 k_lp) (yk (d4 jh) (o8 R))
    cond b (do let a ← gT R; let g ← pA R; pI R pos k (bw 27 kE 0 pos [x,a,g])) do
     let b ← bf vJ
     cond b (pI R pos k (bw 34 kE 0 pos [x])) (pure x)
def uF (R:aY):PM N:=do
 let t ← cg
 let x ← uz R
 pI R t.pos R.fuel x
def wo (R:aY):PM N:=do
 let t ← cg
 let b ← oq (bf vJ) (oq (bf ix) (oq (bf DP) (bf D1)))
 cond b (do let x ← R.unary; pure (bw 23 t.text 0 t.pos [x])) (uF R)
def i7 (n:Nat):List ByteArray :=
 match n with
 | 0=>[lJ] | 1=>[lE] | 2=>[j8] | 3=>[pw] | 4=>[uZ] | 5=>[j2,ia]
 | 6=>[jh,pE,k_gt,p5,FR,kas] | 7=>[pB,pd,j3] | 8=>[rm,ix] | 9=>[ru,wA] | _=>[]
def np:List ByteArray→PM (Option ByteArray)
 | []=>pure none
 | s::l=>do
  let b ← bf s
  cond b (pure (some s)) (np l)
def jT (R:aY) (ss:List ByteArray) (pos:Int) (below:PM N):Nat→N→PM N
 | 0,_=>Sp.stop
 | k+1,x=>np ss>>=fun o=>match o with
  | none=>pure x
  | some s=>cond (s.toList==kas.toList) (do let y ← R.typed; jT R ss pos below k (bw 33 kE 0 pos [x,y])) (do let y ← below; jT R ss pos below k (bw 24 s 0 pos [x,y]))
def jR (R:aY):Nat→PM N
 | 0=>wo R
 | m+1=>do
  let t ← cg
  let x ← jR R m
  jT R (i7 (9 - m)) t.pos (jR R m) R.fuel x
def sx (R:aY):PM N:=do
 let t ← cg
 let x ← jR R 10
 let b ← bf nc
 cond b (do
  let y ← R.expr
  bC gK
  let z ← R.expr
  pure (bw 25 kE 0 t.pos [x,y,z])) (pure x)
def Bh (R:aY):Nat→N→PM N
 | 0,_=>Sp.stop
 | k+1,n=>do
  let b ← d4 k_rc
  cond b (do bC k_rc; pure n) (do let x ← R.statement; Bh R k (n.push x))
def CM (R:aY):PM N:=do
 let t ← cg
 bC k_lc
 Bh R R.fuel (bw 63 kE 0 t.pos [])
def uL (R:aY):PM N:=do
 bC k_lp
 let x ← R.expr
 bC k_rp
 pure x
def rJ (R:aY) (kind pos:Int) (may:Bool):PM N:=do
 let n ← iD
 let c ← cond (!may) (pure true) (do let b ← d4 cS; pure (!b))
 let x ← cond c R.expr (pure n)
 bC cS
 pure (bw kind kE 0 pos [x])
def lK (R:aY) (n pos:Int):PM N:=do
 let s ← db
 let t ← jD R
 bC oC
 let x ← R.expr
 pure (bw 40 s n pos [t,x])
def ot (R:aY) (kind pos:Int):PM N:=do
 let s ← db
 let v ← qH R
 bC k_lp
 let l ← lc R false
 bC k_rp
 let t ← jD R
 let b ← R.block
 pure (bw kind s 0 pos [v,l,t,b])
def Fb (R:aY) (e:ByteArray):PM N:=do
 let n ← iD
 let b ← d4 e
 let x ← cond b (pure n) R.expr
 bC e
 pure x
def EF (R:aY) (pos:Int):PM N:=do
 bC k_lp
 let b ← yk (oq (d4 rW) (d4 kconst)) (yk (do let t ← ou 1; pure (t.kind==1)) (do let t ← ou 2; pure (dO t Gd)))
 cond b (do
  let t ← d2
  let n ← cond (t.text.toList==kconst.toList) (pure 1) (pure 0)
  let s ← db
  bC Gd
  let x ← R.expr
  bC k_rp
  let y ← R.block
  pure (bw 56 s n pos [x,y])) do
   let n ← iD
   let t ← cg
   let b ← bf rW
   let f ← cond b (lK R 0 t.pos) (pure n)
   bC cS
   let c ← Fb R cS
   let d ← Fb R k_rp
   let y ← R.block
   pure (bw 55 kE 0 pos [f,c,d,y])
def Hn (R:aY) (pos:Int):PM N:=do
 let x ← R.block
 let n ← iD
 let t ← cg
 let b ← bf FG
 let y ← cond b (do
  bC k_lp
  let s ← db
  bC k_rp
  let z ← R.block
  pure (bw 62 s 0 t.pos [z])) (pure n)
 let n ← iD
 let b ← bf B9
 let z ← cond b R.block (pure n)
 cond (y.kind==1&&z.kind==1) cD (pure (bw 61 kE 0 pos [x,y,z]))
def sn (R:aY):PM N:=do
 let t ← cg
 bC D5
 let x ← uL R
 let y ← R.block
 let n ← iD
 let b ← bf HJ
 let z ← cond b (do let c ← d4 D5; cond c R.branch R.block) (pure n)
 pure (bw 53 kE 0 t.pos [x,y,z])
def Fk (R:aY):PM N:=do
 let t ← cg
 let b ← bf rA
 cond b (do
  bC k_lp
  let l ← lc R true
  bC k_rp
  let y ← R.block
  pure (bw 46 kE 0 t.pos [l,y])) do
   let u ← ou 1
   let c ← (do let v ← cg; cond (v.kind==1) (cond (dO u k_lp) (pure true) (pure (dO u jh))) (pure false):PM Bool)
   cond c (ot R 45 t.pos) do
    let r ← bf n9
    let m ← cond r (pure 4) (pure 0)
    let s ← db
    let o ← jD R
    let n ← iD
    let b ← bf oC
    let x ← cond b R.expr (pure n)
    bC cS
    pure (bw 44 s m t.pos [o,x])
def membersCS (R:aY):Nat→Int→N→PM (Int × N)
 | 0,_,_=>Sp.stop
 | k+1,c,n=>do
  let b ← d4 k_rc
  cond b (pure (c,n)) (do let x ← Fk R; membersCS R k (if x.kind==46 then c+1 else c) (n.push x))
def BY (R:aY) (pos:Int):PM N:=do
 let s ← db
 let v ← qH R
 let n ← iD
 let t ← cg
 let b ← bf qe
 let base ← cond b (do
  let m ← db
  let a ← gT R
  pure (bw 43 m 0 t.pos [a])) (pure n)
 let impl ← Bb R tz
 bC k_lc
 let e ← fi
 let cp ← membersCS R R.fuel 0 e
 cond (decide (cp.1 > 1)) cD do
  bC k_rc
  pure (bw 42 s 0 pos [v,base,impl,cp.2])
def BI (R:aY):Nat→N→PM N
 | 0,_=>Sp.stop
 | k+1,n=>do
  let b ← d4 k_rc
  cond b (do bC k_rc; pure n) do
   let t ← cg
   let s ← db
   let z ← iD
   let c ← bf oC
   let x ← cond c R.expr (pure z)
   let b ← bf jB
   let n:=n.push (bw 48 s 0 t.pos [x])
   cond b (BI R k n) (do bC k_rc; pure n)
def A3 (R:aY) (n pos:Int):PM N:=do
 bC su
 let s ← db
 bC k_lc
 BI R R.fuel (bw 47 s n pos [])
def sa (R:aY):Nat→N→PM N
 | 0,_=>Sp.stop
 | k+1,n=>do
  let b ← d4 k_rc
  cond b (do bC k_rc; pure n) do
   let t ← cg
   let b ← bf D7
   cond b (do
    let c ← oq (d4 rW) (do let u ← cg; pure (u.kind != 2))
    cond c cD do
     let u ← cg
     let x ← R.declaration u
     match x with
     | none=>cD
     | some x=>cond (x.kind==47&&x.num==1) cD (sa R k (n.push (bw 50 kE 0 t.pos [x])))) (do
    let x ← R.statement
    sa R k (n.push x))
def qR (R:aY) (pos:Int):PM N:=do
 let s ← db
 bC k_lc
 sa R R.fuel (bw 49 s 0 pos [])
def jX (R:aY) (t:Tok):PM (Option N):=do
 let b ← yk (d4 kconst) (do let u ← ou 1; pure (dO u su))
 cond b (do let _ ← d2; let x ← A3 R 1 t.pos; pure (some x)) do
  let b ← bf rW
  cond b (do let x ← lK R 0 t.pos; bC cS; pure (some x)) do
   let b ← bf kconst
   cond b (do let x ← lK R 1 t.pos; bC cS; pure (some x)) do
    let b ← bf za
    cond b (do let x ← ot R 41 t.pos; pure (some x)) do
     let b ← bf Fo
     cond b (do let x ← BY R t.pos; pure (some x)) do
      let b ← d4 su
      cond b (do let x ← A3 R 0 t.pos; pure (some x)) do
       let b ← bf vh
       cond b (do let x ← qR R t.pos; pure (some x)) do
        let b ← bf uU
        cond b (do
         let s ← db
         let v ← qH R
         let l ← Bb R qe
         let o ← lu R
         pure (some (bw 51 s 0 t.pos [v,l,o]))) do
          let b ← bf H9
          cond b (do
           let s ← db
           let v ← qH R
           bC oC
           let x ← R.typed
           bC cS
           pure (some (bw 52 s 0 t.pos [v,x]))) (pure none)
def ll (R:aY) (t:Tok):PM N:=do
 let b ← d4 k_lc
 cond b R.block do
  let b ← bf cS
  cond b (pure (bw 65 kE 0 t.pos [])) do
   let b ← d4 D5
   cond b (sn R) do
    let b ← bf Gr
    cond b (do let x ← uL R; let y ← R.block; pure (bw 54 kE 0 t.pos [x,y])) do
     let b ← bf JL
     cond b (EF R t.pos) do
      let b ← bf Ee
      cond b (rJ R 57 t.pos true) do
       let b ← bf FY
       cond b (rJ R 60 t.pos false) do
        let b ← bf Fu
        cond b (do bC cS; pure (bw 58 kE 0 t.pos [])) do
         let b ← bf yP
         cond b (do bC cS; pure (bw 59 kE 0 t.pos [])) do
          let b ← bf Jz
          cond b (Hn R t.pos) (rJ R 64 t.pos false)
def qc (R:aY):PM N:=do
 let t ← cg
 cond (t.kind==2) (do
  let x ← jX R t
  match x with
  | some x=>pure x
  | none=>ll R t) (ll R t)
def Ld (R:aY):aY :=
 {fuel:=R.fuel+1,expr:=E8 R (sx R),typed:=Cd R,block:=CM R,unary:=wo R,branch:=sn R,statement:=qc R,declaration:=jX R }
def gx:Nat→aY
 | 0=>IR
 | n+1=>Ld (gx n)
end Go.Proofs.YtjlgcpgjdgeejaaGreatDoor
end

section
namespace Go.Proofs.YtjlgcpgjdgeejaaGreatDoor
open Go
set_option linter.unusedSimpArgs false
set_option linter.unusedVariables false
set_option linter.constructorNameAsVariable false
set_option maxRecDepth 100000
theorem ER {ε σ β:Type} {P:Program} {I:av ε σ} {t:Ty} {Rel:β→t.den→al→Fact} {Δ:Labels ε σ β} {q:Quiet} {L:al} {Γ:List Fact} {s:Sp ε σ β} {T1 T0:TypeId} {a:Addr} {b1:B} {l:List Value} {k:b1.den→T} (x:b1.den)
  (hr:(a.block,aq T0 l)∈L) (hs:dc P T1=some true) (ha:a.spot=none) (hv:l[a.off]? = some (b1.enc x)) (hq:q.L=[]) (hk:Sim P I t Rel Δ (some q) (k x) s L Γ):Sim P I t Rel Δ (some q) (.opl (ai T1 (.pointer (some a))) (.c (.b b1)) k) s L Γ:=by
 refine dP (cN x (Rd.own hr) hs ha hv) ?_
 rintro _ _ _ ⟨rfl,rfl,rfl⟩
 exact ⟨by simp [hq],hk⟩
theorem IK {ε σ:Type} (I:av ε σ) (t:Tok):Meets PG I (aa oT #[.agg #[.int .i64 t.1,.string t.2.1,.int .i64 t.2.2.1,.int .i64 t.2.2.2.1]]) (.tup [.agg d3,.b .bool]) (Pure.pure (jF t)) aJ []:=by
 refine C3 t ?_
 unfold oZ
 refine aQ (nd _) ?_
 rintro _ _ _ ⟨b1,rfl,rfl,rfl⟩
 refine aQ (bF (z:=[.int .i64 0,.string kE,.int .i64 0,.int .i64 0]) (by kernel_rfl)) ?_
 rintro _ _ _ ⟨b2,rfl,rfl,rfl⟩
 refine ea (x:={ ι:=Unit,sp:=fun _=>Pure.pure (jF t),J:=fun _ vs L'=>Fact.prop (vs=[.bool (!el t)]∧L'=(b2,aq ae [.int .i64 0,.string kE,.int .i64 0,.int .i64 0])::(b1,aq ae (aO t))::[]) }) ?_ ?_
 ·refine aQ (cN (b1:=.int .i64) (x:=t.1) (Rd.own (List.mem_cons_of_mem _ (List.mem_cons_self ..))) (by kernel_rfl) rfl rfl) ?_
  rintro _ _ _ ⟨rfl,rfl,rfl⟩
  refine qE (fun h=>?_) (fun h=>?_)
  ·exact ct rfl () rfl fun F hF=>⟨by simp [el,Tok.kind]; simp at h; simp [h],rfl⟩
  ·refine aQ (cN (b1:=.str) (x:=t.2.1) (Rd.own (List.mem_cons_of_mem _ (List.mem_cons_self ..))) (by kernel_rfl) rfl rfl) ?_
   rintro _ _ _ ⟨rfl,rfl,rfl⟩
   refine qE (fun h2=>?_) (fun h2=>?_)
   ·exact ct rfl () rfl fun F hF=>⟨by
     simp at h2
     have:¬ 2≤(Tok.text t).size:=by unfold Tok.text; omega
     simp [el,this],rfl⟩
   ·refine aQ (cN (b1:=.str) (x:=t.2.1) (Rd.own (List.mem_cons_of_mem _ (List.mem_cons_self ..))) (by kernel_rfl) rfl rfl) ?_
    rintro _ _ _ ⟨rfl,rfl,rfl⟩
    simp only [decide_eq_false_iff_not,Int.not_lt] at h2
    refine aQ (ey (t1:=cB) (a7 t.2.1 0) (fun w=>mV (by kernel_rfl) (by decide) (by omega))) ?_
    rintro _ _ _ ⟨rfl,rfl,rfl⟩
    refine ct rfl () rfl fun F hF=>⟨?_,rfl⟩
    have h3:decide (2≤(Tok.text t).size)=true:=decide_eq_true (by unfold Tok.text; omega)
    have h4:(Tok.kind t==9)=true:=by simpa [Tok.kind] using h
    simp only [el,h3,h4,Bool.true_and]; rfl
 ·rintro ⟨⟩ vs L'
  refine ⟨fun F hF=>⟨(_,()),hF.1⟩,?_⟩
  rintro ⟨c,⟨⟩⟩
  refine Sim.prop fun ⟨h1,h2⟩=>?_
  subst h2
  obtain rfl:c=!el t:=by
   have:=(List.cons.inj h1).1
   cases this; rfl
  refine qE (fun h=>?_) (fun h=>?_)
  ·refine aQ (a6 (L1:=[]) (T:=ae) (c:=true) rfl (by kernel_rfl) rfl (Nat.le_of_ble_eq_true rfl) (by simp [Value.cells,Value.oneCell'])) ?_
   rintro _ _ _ ⟨rfl,rfl⟩
   exact na (t:=.tup [.agg d3,.b .bool]) (cf,false,()) (fun r w F H hF hsp=>lk (vs:=aO cf) (by kernel_rfl) (hsp.own _ _ (List.mem_append_right _ (List.mem_cons_self ..))) rfl rfl) (fun F _=>by
    have h5:el t=false:=by simpa using h
    simp [aJ,Fact.prop,jF,h5])
  ·have h5:el t=true:=by simpa using h
   have h6:2≤(Tok.text t).size:=by simp [el] at h5; exact h5.1.2
   have hq:mi PG ⟨[],[]⟩ (d8 aF (.string t.2.1) (some (.int .i64 1)) none none) (.string (t.2.1.extract 1 t.2.1.size)) :=
    lH fun w=>DB (by kernel_rfl) (by decide) (by unfold Tok.text at h6; omega)
   have fin:∀ q,Sim PG I (.tup [.agg d3,.b .bool]) (pl aJ) noLabel q (.op (ai ae (.pointer (some ⟨b1,0,none⟩))) (.c (.agg [.int .i64,.str,.int .i64,.int .i64])) fun r14 =>
     .op (aW ae (.pointer (some ⟨b2,0,none⟩)) (.agg #[.int .i64 r14.1,.string r14.2.1,.int .i64 r14.2.2.1,.int .i64 r14.2.2.2.1])) tU fun _=>.ret #[.c (.pointer (some ⟨b2,0,none⟩)) ae,.v (.bool true)]) (Pure.pure (jF t))
     [(b2,aq ae [.int .i64 0,.string kE,.int .i64 0,.int .i64 0]),(b1,aq ae (aO (dR t)))] []:=by
    intro q
    refine aQ (ft (bs:=d3) (x:=dR t) (Rd.own (List.mem_cons_of_mem _ (List.mem_cons_self ..))) (by kernel_rfl) rfl rfl) ?_
    rintro _ _ _ ⟨rfl,rfl,rfl⟩
    refine aQ (a6 (L1:=[]) (T:=ae) (c:=true) rfl (by kernel_rfl) rfl (Nat.le_of_ble_eq_true rfl) (by simp [Value.cells,Value.oneCell'])) ?_
    rintro _ _ _ ⟨rfl,rfl⟩
    exact na (t:=.tup [.agg d3,.b .bool]) (dR t,true,()) (fun r w F H hF hsp=>lk (vs:=aO (dR t)) (by kernel_rfl) (hsp.own _ _ (List.mem_append_right _ (List.mem_cons_self ..))) rfl rfl) (fun F _=>by
     simp [aJ,Fact.prop,jF,h5])
   refine c8 [] (by simp) (Hr ?_ ?_)
   ·refine ER (b1:=.str) (t.2.1) (List.mem_cons_of_mem _ (List.mem_cons_self ..)) (by kernel_rfl) rfl rfl rfl ?_
    refine cX (t1:=tS) _ hq ?_
    refine ER (b1:=.int .i64) (t.2.2.1) (List.mem_cons_of_mem _ (List.mem_cons_self ..)) (by kernel_rfl) rfl rfl rfl ?_
    refine dP (a6 (L1:=[_]) (T:=aF) (c:=false) rfl (by kernel_rfl) rfl (Nat.le_of_ble_eq_true rfl) (by simp [Value.cells,Value.oneCell'])) ?_
    rintro _ _ _ ⟨rfl,rfl⟩
    refine ⟨by simp,?_⟩
    refine aQ (a6 (L1:=[_]) (T:=ak) (c:=false) rfl (by kernel_rfl) rfl (Nat.le_of_ble_eq_true rfl) (by simp [Value.cells,Value.oneCell'])) ?_
    rintro _ _ _ ⟨rfl,rfl⟩
    exact fin none
   ·refine ER (b1:=.int .i64) (t.2.2.1) (List.mem_cons_of_mem _ (List.mem_cons_self ..)) (by kernel_rfl) rfl rfl rfl ?_
    refine ER (b1:=.str) (t.2.1) (List.mem_cons_of_mem _ (List.mem_cons_self ..)) (by kernel_rfl) rfl rfl rfl ?_
    refine cX (t1:=tS) _ hq ?_
    refine dP (a6 (L1:=[_]) (T:=aF) (c:=false) rfl (by kernel_rfl) rfl (Nat.le_of_ble_eq_true rfl) (by simp [Value.cells,Value.oneCell'])) ?_
    rintro _ _ _ ⟨rfl,rfl⟩
    refine ⟨by simp,?_⟩
    refine aQ (a6 (L1:=[_]) (T:=ak) (c:=false) rfl (by kernel_rfl) rfl (Nat.le_of_ble_eq_true rfl) (by simp [Value.cells,Value.oneCell'])) ?_
    rintro _ _ _ ⟨rfl,rfl⟩
    exact fin none
theorem Gy {ε σ:Type} (I:av ε σ) (t:Tok):Meets PG I (aa lw #[.agg #[.int .i64 t.1,.string t.2.1,.int .i64 t.2.2.1,.int .i64 t.2.2.2.1]]) tI (Pure.pure (cH t)) aJ []:=by
 refine Db t ?_
 unfold oS
 refine jj fun b1=>?_
 refine aN (b1:=.int .i64) t.1 (by repeat (first | exact mz | apply ms)) (by kernel_rfl) rfl rfl ?_
 have fin:∀ (q:Option Quiet) (c:Int),c=cH t→∀ Γ,Sim PG I tI (pl aJ) noLabel q (.ret #[.v (.int .i64 c)]) (Pure.pure (cH t)) [] Γ:=fun q c hc Γ =>
  ay (t:=tI) c rfl (fun F _=>hc)
 refine qE (fun h=>?_) (fun h=>?_)
 ·exact fin _ _ (by unfold cH Tok.kind; rw [h]; rfl) _
 refine qE (fun h2=>?_) (fun h2=>?_)
 ·exact fin _ _ (by unfold cH Tok.kind; rw [h,h2]; rfl) _
 refine qE (fun h3=>?_) (fun h3=>?_)
 ·refine aN (b1:=.str) t.2.1 (by repeat (first | exact mz | apply ms)) (by kernel_rfl) rfl rfl ?_
  refine jA (fun c=>(fun st=>if c=(t.2.1.toList==k_lp.toList||t.2.1.toList==k_lb.toList||t.2.1.toList==k_lc.toList) then some (.ok (cH t) st) else none)) ?_ fun c=>?_
  ·refine qE (fun h4=>?_) (fun h4=>?_)
   ·exact aV true rfl (by funext st; rw [if_pos (by rw [h4]; rfl)]; rfl)
   refine qE (fun h5=>?_) (fun h5=>?_)
   ·exact aV true rfl (by funext st; rw [if_pos (by rw [h5,Bool.or_true]; rfl)]; rfl)
   ·exact aV _ rfl (by funext st; rw [h4,h5]; exact (if_pos rfl).symm)
  ·by_cases hc:c=(t.2.1.toList==k_lp.toList||t.2.1.toList==k_lb.toList||t.2.1.toList==k_lc.toList)
   ·refine Sim.spec (s':=Pure.pure (cH t)) (by funext st; rw [if_pos hc]; rfl) ?_
    refine qE (fun h4=>?_) (fun h4=>?_)
    ·exact fin _ _ (by unfold cH Tok.kind Tok.text; rw [h,h2,h3,show (t.2.1.toList==k_lp.toList||t.2.1.toList==k_lb.toList||t.2.1.toList==k_lc.toList)=true from hc▸h4]; rfl) _
    have h4':(t.2.1.toList==k_lp.toList||t.2.1.toList==k_lb.toList||t.2.1.toList==k_lc.toList)=false:=hc▸h4
    refine qE (fun h5=>?_) (fun h5=>?_)
    ·exact fin _ _ (by unfold cH Tok.kind Tok.text; rw [h,h2,h3,h4',h5]; rfl) _
    refine qE (fun h6=>?_) (fun h6=>?_)
    ·exact fin _ _ (by unfold cH Tok.kind Tok.text; rw [h,h2,h3,h4',h5,h6]; rfl) _
    refine qE (fun h7=>?_) (fun h7=>?_)
    ·exact fin _ _ (by unfold cH Tok.kind Tok.text; rw [h,h2,h3,h4',h5,h6,h7]; rfl) _
    ·exact fin _ _ (by unfold cH Tok.kind Tok.text; rw [h,h2,h3,h4',h5,h6,h7]; rfl) _
   ·intro r w F H st res S hst
    simp only [if_neg hc] at hst; cases hst
 ·exact fin _ _ (by unfold cH Tok.kind; rw [h,h2,h3]; rfl) _
theorem Hc {α:Type} {l:List α} {i:Nat} {d:α} (h:i < l.length):l.getD i d∈l:=by
 have h1:=getD_some (d:=d) h
 exact List.mem_of_getElem? h1
theorem PSt.at_ok {st:PSt} (h:st.ok) (k:Nat):sy (st.at k):=h.2.2.2 _ (Hc (by have:=h.1; omega))
theorem PSt.now_ok {st:PSt} (h:st.ok):sy st.now:=by
 unfold PSt.now; split
 ·exact h.2.2.1
 ·exact PSt.at_ok h _
theorem Im {pb:Nat} {st:PSt} {H:al} {F:Heap} (h:((PI pb).inv st H).p F):st.ok:=by
 obtain ⟨sl,T0,⟨_,h⟩,_⟩:=h; exact h
theorem D2 {st st':PSt} {b:Tok} (h:cg st=some (.ok b st')):b=st.now∧st'=st:=by
 unfold cg at h; cases h; exact ⟨rfl,rfl⟩
theorem G9 {st st':PSt} {b:Tok} (h:d2 st=some (.ok b st')):b=st.now:=by
 have:d2 st=some (.ok st.now { st with split:=false,i:=min (st.i+1) (st.l.length - 1) }):=rfl
 rw [this] at h; cases h; rfl
theorem wx (pb:Nat):Meets PG (PI pb) (aa aH #[.pointer (some (aL pb))]) fb cg (fun b x=>(Fact.prop (sy b)).both (aJ b x)) [] :=
 (aZ pb).strong fun st H F b st' hi h=>by rw [(D2 h).1]; exact PSt.now_ok (Im hi)
theorem sT (pb:Nat):Meets PG (PI pb) (aa ir #[.pointer (some (aL pb))]) tU vj (fun _ _=>Fact.prop True) []:=by
 refine yo (aL pb) ?_
 unfold k8 vj
 refine ag (aA _ _) (fun _ h=>nomatch h) fun x b=>Sim.prop fun h=>?_
 subst h
 (first | refine qA (fun h=>?_) fun h=>?_ | refine qB (fun h=>?_) fun h=>?_ | refine qC (fun h=>?_) fun h=>?_ | refine qD (fun h=>?_) fun h=>?_ | refine qE (fun h=>?_) fun h=>?_)
 ·exact na (t:=tU) () (fun r w F H _ _=>fJ w) (fun F _=>trivial)
 refine ag (wx _) (fun _ h=>nomatch h) fun t b=>Sim.both (Sim.prop fun hnum=>Sim.prop fun h=>?_)
 subst h
 refine fp (IK _ t) (fun _ h=>nomatch h) ?_
 refine gd (c:=true) (z:=[.int .i64 0,.string kE,.int .i64 0,.int .i64 0]) (by kernel_rfl) (by kernel_rfl) rfl (by simp [Value.cells,Value.oneCell']) fun b2=>?_
 refine fB (fun s=>if el t then some (.ok () { s with left:=dR t,split:=true }) else none) ?_ ?_
 ·by_cases hs:el t
  ·refine qE (fun h=>?_) (fun h=>?_)
   ·simp [jF,hs] at h
   ·exact gc rfl (by funext st; simp [hs]; rfl)
  ·refine qE (fun h=>?_) (fun h=>?_)
   ·refine Sim.spec (s':=cD) (by simp [hs]; rfl) ?_
    exact dV (β1:=Unit) (Rel1:=fun _ _ _=>Fact.prop True) (fS _) (fun _ h=>nomatch h) (by first | exact dW | exact ed _)
   ·simp [jF,hs] at h
 ·by_cases hs:el t
  ·have ht:jF t=(dR t,true,()):=by simp [jF,hs]
   rw [ht]
   refine nS (bs:=d3) (dR t) (by repeat (first | exact mz | apply ms)) (by kernel_rfl) rfl rfl ?_
   refine m5 fun st sl T0 a hok ha hl=>?_
   refine a8 (a6 (L1:=[]) (T:=ae) (c:=true) rfl (by kernel_rfl) rfl (Nat.le_of_ble_eq_true rfl) (by simp [Value.cells,Value.oneCell'])) ?_
   rintro _ _ _ ⟨rfl,rfl⟩
   refine a8 (a6 (L1:=[]) (T:=bq) (c:=false) rfl (by kernel_rfl) rfl (Nat.le_of_ble_eq_true rfl) (by simp [Value.cells,Value.oneCell'])) ?_
   rintro _ _ _ ⟨rfl,rfl⟩
   refine pt (b:=()) (st:={ st with left:=dR t,split:=true }) (H:=[(pb,aq T0 (bt sl { st with left:=dR t,split:=true }))]) (x:=()) ?_ (by simp [bt,bB,Value.cells,aO,HB.enc,B.enc]) ?_ ?_ ?_
   ·simp [hs]
   ·refine fun F hF=>kQ (st:={ st with left:=dR t,split:=true }) ⟨hok.1,hok.2.1,?_,hok.2.2.2⟩ (hF (Sl 4 aO sl st.l) (by repeat (first | exact mz | apply ms)))
    have h9:Tok.kind t=9:=by simp [el] at hs; exact hs.1.1
    refine ⟨fun hk=>?_,?_⟩
    ·simp [dR,Tok.kind] at hk h9; omega
    ·have:=hnum.2; simp only [dR,Tok.text,ByteArray.size_extract] at this ⊢; omega
   ·exact fun r w F hF hsp=>fJ w
   ·exact fun F _=>trivial
  ·intro r w F H st res S hst
   simp [hs] at hst
theorem Hf (t:Tok):-1≤cH t∧cH t≤1:=by
 unfold cH; split<;>(try split)<;>(try split)<;>(try split)<;>(try split)<;>simp
theorem C8 (l:List Tok) (k i:Nat) (n:Int) (h:l.length≤i) (hk:k=l.length - i):m4 l k i n=l.getD (l.length - 1) cf:=by
 have:k=0:=by omega
 subst this; rfl
def et (i:Nat) (n:Int):PM Tok:=fun s=>some (.ok (m4 s.l (s.l.length - i) i n) s)
def Ij:PM Tok:=fun s=>some (.ok (s.l.getD (s.l.length - 1) cf) s)
theorem qS (pb:Nat):Meets PG (PI pb) (aa gR #[.pointer (some (aL pb))]) fb xj aJ []:=by
 refine vw (aL pb) ?_
 unfold kj
 refine aQ (bF (z:=[.int .i64 0,.string kE,.int .i64 0,.int .i64 0]) (by kernel_rfl)) ?_
 rintro _ _ _ ⟨b,rfl,rfl,rfl⟩
 have fin:∀ {pb:Nat} {L:al} {st:PSt} {sl:aI} {T0:TypeId} {a:Addr} {Δ:Labels Int PSt Tok} {i:Int} (k:Nat) (_:L=[(b,aq ae [.int .i64 0,.string kE,.int .i64 0,.int .i64 0])]) (_:st.ok) (_:sl.1=some a) (_:i=k) (_:k < st.l.length)
   (q:Option Quiet) (_:(pb,aq T0 (bt sl st))∈(pb,aq T0 (bt sl st))::L),SimAt PG (PI pb) fb (pl aJ) Δ (some ⟨[Sl 4 aO sl st.l],[(pb,aq T0 (bt sl st))]⟩) (.opq (aR az (.slice sl.1 sl.2.1 sl.2.2) (.int .i64 i)) tA fun r11 =>
     .opq (ai ae (.pointer (some r11))) (.c (.agg [.int .i64,.str,.int .i64,.int .i64])) fun r12 =>
     .op (aW ae (.pointer (some ⟨b,0,none⟩)) (.agg #[.int .i64 r12.1,.string r12.2.1,.int .i64 r12.2.2.1,.int .i64 r12.2.2.2.1])) tU fun _ =>
     .ret #[.c (.pointer (some ⟨b,0,none⟩)) ae]) (some (.ok (st.l.getD k cf) st)) ((pb,aq T0 (bt sl st))::L) [Sl 4 aO sl st.l]:=by
  intro pb L st sl T0 a Δ i k hL hok ha hi hk q _
  subst hL
  refine cC (t1:=tA) _ (EH dD ha (fun F hF=>hF _ (List.mem_cons_self ..)) (by kernel_rfl) _ hi hk) ?_
  refine cC (t1:=fb) (st.l.getD k cf) (EP dD ha (fun F hF=>hF _ (List.mem_cons_self ..)) (getD_some hk) (by kernel_rfl)) ?_
  refine xP ?_
  refine a8 (a6 (L1:=[_]) (T:=ae) (c:=true) rfl (by kernel_rfl) rfl (Nat.le_of_ble_eq_true rfl) (by simp [Value.cells,Value.oneCell'])) ?_
  rintro _ _ _ ⟨rfl,rfl⟩
  refine pt (b:=st.l.getD k cf) (st:=st) (H:=[(pb,aq T0 (bt sl st))]) (x:=st.l.getD k cf) rfl (by simp) ?_ ?_ ?_
  ·exact fun F hF=>kQ hok (hF _ (List.mem_cons_self ..))
  ·exact fun r w F hF hsp=>eN (vs:=aO (st.l.getD k cf)) (by kernel_rfl) (hsp.own _ _ (by repeat (first | exact mz | apply ms))) rfl rfl
  ·exact fun F _=>rfl
 refine m5 fun st sl T0 a hok ha hl=>?_
 refine a8 (cN (b1:=.int .i64) (x:=(st.i:Int)) (Rd.own (by repeat (first | exact mz | apply ms))) (by kernel_rfl) rfl rfl) ?_
 rintro _ _ _ ⟨rfl,rfl,rfl⟩
 have hi0:st.i≤1099511627776:=by have:=hok.1; have:=hok.2.1; omega
 show SimAt PG (PI pb) fb (pl aJ) noLabel none _ (et st.i 0 st) ([(pb,aq T0 (bt sl st))]++[_]) _
 refine SimAt.shut (s:=et st.i 0) ?_ (fun F hF=>kQ hok (hF _ (by repeat (first | exact mz | apply ms)))) rfl
 refine Sim.weak (Γ':=[]) ?_ (fun _ h=>nomatch h)
 generalize st.i=i0 at hi0
 clear hok ha hl
 refine fB Ij ?_ ?_
 ·refine go (x:={ ι:=Nat × Int,sp:=fun j=>et j.1 j.2,J:=fun j vs L'=>Fact.prop (vs=[.int .i64 j.2,.int .i64 j.1]∧L'=[(b,aq ae [.int .i64 0,.string kE,.int .i64 0,.int .i64 0])]∧j.1≤1099511627776∧-(j.1:Int)≤j.2∧j.2≤j.1) }) (fun j=>1099511627777 - j.1) (i0,0) rfl ?_ ?_ ?_
  ·exact fun F hF=>⟨rfl,rfl,hi0,by simp,by simp⟩
  ·rintro ⟨i,n⟩ vs L' F ⟨rfl,_⟩; exact ⟨(n,(i:Int),()),rfl⟩
  ·rintro ⟨i,n⟩ L' ⟨n',i',⟨⟩⟩
   refine Sim.prop fun ⟨hv,hL,hi,hn1,hn2⟩=>?_
   subst hL
   have h1:=(List.cons.inj hv).1
   have h2:=(List.cons.inj (List.cons.inj hv).2).1
   obtain rfl:n'=n:=by cases h1; rfl
   obtain rfl:i'=(i:Int):=by cases h2; rfl
   simp only at hi hn1 hn2
   refine Sim.weak (Γ':=[]) ?_ (fun _ h=>nomatch h)
   refine m5 fun st sl T0 a hok ha hl=>?_
   refine a8 (cN (b1:=.slice) (x:=sl) (Rd.own (by repeat (first | exact mz | apply ms))) (by kernel_rfl) rfl rfl) ?_
   rintro _ _ _ ⟨rfl,rfl,rfl⟩
   refine jG (fun hlt=>?_) (fun hge=>?_)
   ·have hlt':i < st.l.length:=by simp at hlt; omega
    refine a8 (cN (b1:=.slice) (x:=sl) (Rd.own (by repeat (first | exact mz | apply ms))) (by kernel_rfl) rfl rfl) ?_
    rintro _ _ _ ⟨rfl,rfl,rfl⟩
    refine a8 (py ha (fun F hF=>hF _ (List.mem_cons_self ..)) (by kernel_rfl) i rfl hlt') ?_
    rintro _ _ _ ⟨rfl,rfl,rfl⟩
    refine a8 (yJ (bs:=d3) dD ha (fun F hF=>hF _ (List.mem_cons_self ..)) (getD_some hlt') (by kernel_rfl) (st.l.getD i cf) rfl) ?_
    rintro _ _ _ ⟨rfl,rfl,rfl⟩
    refine JF (Gy _ _) ?_
    have hT:=Hf (st.l.getD i cf)
    have hw:IntKind.i64.wrap (n'+cH (st.l.getD i cf))=n'+cH (st.l.getD i cf):=aS (by omega) (by omega)
    have hw2:IntKind.i64.wrap ((i:Int)+1)=((i+1:Nat):Int):=by rw [aS (by omega) (by omega)]; simp
    have hk:st.l.length - i=(st.l.length - (i+1))+1:=by omega
    have hok2:=hok.2.1
    refine jG (fun hz=>?_) (fun hz=>?_)
    ·rw [hw] at hz
     refine iy [(pb,aq T0 (bt sl st))] (fun p hp=>by simp at hp; simp [hp]) ?_
     refine cC (t1:=ah) sl (bR (QRd.own (List.mem_cons_self ..)) (by kernel_rfl) rfl rfl) ?_
     refine cC (t1:=ah) sl (bR (QRd.own (List.mem_cons_self ..)) (by kernel_rfl) rfl rfl) ?_
     have hrun:et i n' st=some (.ok (st.l.getD (min (i+1) (st.l.length - 1)) cf) st):=by
      unfold et; rw [hk]; unfold m4; simp only [hz,if_true]
     show SimAt PG (PI pb) fb (pl aJ) _ _ _ (et i n' st) _ _
     rw [hrun]
     refine fin (min (i+1) (st.l.length - 1)) rfl hok ha ?_ (by omega) none (List.mem_cons_self ..)
     dsimp only
     rw [hw2,aS (by omega) (by omega)]
     split<;>omega
    ·rw [hw] at hz
     have hrun:et i n' st=et (i+1) (n'+cH (st.l.getD i cf)) st:=by
      unfold et; rw [hk]; conv=>lhs; unfold m4
      simp only [hz]; rfl
     rw [hw,hw2]
     show SimAt PG (PI pb) fb (pl aJ) _ _ _ (et i n' st) ([(pb,aq T0 (bt sl st))]++[_]) _
     rw [hrun]
     refine rU rfl ⟨(i+1,n'+cH (st.l.getD i cf)),?_⟩ rfl (fun F hF=>⟨rfl,rfl,?_,?_,?_⟩) (fun F hF=>kQ hok (hF _ (List.mem_cons_self ..)))
     ·show 1099511627777 - (i+1) < 1099511627777 - i; clear hw hw2 hT hz hrun; omega
     ·show i+1≤_; omega
     ·show -((i+1:Nat):Int)≤n'+cH (st.l.getD i cf); omega
     ·exact (Int.add_le_add hn2 hT.2:n'+cH (st.l.getD i cf)≤(i:Int)+1)
   ·have hge':st.l.length≤i:=by simp at hge; omega
    show SimAt PG (PI pb) fb (pl aJ) _ _ _ (et i n' st) ([(pb,aq T0 (bt sl st))]++[_]) _
    refine rU (x:=Gx Ij _) rfl () ?_ (fun F hF=>⟨rfl,rfl⟩) (fun F hF=>kQ hok (hF _ (List.mem_cons_self ..)))
    unfold et; rw [C8 _ _ _ _ hge' rfl]; rfl
 ·refine m5 fun st sl T0 a hok ha hl=>?_
  refine iy [(pb,aq T0 (bt sl st))] (fun p hp=>by simp at hp; simp [hp]) ?_
  refine cC (t1:=ah) sl (bR (QRd.own (List.mem_cons_self ..)) (by kernel_rfl) rfl rfl) ?_
  refine cC (t1:=ah) sl (bR (QRd.own (List.mem_cons_self ..)) (by kernel_rfl) rfl rfl) ?_
  obtain ⟨hok1,hok2,hok3⟩:=id hok
  exact fin (st.l.length - 1) rfl hok ha (by rw [aS (by omega) (by omega)]; omega) (by omega) none (List.mem_cons_self ..)
end Go.Proofs.YtjlgcpgjdgeejaaGreatDoor
end

section
namespace Go.Proofs.YtjlgcpgjdgeejaaGreatDoor
open Go
set_option linter.unusedSimpArgs false
set_option linter.unusedVariables false
set_option linter.constructorNameAsVariable false
set_option maxRecDepth 100000
def Jq:Option N→Option Addr→Fact
 | none,p=>Fact.prop (p=none)
 | some n,p=>NodeF n p
def E4:Prop:=∀ {ε σ:Type} (I:av ε σ) (s:ByteArray),s.size≤18→(Lib.atoi s.data.toList).isSome=true→Meets PG I (aa fu #[.string s]) tI (Pure.pure (rR s)) aJ []
structure cm (R:aY):Prop where
 fuel:R.fuel≤549755813888
 num:E4
 expr:∀ pb,Meets PG (PI pb) (aa bL #[.pointer (some (aL pb))]) tP R.expr NodeF []
 typed:∀ pb,Meets PG (PI pb) (aa ck #[.pointer (some (aL pb))]) tP R.typed NodeF []
 block:∀ pb,Meets PG (PI pb) (aa cl #[.pointer (some (aL pb))]) tP R.block NodeF []
 unary:∀ pb,Meets PG (PI pb) (aa fW #[.pointer (some (aL pb))]) tP R.unary NodeF []
 branch:∀ pb,Meets PG (PI pb) (aa fw #[.pointer (some (aL pb))]) tP R.branch NodeF []
 statement:∀ pb,Meets PG (PI pb) (aa di #[.pointer (some (aL pb))]) tP R.statement NodeF []
 declaration:∀ pb (t:Tok),Meets PG (PI pb) (aa dM #[.pointer (some (aL pb)),.agg #[.int .i64 t.1,.string t.2.1,.int .i64 t.2.2.1,.int .i64 t.2.2.2.1]]) tP (R.declaration t) Jq []
section
variable {ε σ β β1:Type} {P:Program} {I:av ε σ} {t:Ty} {Rel:β→t.den→al→Fact} {Δ:Labels ε σ β} {q:Option Quiet} {L:al} {Γ:List Fact} {s:Sp ε σ β}
noncomputable def jS (φ:σ→Prop) (s:Sp ε σ β):Sp ε σ β:=fun st=>@ite _ (φ st) (Classical.propDecidable _) (s st) none
theorem tH {φ:σ→Prop} {s:Sp ε σ β} {st:σ} {res:Res ε σ β} (h:jS φ s st=some res):φ st∧s st=some res:=by
 unfold jS at h; split at h
 ·exact ⟨by assumption,h⟩
 ·cases h
theorem GB {φ:σ→Prop} {s:Sp ε σ β} {st:σ} (h:φ st):jS φ s st=s st:=by unfold jS; rw [if_pos h]
theorem Sim.unguard {φ:σ→Prop} {m:T} (h:Sim P I t Rel Δ q m s L Γ):Sim P I t Rel Δ q m (jS φ s) L Γ:=fun r w F H st res S hs=>h r w F H st res S (tH hs).2
theorem IM {t1:Ty} {s0:Sem Next} {k:t1.den→T} {s1:Sp ε σ β1} {s2:β1→Sp ε σ β} {Rel1:β1→t1.den→Fact} {Γ1:List Fact} (φ:β1→σ→Prop) (hm:Meets P I s0 t1 s1 Rel1 Γ1)
  (hΓ1:∀ A∈Γ1,A∈Γ) (hφ:∀ st b st',s1 st=some (.ok b st')→φ b st') (hk:∀ x b,Sim P I t Rel Δ none (k x) (jS (φ b) (s2 b)) L (Rel1 b x::Γ)):Sim P I t Rel Δ q (.op s0 t1 k) (s1>>=s2) L Γ:=by
 intro r w F H st res S hs hΓ hi hsp hq
 simp only [T.wp]
 refine lr hm hΓ1 hs hΓ hi hsp ?_ ?_
 ·rintro b x F' H' K1 st' w' h1 h2 hle ⟨rfl,hR⟩ hinv hS
  exact ⟨x,rfl,dI hle (hk x b r w' F' H' st' res S (by rw [GB (hφ st b st' h1)]; exact h2) (Holds.cons hR (hΓ.mono hle)) hinv hS trivial)⟩
 ·rintro y c F' w' rfl hle he hS
  exact ⟨F',hle,c,rfl,he,hS⟩
theorem G6 {q:Quiet} {t1:Ty} {s0:Sem Next} {k:t1.den→T} {s1:Sp ε σ β1} {s2:β1→Sp ε σ β} {Rel1:β1→t1.den→Fact} {Γ1:List Fact} {φ:σ→Prop} (ψ:β1→Prop) (hm:Meets P I s0 t1 s1 Rel1 Γ1)
  (hΓ1:∀ A∈Γ1,A∈Γ) (hφ:∀ st b st',φ st→s1 st=some (.ok b st')→ψ b) (hk:∀ x b,ψ b→Sim P I t Rel Δ (some q) (k x) (s2 b) L (Rel1 b x::Γ)):Sim P I t Rel Δ (some q) (.opl s0 t1 k) (jS φ (s1>>=s2)) L Γ:=by
 intro r w F H st res S hs hΓ hi hsp hq
 obtain ⟨hst,hs⟩:=tH hs
 simp only [T.wp]
 refine lr hm hΓ1 hs hΓ hi hsp ?_ ?_
 ·rintro b x F' H' K1 st' w' h1 h2 hle ⟨rfl,hR⟩ hinv hS
  obtain ⟨hw,hq'⟩:=Stab.keep hq hle hS hq.1
  exact ⟨hw,x,rfl,dI hle (hk x b (hφ st b st' hst h1) r w' F' H' st' res S h2 (Holds.cons hR (hΓ.mono hle)) hinv hS hq')⟩
 ·rintro y c F' w' rfl hle he hS
  exact ⟨F',hle,c,rfl,he,hS⟩
end
theorem GU {st st':PSt} {b:ByteArray} (h:db st=some (.ok b st')):b=st.now.text:=by
 have e:db st=if st.now.kind != 1 then some (.err st.now.pos) else some (.ok st.now.text { st with split:=false,i:=min (st.i+1) (st.l.length - 1) }):=by
  show (if st.now.kind != 1 then cD else _) st=_
  split<;>rfl
 rw [e] at h
 split at h
 ·cases h
 ·cases h; rfl
theorem DZ (pb:Nat):Meets PG (PI pb) (aa bu #[.pointer (some (aL pb))]) tS db (fun b x=>(Fact.prop (b.size≤4194304)).both (aJ b x)) [] :=
 (bU pb).strong fun st H F b st' hi h=>by rw [GU h]; exact (PSt.now_ok (Im hi)).2
end Go.Proofs.YtjlgcpgjdgeejaaGreatDoor
end

section
namespace Go.Proofs.YtjlgcpgjdgeejaaGreatDoor
open Go
set_option linter.unusedVariables false
set_option maxRecDepth 100000
noncomputable section
def wa:An :=
 .s (.r [none]) (.s (.r [none,some (.c (.agg [.int .i64,.str,.int .i64,.int .i64])),none,none]) (.s (.r [none,some tB]) (.s (.r [none,some tP,none]) (.s (.s (.r [none,some tB,none]) (.c (.s (.r [none,none]) (.x)) (.x))) (.s (.r [none,none,some ah,some tP,none]) (.s (.b (.l [] (.s (.s (.r [none,some tB]) (.c (.x) (.x))) (.b (.d (.q 0 none (.q 1 none (.q 2 (some tA) (.q 3 none (.q 4 (some ah) (.q 5 none (.l 6 (some tP) (.l 7 (some ah) (.l 8 (some ah) (.q 9 (some tA) (.q 10 none (.l 11 (some tU) (.e)))))))))))))))))) (.s (.r [none,none]) (.x))))))))
def ku (a0_p:Addr):T :=
 .op (aa aH #[.pointer (some a0_p)]) (.c (.agg [.int .i64,.str,.int .i64,.int .i64])) fun r1 =>
 .op (aa ax #[.pointer (some a0_p),.string j8]) tB fun r2 =>
 .op (aa jg #[.pointer (some a0_p)]) tP fun r3 =>
 .op (aa bg #[.pointer (some a0_p),.string j8]) tB fun r4 =>
 .ite (!r4) (
 .ret #[.v (.pointer r3)]) (
 .op (ar ad 1 #[(0,.pointer r3)]) ah fun r5 =>
 .op (aa am #[.int .i64 87,.string kE,.int .i64 0,.int .i64 r1.2.2.1,.slice r5.1 r5.2.1 r5.2.2]) tP fun r6 =>
 .loop 0 [] [] fun x7 =>
 .op (aa ax #[.pointer (some a0_p),.string j8]) tB fun r8 =>
 .ite r8 (
 .draw <|
 .opq (bV (.pointer r6)) tA fun r9 =>
 .opq (ai ad (.pointer (some ⟨r9.block,r9.off+5,none⟩))) ah fun r10 =>
 .opl (aa jg #[.pointer (some a0_p)]) tP fun r11 =>
 .opl (ar ad 1 #[(0,.pointer r11)]) ah fun r12 =>
 .opl (dg #[ad,ad] ad #[.slice r10.1 r10.2.1 r10.2.2,.slice r12.1 r12.2.1 r12.2.2]) ah fun r13 =>
 .opq (bV (.pointer r6)) tA fun r14 =>
 .op (aW ad (.pointer (some ⟨r14.block,r14.off+5,none⟩)) (.slice r13.1 r13.2.1 r13.2.2)) tU fun _ =>
 .out 0 []) (
 .ret #[.v (.pointer r6)]))
theorem xb (a0_p:Addr):bh Tryz.prog Tryz.f88 wa [.pointer (some a0_p)]=ku a0_p:=by kernel_rfl
theorem xB {ε σ β:Type} {I:av ε σ} {t:Ty} {s:Sp ε σ β} {Rel:β→t.den→al→Fact} {Γ:List Fact} (a0_p:Addr) (h:Sim Tryz.prog I t Rel noLabel none (ku a0_p) s [] Γ):MeetsO Tryz.prog I (aa ck #[.pointer (some a0_p)]) t s Rel Γ :=
 aj (args:=[.pointer (some a0_p)]) Tryz.func88 rfl rfl (Nat.le_of_ble_eq_true rfl) (by rw [xb]; exact h)
def yw:An :=
 .s (.r [none]) (.s (.r [none,some (.c (.agg [.int .i64,.str,.int .i64,.int .i64])),none,none]) (.s (.r [none,some tP,none]) (.s (.b (.l [(4,.b .ptr)] (.s (.s (.j [(16,.b .bool)] (.r [none,some tB,none,none,some (.c (.agg [.int .i64,.str,.int .i64,.int .i64])),some tB,none])) (.c (.x) (.x))) (.b (.s (.r [none,some (.c (.agg [.int .i64,.str,.int .i64,.int .i64]))]) (.s (.r [none,some (.c (.agg [.int .i64,.str,.int .i64,.int .i64]))]) (.r [none,none,some ah,some tP,none]))))))) (.s (.r [none,none]) (.x)))))
def mu (a0_p:Addr):T :=
 .op (aa aH #[.pointer (some a0_p)]) (.c (.agg [.int .i64,.str,.int .i64,.int .i64])) fun r1 =>
 .op (aa kO #[.pointer (some a0_p)]) tP fun r2 =>
 .loop 0 [.b .ptr] [.pointer r2] fun x3 =>
 .join 1 [.b .bool] (
 .op (aa bg #[.pointer (some a0_p),.string k_lb]) tB fun r4 =>
 .ite r4 (
 .op (aa dl #[.pointer (some a0_p),.int .i64 1]) (.c (.agg [.int .i64,.str,.int .i64,.int .i64])) fun r5 =>
 .op (aa cQ #[.agg #[.int .i64 r5.1,.string r5.2.1,.int .i64 r5.2.2.1,.int .i64 r5.2.2.2.1],.string k_rb]) tB fun r6 =>
 .out 1 [.bool r6]) (
 .out 1 [.bool false])) fun x7 =>
 .ite x7.1 (
 .op (aa bZ #[.pointer (some a0_p)]) (.c (.agg [.int .i64,.str,.int .i64,.int .i64])) fun r8 =>
 .op (aa bZ #[.pointer (some a0_p)]) (.c (.agg [.int .i64,.str,.int .i64,.int .i64])) fun r9 =>
 .op (ar ad 1 #[(0,.pointer x3.1)]) ah fun r10 =>
 .op (aa am #[.int .i64 83,.string kE,.int .i64 0,.int .i64 r1.2.2.1,.slice r10.1 r10.2.1 r10.2.2]) tP fun r11 =>
 .out 0 [.pointer r11]) (
 .ret #[.v (.pointer x3.1)])
theorem zK (a0_p:Addr):bh Tryz.prog Tryz.f144 yw [.pointer (some a0_p)]=mu a0_p:=by kernel_rfl
theorem zQ {ε σ β:Type} {I:av ε σ} {t:Ty} {s:Sp ε σ β} {Rel:β→t.den→al→Fact} {Γ:List Fact} (a0_p:Addr) (h:Sim Tryz.prog I t Rel noLabel none (mu a0_p) s [] Γ):MeetsO Tryz.prog I (aa jg #[.pointer (some a0_p)]) t s Rel Γ :=
 aj (args:=[.pointer (some a0_p)]) Tryz.func144 rfl rfl (Nat.le_of_ble_eq_true rfl) (by rw [zK]; exact h)
def ub:An :=
 .s (.r [none]) (.s (.r [none,some (.tup [.b (.int .i64),.b .val]),none,none,none,none,none]) (.s (.r [none,none]) (.x)))
def j0 (a0_s:ByteArray):T :=
 .op (aa pc #[.string a0_s]) (.tup [.b (.int .i64),.b .val]) fun r1 =>
 .ret #[.v (.int .i64 r1.1)]
theorem va (a0_s:ByteArray):bh Tryz.prog Tryz.f226 ub [.string a0_s]=j0 a0_s:=by kernel_rfl
theorem vr {ε σ β:Type} {I:av ε σ} {t:Ty} {s:Sp ε σ β} {Rel:β→t.den→al→Fact} {Γ:List Fact} (a0_s:ByteArray) (h:Sim Tryz.prog I t Rel noLabel none (j0 a0_s) s [] Γ):MeetsO Tryz.prog I (aa fu #[.string a0_s]) t s Rel Γ :=
 aj (args:=[.string a0_s]) Tryz.func226 rfl rfl (Nat.le_of_ble_eq_true rfl) (by rw [va]; exact h)
def wz:An :=
 .s (.r [none]) (.s (.r [none,some (.c (.agg [.int .i64,.str,.int .i64,.int .i64])),some tA,some tU]) (.s (.b (.s (.j [(7,.b .bool)] (.r [none,some tB,none,none,some (.c (.agg [.int .i64,.str,.int .i64,.int .i64])),some tB,none,none])) (.c (.s (.r [none,some tP,none]) (.x)) (.s (.r [none,some tB,none]) (.c (.s (.r [none,some tP,none]) (.s (.r [none,some tU]) (.s (.r [none,none]) (.x)))) (.s (.r [none,some tI,none,none]) (.c (.s (.r [none,some (.c (.agg [.int .i64,.str,.int .i64,.int .i64]))]) (.s (.d (.q 0 none (.q 1 (some tS) (.q 3 none (.q 4 (some tI) (.l 2 (some tI) (.l 5 (some tP) (.q 6 none (.e))))))))) (.x))) (.s (.r [none,some tB,none]) (.c (.s (.s (.r [none,some (.c (.agg [.int .i64,.str,.int .i64,.int .i64])),none,none]) (.j [] (.c (.r [none,some tU]) (.x)))) (.s (.d (.q 0 none (.q 5 none (.q 6 (some tI) (.l 1 (some (.c (.agg [.int .i64,.str,.int .i64,.int .i64]))) (.q 2 none (.l 3 (some tI) (.q 4 none (.l 7 (some tP) (.q 8 none (.e))))))))))) (.x))) (.s (.r [none,some tI,none,none]) (.c (.s (.r [none,some (.c (.agg [.int .i64,.str,.int .i64,.int .i64]))]) (.s (.r [none,some tS,none,some tI,some tP,none]) (.x))) (.s (.r [none,some tB,none]) (.c (.s (.r [none,some tP,none]) (.x)) (.x)))))))))))))) (.s (.r [none,some tP,none]) (.x))))
def ky (a0_a0:Addr):T :=
 .op (aa aH #[.pointer (some a0_a0)]) (.c (.agg [.int .i64,.str,.int .i64,.int .i64])) fun r1 =>
 .op (bj ae) tA fun r2 =>
 .op (aW ae (.pointer (some r2)) (.agg #[.int .i64 r1.1,.string r1.2.1,.int .i64 r1.2.2.1,.int .i64 r1.2.2.2.1])) tU fun _ =>
 .join 0 [.b .bool] (
 .op (aa bg #[.pointer (some a0_a0),.string k_lp]) tB fun r4 =>
 .ite r4 (
 .op (aa gR #[.pointer (some a0_a0)]) (.c (.agg [.int .i64,.str,.int .i64,.int .i64])) fun r5 =>
 .op (aa cQ #[.agg #[.int .i64 r5.1,.string r5.2.1,.int .i64 r5.2.2.1,.int .i64 r5.2.2.2.1],.string gH]) tB fun r6 =>
 .out 0 [.bool r6]) (
 .out 0 [.bool false])) fun x7 =>
 .ite x7.1 (
 .op (aa ij #[.pointer (some a0_a0)]) tP fun r8 =>
 .ret #[.v (.pointer r8)]) (
 .op (aa ax #[.pointer (some a0_a0),.string k_lp]) tB fun r9 =>
 .ite r9 (
 .op (aa ck #[.pointer (some a0_a0)]) tP fun r10 =>
 .op (aa aB #[.pointer (some a0_a0),.string k_rp]) tU fun _ =>
 .ret #[.v (.pointer r10)]) (
 .op (ai ak (.pointer (some r2))) tI fun r12 =>
 .ite ((r12:Int)==3) (
 .op (aa bZ #[.pointer (some a0_a0)]) (.c (.agg [.int .i64,.str,.int .i64,.int .i64])) fun r13 =>
 .draw <|
 .opq (ai aF (.pointer (some ⟨r2.block,r2.off+1,none⟩))) tS fun r14 =>
 .opq (ai ak (.pointer (some ⟨r2.block,r2.off+2,none⟩))) tI fun r15 =>
 .opl (aa fu #[.string r14]) tI fun r16 =>
 .opl (aa am #[.int .i64 81,.string kE,.int .i64 r16,.int .i64 r15,.slice none 0 0]) tP fun r17 =>
 .ret #[.v (.pointer r17)]) (
 .op (aa ax #[.pointer (some a0_a0),.string ix]) tB fun r18 =>
 .ite r18 (
 .op (aa aH #[.pointer (some a0_a0)]) (.c (.agg [.int .i64,.str,.int .i64,.int .i64])) fun r19 =>
 .join 0 [] (
 .ite ((r19.1:Int) != 3) (
 .op (aa cy #[.pointer (some a0_a0)]) tU fun _ =>
 .out 0 []) (
 .out 0 [])) fun x21 =>
 .draw <|
 .opq (ai ak (.pointer (some ⟨r2.block,r2.off+2,none⟩))) tI fun r22 =>
 .opl (aa bZ #[.pointer (some a0_a0)]) (.c (.agg [.int .i64,.str,.int .i64,.int .i64])) fun r23 =>
 .opl (aa fu #[.string r23.2.1]) tI fun r24 =>
 .opl (aa am #[.int .i64 81,.string kE,.int .i64 (IntKind.i64.wrap (0 - r24)),.int .i64 r22,.slice none 0 0]) tP fun r25 =>
 .ret #[.v (.pointer r25)]) (
 .op (ai ak (.pointer (some r2))) tI fun r26 =>
 .ite ((r26:Int)==4) (
 .op (aa bZ #[.pointer (some a0_a0)]) (.c (.agg [.int .i64,.str,.int .i64,.int .i64])) fun r27 =>
 .op (ai aF (.pointer (some ⟨r2.block,r2.off+1,none⟩))) tS fun r28 =>
 .op (ai ak (.pointer (some ⟨r2.block,r2.off+2,none⟩))) tI fun r29 =>
 .op (aa am #[.int .i64 82,.string r28,.int .i64 0,.int .i64 r29,.slice none 0 0]) tP fun r30 =>
 .ret #[.v (.pointer r30)]) (
 .op (aa bg #[.pointer (some a0_a0),.string k_lc]) tB fun r31 =>
 .ite r31 (
 .op (aa fm #[.pointer (some a0_a0)]) tP fun r32 =>
 .ret #[.v (.pointer r32)]) (
 .op (aa ke #[.pointer (some a0_a0)]) tP fun r33 =>
 .ret #[.v (.pointer r33)]))))))
theorem yy (a0_a0:Addr):bh Tryz.prog Tryz.f194 wz [.pointer (some a0_a0)]=ky a0_a0:=by kernel_rfl
theorem wL {ε σ β:Type} {I:av ε σ} {t:Ty} {s:Sp ε σ β} {Rel:β→t.den→al→Fact} {Γ:List Fact} (a0_a0:Addr) (h:Sim Tryz.prog I t Rel noLabel none (ky a0_a0) s [] Γ):MeetsO Tryz.prog I (aa kO #[.pointer (some a0_a0)]) t s Rel Γ :=
 aj (args:=[.pointer (some a0_a0)]) Tryz.func194 rfl rfl (Nat.le_of_ble_eq_true rfl) (by rw [yy]; exact h)
def q5:An :=
 .s (.r [none]) (.s (.r [none,some (.c (.agg [.int .i64,.str,.int .i64,.int .i64])),none,none]) (.s (.r [none,some tU]) (.s (.r [none,some tP,none]) (.s (.r [none,some tU]) (.s (.r [none,some tU]) (.s (.r [none,none,none,some tP,some ah,some tP,none]) (.x)))))))
def iq (a0_p:Addr):T :=
 .op (aa aH #[.pointer (some a0_p)]) (.c (.agg [.int .i64,.str,.int .i64,.int .i64])) fun r1 =>
 .op (aa aB #[.pointer (some a0_p),.string k_lp]) tU fun _ =>
 .op (aa dQ #[.pointer (some a0_p),.bool false]) tP fun r3 =>
 .op (aa aB #[.pointer (some a0_p),.string k_rp]) tU fun _ =>
 .op (aa aB #[.pointer (some a0_p),.string gH]) tU fun _ =>
 .op (aa ck #[.pointer (some a0_p)]) tP fun r6 =>
 .op (ar ad 2 #[(0,.pointer r3),(1,.pointer r6)]) ah fun r7 =>
 .op (aa am #[.int .i64 86,.string kE,.int .i64 0,.int .i64 r1.2.2.1,.slice r7.1 r7.2.1 r7.2.2]) tP fun r8 =>
 .ret #[.v (.pointer r8)]
theorem rn (a0_p:Addr):bh Tryz.prog Tryz.f225 q5 [.pointer (some a0_p)]=iq a0_p:=by kernel_rfl
theorem rB {ε σ β:Type} {I:av ε σ} {t:Ty} {s:Sp ε σ β} {Rel:β→t.den→al→Fact} {Γ:List Fact} (a0_p:Addr) (h:Sim Tryz.prog I t Rel noLabel none (iq a0_p) s [] Γ):MeetsO Tryz.prog I (aa ij #[.pointer (some a0_p)]) t s Rel Γ :=
 aj (args:=[.pointer (some a0_p)]) Tryz.func225 rfl rfl (Nat.le_of_ble_eq_true rfl) (by rw [rn]; exact h)
def Av:An :=
 .s (.r [none]) (.s (.r [none,some (.c (.agg [.int .i64,.str,.int .i64,.int .i64])),some tA,some tU]) (.s (.b (.s (.s (.r [none,some tB,none]) (.j [(7,.b .bool)] (.c (.x) (.s (.r [none,some tB,none]) (.c (.x) (.s (.r [none,some tB,none]) (.c (.x) (.r [none,some tB,none])))))))) (.c (.s (.d (.q 0 none (.q 1 (some tS) (.q 2 none (.q 3 (some tI) (.q 4 none (.l 5 (some tP) (.l 6 (some ah) (.l 7 (some tP) (.q 8 none (.e))))))))))) (.x)) (.x)))) (.s (.r [none,some tS,none]) (.s (.j [(4,.b .str)] (.b (.l [(4,.b .str)] (.s (.s (.r [none,some tB]) (.c (.x) (.x))) (.b (.r [none,none,some tS,some tS,some tS,none])))))) (.s (.d (.q 0 none (.q 1 none (.q 2 (some tI) (.q 3 none (.l 4 (some tP) (.l 5 (some ah) (.l 6 (some tP) (.q 7 none (.e)))))))))) (.x))))))
def nF (a0_p:Addr):T :=
 .op (aa aH #[.pointer (some a0_p)]) (.c (.agg [.int .i64,.str,.int .i64,.int .i64])) fun r1 =>
 .op (bj ae) tA fun r2 =>
 .op (aW ae (.pointer (some r2)) (.agg #[.int .i64 r1.1,.string r1.2.1,.int .i64 r1.2.2.1,.int .i64 r1.2.2.2.1])) tU fun _ =>
 .op (aa ax #[.pointer (some a0_p),.string knull]) tB fun r4 =>
 .join 0 [.b .bool] (
 .ite r4 (
 .out 0 [.bool true]) (
 .op (aa ax #[.pointer (some a0_p),.string kundefined]) tB fun r5 =>
 .ite r5 (
 .out 0 [.bool true]) (
 .op (aa ax #[.pointer (some a0_p),.string ktrue]) tB fun r6 =>
 .ite r6 (
 .out 0 [.bool true]) (
 .op (aa ax #[.pointer (some a0_p),.string kfalse]) tB fun r7 =>
 .out 0 [.bool r7])))) fun x8 =>
 .ite x8.1 (
 .draw <|
 .opq (ai aF (.pointer (some ⟨r2.block,r2.off+1,none⟩))) tS fun r9 =>
 .opq (ai ak (.pointer (some ⟨r2.block,r2.off+2,none⟩))) tI fun r10 =>
 .opl (aa cx #[.pointer (some a0_p)]) tP fun r11 =>
 .opl (ar ad 1 #[(0,.pointer r11)]) ah fun r12 =>
 .opl (aa am #[.int .i64 80,.string r9,.int .i64 0,.int .i64 r10,.slice r12.1 r12.2.1 r12.2.2]) tP fun r13 =>
 .ret #[.v (.pointer r13)]) (
 .op (aa bu #[.pointer (some a0_p)]) tS fun r14 =>
 .join 0 [.b .str] (
 .loop 1 [.b .str] [.string r14] fun x15 =>
 .op (aa ax #[.pointer (some a0_p),.string k_dot]) tB fun r16 =>
 .ite r16 (
 .op (aa bu #[.pointer (some a0_p)]) tS fun r17 =>
 .op (bT .add aF (.string k_dot) (.string r17)) tS fun r18 =>
 .op (bT .add aF (.string x15.1) (.string r18)) tS fun r19 =>
 .out 1 [.string r19]) (
 .out 0 [.string x15.1])) fun x20 =>
 .draw <|
 .opq (ai ak (.pointer (some ⟨r2.block,r2.off+2,none⟩))) tI fun r21 =>
 .opl (aa eu #[.pointer (some a0_p)]) tP fun r22 =>
 .opl (ar ad 1 #[(0,.pointer r22)]) ah fun r23 =>
 .opl (aa am #[.int .i64 80,.string x20.1,.int .i64 0,.int .i64 r21,.slice r23.1 r23.2.1 r23.2.2]) tP fun r24 =>
 .ret #[.v (.pointer r24)])
theorem B8 (a0_p:Addr):bh Tryz.prog Tryz.f220 Av [.pointer (some a0_p)]=nF a0_p:=by kernel_rfl
theorem B0 {ε σ β:Type} {I:av ε σ} {t:Ty} {s:Sp ε σ β} {Rel:β→t.den→al→Fact} {Γ:List Fact} (a0_p:Addr) (h:Sim Tryz.prog I t Rel noLabel none (nF a0_p) s [] Γ):MeetsO Tryz.prog I (aa ke #[.pointer (some a0_p)]) t s Rel Γ :=
 aj (args:=[.pointer (some a0_p)]) Tryz.func220 rfl rfl (Nat.le_of_ble_eq_true rfl) (by rw [B8]; exact h)
def xR:An :=
 .s (.r [none]) (.s (.r [none,some (.c (.agg [.int .i64,.str,.int .i64,.int .i64])),none,none]) (.s (.s (.r [none,none,some tB,none]) (.c (.s (.r [none,some tP,none]) (.x)) (.x))) (.s (.r [none,none,none,some tP,none]) (.s (.r [none,none,some tA,none,none,some tU]) (.s (.r [none,none]) (.x))))))
def mg (a0_p:Addr) (a1_word:ByteArray):T :=
 .op (aa aH #[.pointer (some a0_p)]) (.c (.agg [.int .i64,.str,.int .i64,.int .i64])) fun r1 =>
 .op (aa ax #[.pointer (some a0_p),.string a1_word]) tB fun r2 =>
 .ite (!r2) (
 .op (aa cx #[.pointer (some a0_p)]) tP fun r3 =>
 .ret #[.v (.pointer r3)]) (
 .op (aa dX #[.pointer (some a0_p),.func (.func ke) #[.pointer (some a0_p)] #[]]) tP fun r4 =>
 .op (bV (.pointer r4)) tA fun r5 =>
 .op (aW ak (.pointer (some ⟨r5.block,r5.off+4,none⟩)) (.int .i64 r1.2.2.1)) tU fun _ =>
 .ret #[.v (.pointer r4)])
theorem zX (a0_p:Addr) (a1_word:ByteArray):bh Tryz.prog Tryz.f186 xR [.pointer (some a0_p),.string a1_word]=mg a0_p a1_word:=by kernel_rfl
theorem zl {ε σ β:Type} {I:av ε σ} {t:Ty} {s:Sp ε σ β} {Rel:β→t.den→al→Fact} {Γ:List Fact} (a0_p:Addr) (a1_word:ByteArray) (h:Sim Tryz.prog I t Rel noLabel none (mg a0_p a1_word) s [] Γ):MeetsO Tryz.prog I (aa ja #[.pointer (some a0_p),.string a1_word]) t s Rel Γ :=
 aj (args:=[.pointer (some a0_p),.string a1_word]) Tryz.func186 rfl rfl (Nat.le_of_ble_eq_true rfl) (by rw [zX]; exact h)
def wW:An :=
 .s (.r [none]) (.s (.r [none,some (.c (.agg [.int .i64,.str,.int .i64,.int .i64])),none,none]) (.s (.s (.r [none,some tB,none]) (.c (.s (.r [none,some tP,none]) (.x)) (.x))) (.s (.r [none,none,none,some tP,none]) (.s (.r [none,none,some tA,none,none,some tU]) (.s (.r [none,some tU]) (.s (.r [none,none]) (.x)))))))
def mc (a0_p:Addr):T :=
 .op (aa aH #[.pointer (some a0_p)]) (.c (.agg [.int .i64,.str,.int .i64,.int .i64])) fun r1 =>
 .op (aa ax #[.pointer (some a0_p),.string jh]) tB fun r2 =>
 .ite (!r2) (
 .op (aa cx #[.pointer (some a0_p)]) tP fun r3 =>
 .ret #[.v (.pointer r3)]) (
 .op (aa dX #[.pointer (some a0_p),.func (.func ck) #[.pointer (some a0_p)] #[]]) tP fun r4 =>
 .op (bV (.pointer r4)) tA fun r5 =>
 .op (aW ak (.pointer (some ⟨r5.block,r5.off+4,none⟩)) (.int .i64 r1.2.2.1)) tU fun _ =>
 .op (aa ir #[.pointer (some a0_p)]) tU fun _ =>
 .ret #[.v (.pointer r4)])
theorem AD (a0_p:Addr):bh Tryz.prog Tryz.f215 wW [.pointer (some a0_p)]=mc a0_p:=by kernel_rfl
theorem zz {ε σ β:Type} {I:av ε σ} {t:Ty} {s:Sp ε σ β} {Rel:β→t.den→al→Fact} {Γ:List Fact} (a0_p:Addr) (h:Sim Tryz.prog I t Rel noLabel none (mc a0_p) s [] Γ):MeetsO Tryz.prog I (aa eu #[.pointer (some a0_p)]) t s Rel Γ :=
 aj (args:=[.pointer (some a0_p)]) Tryz.func215 rfl rfl (Nat.le_of_ble_eq_true rfl) (by rw [AD]; exact h)
def xk:An :=
 .s (.r [some tA,none]) (.s (.r [some tP,some (.c (.agg [.int .i64,.str,.int .i64,.int .i64])),none,none]) (.s (.s (.r [some tP,some tB,none]) (.c (.s (.r [some tP,some tP,none]) (.x)) (.x))) (.s (.r [some tP,none,some tP,none]) (.s (.r [none,none,some tA,none,none,some tU]) (.s (.r [some tP,some tU]) (.s (.r [none,none]) (.x)))))))
def l9 (a0_p:Addr):T :=
 .op (cJ aE (.pointer (some a0_p))) tA fun r1 =>
 .op (ai aE (.pointer (some r1))) tP fun r2 =>
 .op (aa aH #[.pointer r2]) (.c (.agg [.int .i64,.str,.int .i64,.int .i64])) fun r3 =>
 .op (ai aE (.pointer (some r1))) tP fun r4 =>
 .op (aa ax #[.pointer r4,.string jh]) tB fun r5 =>
 .ite (!r5) (
 .op (ai aE (.pointer (some r1))) tP fun r6 =>
 .op (aa cx #[.pointer r6]) tP fun r7 =>
 .ret #[.v (.pointer r7)]) (
 .op (ai aE (.pointer (some r1))) tP fun r8 =>
 .op (aa dX #[.pointer r8,.func (.func ki) #[] #[.pointer (some r1)]]) tP fun r9 =>
 .op (bV (.pointer r9)) tA fun r10 =>
 .op (aW ak (.pointer (some ⟨r10.block,r10.off+4,none⟩)) (.int .i64 r3.2.2.1)) tU fun _ =>
 .op (ai aE (.pointer (some r1))) tP fun r12 =>
 .op (aa ir #[.pointer r12]) tU fun _ =>
 .ret #[.v (.pointer r9)])
theorem AI (a0_p:Addr):bh Tryz.prog Tryz.f185 xk [.pointer (some a0_p)]=l9 a0_p:=by kernel_rfl
theorem As {ε σ β:Type} {I:av ε σ} {t:Ty} {s:Sp ε σ β} {Rel:β→t.den→al→Fact} {Γ:List Fact} (a0_p:Addr) (h:Sim Tryz.prog I t Rel noLabel none (l9 a0_p) s [] Γ):MeetsO Tryz.prog I (aa eA #[.pointer (some a0_p)]) t s Rel Γ :=
 aj (args:=[.pointer (some a0_p)]) Tryz.func185 rfl rfl (Nat.le_of_ble_eq_true rfl) (by rw [AI]; exact h)
def tY:An :=
 .s (.r [none]) (.s (.r [some tP,some (.c (.agg [.int .i64,.str,.int .i64,.int .i64])),none,none]) (.s (.r [some tP,some tS,none,some tP,none]) (.x)))
def kc (a0_a0:Addr):T :=
 .op (ai aE (.pointer (some a0_a0))) tP fun r1 =>
 .op (aa aH #[.pointer r1]) (.c (.agg [.int .i64,.str,.int .i64,.int .i64])) fun r2 =>
 .op (ai aE (.pointer (some a0_a0))) tP fun r3 =>
 .op (aa bu #[.pointer r3]) tS fun r4 =>
 .op (aa am #[.int .i64 67,.string r4,.int .i64 0,.int .i64 r2.2.2.1,.slice none 0 0]) tP fun r5 =>
 .ret #[.v (.pointer r5)]
theorem vN (a0_a0:Addr):bh Tryz.prog Tryz.f218 tY [.pointer (some a0_a0)]=kc a0_a0:=by kernel_rfl
theorem vv {ε σ β:Type} {I:av ε σ} {t:Ty} {s:Sp ε σ β} {Rel:β→t.den→al→Fact} {Γ:List Fact} (a0_a0:Addr) (h:Sim Tryz.prog I t Rel noLabel none (kc a0_a0) s [] Γ):MeetsO Tryz.prog I (aa ki #[.pointer (some a0_a0)]) t s Rel Γ :=
 aj (args:=[.pointer (some a0_a0)]) Tryz.func218 rfl rfl (Nat.le_of_ble_eq_true rfl) (by rw [vN]; exact h)
def rI:An :=
 .s (.r [none]) (.s (.s (.r [none,some tB]) (.c (.s (.r [none,some tP,none]) (.x)) (.x))) (.s (.r [none,some tP,none]) (.x)))
def iW (a0_p:Addr):T :=
 .op (aa ax #[.pointer (some a0_p),.string gK]) tB fun r1 =>
 .ite r1 (
 .op (aa ck #[.pointer (some a0_p)]) tP fun r2 =>
 .ret #[.v (.pointer r2)]) (
 .op (aa cE #[.pointer (some a0_p)]) tP fun r3 =>
 .ret #[.v (.pointer r3)])
theorem tn (a0_p:Addr):bh Tryz.prog Tryz.f214 rI [.pointer (some a0_p)]=iW a0_p:=by kernel_rfl
theorem tp {ε σ β:Type} {I:av ε σ} {t:Ty} {s:Sp ε σ β} {Rel:β→t.den→al→Fact} {Γ:List Fact} (a0_p:Addr) (h:Sim Tryz.prog I t Rel noLabel none (iW a0_p) s [] Γ):MeetsO Tryz.prog I (aa dS #[.pointer (some a0_p)]) t s Rel Γ :=
 aj (args:=[.pointer (some a0_p)]) Tryz.func214 rfl rfl (Nat.le_of_ble_eq_true rfl) (by rw [tn]; exact h)
def qb:An :=
 .s (.r [none]) (.b (.s (.r [none,some (.c (.agg [.int .i64,.str,.int .i64,.int .i64])),none,some tP,none]) (.s (.r [none,some tU]) (.s (.x) (.s (.j [] (.b (.l [] (.s (.s (.r [none,some tB,none]) (.c (.x) (.x))) (.b (.s (.d (.q 0 none (.q 1 none (.q 2 (some tA) (.q 3 none (.q 4 (some ah) (.q 5 none (.l 6 (some tP) (.l 7 (some ah) (.l 8 (some ah) (.q 9 (some tA) (.q 10 none (.l 11 (some tU) (.e)))))))))))))) (.s (.r [none,some tB,none,none,none,some tB,none,none]) (.c (.x) (.x))))))))) (.s (.r [none,some tU]) (.s (.r [none,none]) (.x))))))))
def gN (a0_p:Addr):T :=
 .op (aa aH #[.pointer (some a0_p)]) (.c (.agg [.int .i64,.str,.int .i64,.int .i64])) fun r1 =>
 .op (aa am #[.int .i64 84,.string kE,.int .i64 0,.int .i64 r1.2.2.1,.slice none 0 0]) tP fun r2 =>
 .op (aa aB #[.pointer (some a0_p),.string k_lc]) tU fun _ =>
 .join 0 [] (
 .loop 1 [] [] fun x4 =>
 .op (aa bg #[.pointer (some a0_p),.string k_rc]) tB fun r5 =>
 .ite (!r5) (
 .draw <|
 .opq (bV (.pointer r2)) tA fun r6 =>
 .opq (ai ad (.pointer (some ⟨r6.block,r6.off+5,none⟩))) ah fun r7 =>
 .opl (aa lf #[.pointer (some a0_p)]) tP fun r8 =>
 .opl (ar ad 1 #[(0,.pointer r8)]) ah fun r9 =>
 .opl (dg #[ad,ad] ad #[.slice r7.1 r7.2.1 r7.2.2,.slice r9.1 r9.2.1 r9.2.2]) ah fun r10 =>
 .opq (bV (.pointer r2)) tA fun r11 =>
 .op (aW ad (.pointer (some ⟨r11.block,r11.off+5,none⟩)) (.slice r10.1 r10.2.1 r10.2.2)) tU fun _ =>
 .op (aa ax #[.pointer (some a0_p),.string cS]) tB fun r13 =>
 .ite (!r13) (
 .op (aa ax #[.pointer (some a0_p),.string jB]) tB fun r14 =>
 .ite (!r14) (
 .out 0 []) (
 .out 1 [])) (
 .out 1 [])) (
 .out 0 [])) fun x15 =>
 .op (aa aB #[.pointer (some a0_p),.string k_rc]) tU fun _ =>
 .ret #[.v (.pointer r2)]
theorem q7 (a0_p:Addr):bh Tryz.prog Tryz.f187 qb [.pointer (some a0_p)]=gN a0_p:=by kernel_rfl
theorem q9 {ε σ β:Type} {I:av ε σ} {t:Ty} {s:Sp ε σ β} {Rel:β→t.den→al→Fact} {Γ:List Fact} (a0_p:Addr) (h:Sim Tryz.prog I t Rel noLabel none (gN a0_p) s [] Γ):MeetsO Tryz.prog I (aa fm #[.pointer (some a0_p)]) t s Rel Γ :=
 aj (args:=[.pointer (some a0_p)]) Tryz.func187 rfl rfl (Nat.le_of_ble_eq_true rfl) (by rw [q7]; exact h)
def uK:An :=
 .s (.r [none]) (.s (.r [none,some (.c (.agg [.int .i64,.str,.int .i64,.int .i64])),none,none]) (.s (.r [none,some tS,none]) (.s (.s (.r [none,some tB]) (.c (.s (.r [none,some (.c (.agg [.int .i64,.str,.int .i64,.int .i64])),none,none]) (.s (.r [none,some tU]) (.s (.r [none,some tP,none]) (.s (.r [none,some tU]) (.s (.r [none,some tU]) (.s (.r [none,none,none,none,none,some tP,some ah,some tP,some ah,some tP,none]) (.x))))))) (.x))) (.s (.r [none]) (.s (.s (.r [none,some tB]) (.j [(7,.b (.int .i64))] (.c (.r [none]) (.x)))) (.s (.r [none,some tU]) (.s (.r [none,none,none,none,some tP,some ah,some tP,none]) (.x))))))))
def kq (a0_p:Addr):T :=
 .op (aa aH #[.pointer (some a0_p)]) (.c (.agg [.int .i64,.str,.int .i64,.int .i64])) fun r1 =>
 .op (aa bu #[.pointer (some a0_p)]) tS fun r2 =>
 .op (aa bg #[.pointer (some a0_p),.string k_lp]) tB fun r3 =>
 .ite r3 (
 .op (aa aH #[.pointer (some a0_p)]) (.c (.agg [.int .i64,.str,.int .i64,.int .i64])) fun r4 =>
 .op (aa aB #[.pointer (some a0_p),.string k_lp]) tU fun _ =>
 .op (aa dQ #[.pointer (some a0_p),.bool false]) tP fun r6 =>
 .op (aa aB #[.pointer (some a0_p),.string k_rp]) tU fun _ =>
 .op (aa aB #[.pointer (some a0_p),.string gK]) tU fun _ =>
 .op (aa ck #[.pointer (some a0_p)]) tP fun r9 =>
 .op (ar ad 2 #[(0,.pointer r6),(1,.pointer r9)]) ah fun r10 =>
 .op (aa am #[.int .i64 86,.string kE,.int .i64 0,.int .i64 r4.2.2.1,.slice r10.1 r10.2.1 r10.2.2]) tP fun r11 =>
 .op (ar ad 1 #[(0,.pointer r11)]) ah fun r12 =>
 .op (aa am #[.int .i64 85,.string r2,.int .i64 0,.int .i64 r1.2.2.1,.slice r12.1 r12.2.1 r12.2.2]) tP fun r13 =>
 .ret #[.v (.pointer r13)]) (
 .op (aa ax #[.pointer (some a0_p),.string nc]) tB fun r14 =>
 .join 0 [.b (.int .i64)] (
 .ite r14 (
 .out 0 [.int .i64 1]) (
 .out 0 [.int .i64 0])) fun x15 =>
 .op (aa aB #[.pointer (some a0_p),.string gK]) tU fun _ =>
 .op (aa ck #[.pointer (some a0_p)]) tP fun r17 =>
 .op (ar ad 1 #[(0,.pointer r17)]) ah fun r18 =>
 .op (aa am #[.int .i64 85,.string r2,.int .i64 x15.1,.int .i64 r1.2.2.1,.slice r18.1 r18.2.1 r18.2.2]) tP fun r19 =>
 .ret #[.v (.pointer r19)])
theorem xH (a0_p:Addr):bh Tryz.prog Tryz.f221 uK [.pointer (some a0_p)]=kq a0_p:=by kernel_rfl
theorem yp {ε σ β:Type} {I:av ε σ} {t:Ty} {s:Sp ε σ β} {Rel:β→t.den→al→Fact} {Γ:List Fact} (a0_p:Addr) (h:Sim Tryz.prog I t Rel noLabel none (kq a0_p) s [] Γ):MeetsO Tryz.prog I (aa lf #[.pointer (some a0_p)]) t s Rel Γ :=
 aj (args:=[.pointer (some a0_p)]) Tryz.func221 rfl rfl (Nat.le_of_ble_eq_true rfl) (by rw [xH]; exact h)
def un:An :=
 .s (.r [some tA,some tA,none]) (.s (.s (.r [some tP,some tB]) (.c (.s (.r [some tP,some tP,none]) (.x)) (.x))) (.s (.r [some tP,none,some tP,none]) (.x)))
def jP (a0_p:Addr) (a1_marks:Bool):T :=
 .op (cJ aE (.pointer (some a0_p))) tA fun r1 =>
 .op (cJ bq (.bool a1_marks)) tA fun r2 =>
 .op (ai aE (.pointer (some r1))) tP fun r3 =>
 .op (aa bg #[.pointer r3,.string k_rp]) tB fun r4 =>
 .ite r4 (
 .op (ai aE (.pointer (some r1))) tP fun r5 =>
 .op (aa cx #[.pointer r5]) tP fun r6 =>
 .ret #[.v (.pointer r6)]) (
 .op (ai aE (.pointer (some r1))) tP fun r7 =>
 .op (aa dX #[.pointer r7,.func (.func iT) #[] #[.pointer (some r1),.pointer (some r2)]]) tP fun r8 =>
 .ret #[.v (.pointer r8)])
theorem vB (a0_p:Addr) (a1_marks:Bool):bh Tryz.prog Tryz.f192 un [.pointer (some a0_p),.bool a1_marks]=jP a0_p a1_marks:=by kernel_rfl
theorem ww {ε σ β:Type} {I:av ε σ} {t:Ty} {s:Sp ε σ β} {Rel:β→t.den→al→Fact} {Γ:List Fact} (a0_p:Addr) (a1_marks:Bool) (h:Sim Tryz.prog I t Rel noLabel none (jP a0_p a1_marks) s [] Γ):MeetsO Tryz.prog I (aa dQ #[.pointer (some a0_p),.bool a1_marks]) t s Rel Γ :=
 aj (args:=[.pointer (some a0_p),.bool a1_marks]) Tryz.func192 rfl rfl (Nat.le_of_ble_eq_true rfl) (by rw [vB]; exact h)
def rQ:An :=
 .s (.r [none]) (.s (.r [some tP,some (.c (.agg [.int .i64,.str,.int .i64,.int .i64])),none,none,none]) (.s (.s (.j [(13,.b .bool)] (.r [some tB,none,some tP,some tB,none])) (.j [(4,.b (.int .i64))] (.c (.r [none,some tI,none]) (.x)))) (.s (.s (.j [(20,.b .bool)] (.r [some tB,none,some tP,some tB,none])) (.j [(4,.b (.int .i64))] (.c (.r [none,some tI,none]) (.x)))) (.s (.r [some tP,some tS,none]) (.s (.s (.r [some tP,some tB]) (.j [(4,.b (.int .i64))] (.c (.r [none,some tI,none]) (.x)))) (.s (.r [none,none,none,some tP,some tP,some ah,some tP,none]) (.x)))))))
def iU (a0_a0:Addr) (a1_a1:Addr):T :=
 .op (ai aE (.pointer (some a0_a0))) tP fun r1 =>
 .op (aa aH #[.pointer r1]) (.c (.agg [.int .i64,.str,.int .i64,.int .i64])) fun r2 =>
 .join 0 [.b .bool] (
 .op (ai bq (.pointer (some a1_a1))) tB fun r3 =>
 .ite r3 (
 .op (ai aE (.pointer (some a0_a0))) tP fun r4 =>
 .op (aa ax #[.pointer r4,.string Ej]) tB fun r5 =>
 .out 0 [.bool r5]) (
 .out 0 [.bool false])) fun x6 =>
 .join 0 [.b (.int .i64)] (
 .ite x6.1 (
 .op (bT .or ak (.int .i64 0) (.int .i64 2)) tI fun r7 =>
 .out 0 [.int .i64 r7]) (
 .out 0 [.int .i64 0])) fun x8 =>
 .join 0 [.b .bool] (
 .op (ai bq (.pointer (some a1_a1))) tB fun r9 =>
 .ite r9 (
 .op (ai aE (.pointer (some a0_a0))) tP fun r10 =>
 .op (aa ax #[.pointer r10,.string n9]) tB fun r11 =>
 .out 0 [.bool r11]) (
 .out 0 [.bool false])) fun x12 =>
 .join 0 [.b (.int .i64)] (
 .ite x12.1 (
 .op (bT .or ak (.int .i64 x8.1) (.int .i64 4)) tI fun r13 =>
 .out 0 [.int .i64 r13]) (
 .out 0 [.int .i64 x8.1])) fun x14 =>
 .op (ai aE (.pointer (some a0_a0))) tP fun r15 =>
 .op (aa bu #[.pointer r15]) tS fun r16 =>
 .op (ai aE (.pointer (some a0_a0))) tP fun r17 =>
 .op (aa ax #[.pointer r17,.string nc]) tB fun r18 =>
 .join 0 [.b (.int .i64)] (
 .ite r18 (
 .op (bT .or ak (.int .i64 x14.1) (.int .i64 1)) tI fun r19 =>
 .out 0 [.int .i64 r19]) (
 .out 0 [.int .i64 x14.1])) fun x20 =>
 .op (ai aE (.pointer (some a0_a0))) tP fun r21 =>
 .op (aa dS #[.pointer r21]) tP fun r22 =>
 .op (ar ad 1 #[(0,.pointer r22)]) ah fun r23 =>
 .op (aa am #[.int .i64 66,.string r16,.int .i64 x20.1,.int .i64 r2.2.2.1,.slice r23.1 r23.2.1 r23.2.2]) tP fun r24 =>
 .ret #[.v (.pointer r24)]
theorem tt (a0_a0:Addr) (a1_a1:Addr):bh Tryz.prog Tryz.f222 rQ [.pointer (some a0_a0),.pointer (some a1_a1)]=iU a0_a0 a1_a1:=by kernel_rfl
theorem th {ε σ β:Type} {I:av ε σ} {t:Ty} {s:Sp ε σ β} {Rel:β→t.den→al→Fact} {Γ:List Fact} (a0_a0:Addr) (a1_a1:Addr) (h:Sim Tryz.prog I t Rel noLabel none (iU a0_a0 a1_a1) s [] Γ):MeetsO Tryz.prog I (aa iT #[.pointer (some a0_a0),.pointer (some a1_a1)]) t s Rel Γ :=
 aj (args:=[.pointer (some a0_a0),.pointer (some a1_a1)]) Tryz.func222 rfl rfl (Nat.le_of_ble_eq_true rfl) (by rw [tt]; exact h)
end
end Go.Proofs.YtjlgcpgjdgeejaaGreatDoor
end

section
namespace Go.Proofs.YtjlgcpgjdgeejaaGreatDoor
open Go
set_option linter.unusedSimpArgs false
set_option linter.unusedVariables false
set_option linter.constructorNameAsVariable false
set_option maxRecDepth 100000
theorem lC {R:aY} (hR:cm R) (pb:Nat):Meets PG (PI pb) (aa eu #[.pointer (some (aL pb))]) tP (gT R) NodeF []:=by
 refine zz (aL pb) ?_
 unfold mc gT
 (with_reducible repeat (first | refine sA ?_ | refine sB ?_ | refine sC ?_ | refine sD ?_ | refine sE ?_ | refine sF ?_))
 first | refine ag (aZ _) (fun _ h=>nomatch h) fun r1 b=>Sim.prop fun h=>?_ | refine af (aZ _) (fun _ h=>nomatch h) fun r1 b=>Sim.prop fun h=>?_
 subst h
 (with_reducible repeat (first | refine sA ?_ | refine sB ?_ | refine sC ?_ | refine sD ?_ | refine sE ?_ | refine sF ?_))
 first | refine ag (aA _ _) (fun _ h=>nomatch h) fun r2 b=>Sim.prop fun h=>?_ | refine af (aA _ _) (fun _ h=>nomatch h) fun r2 b=>Sim.prop fun h=>?_
 subst h
 (with_reducible repeat (first | refine sA ?_ | refine sB ?_ | refine sC ?_ | refine sD ?_ | refine sE ?_ | refine sF ?_))
 (first | refine qA (fun h=>?_) fun h=>?_ | refine qB (fun h=>?_) fun h=>?_ | refine qC (fun h=>?_) fun h=>?_ | refine qD (fun h=>?_) fun h=>?_ | refine qE (fun h=>?_) fun h=>?_) -- (!r2)
 ·skip
  (with_reducible repeat (first | refine sA ?_ | refine sB ?_ | refine sC ?_ | refine sD ?_ | refine sE ?_ | refine sF ?_))
  first | refine ag (eX _) (fun _ h=>nomatch h) fun r3 nr3=>?_ | refine af (eX _) (fun _ h=>nomatch h) fun r3 nr3=>?_
  (with_reducible repeat (first | refine sA ?_ | refine sB ?_ | refine sC ?_ | refine sD ?_ | refine sE ?_ | refine sF ?_))
  exact ay (t:=tP) _ rfl (fun F hF=>hF _ (by repeat (first | exact mz | apply ms)))
 ·skip
  (with_reducible repeat (first | refine sA ?_ | refine sB ?_ | refine sC ?_ | refine sD ?_ | refine sE ?_ | refine sF ?_))
  first | refine iC (gG pb _ _ R.fuel (Nat.le_trans hR.fuel (by decide)) (MeetsO.congr (fA _ _) (hR.typed _))) (fun _ h=>nomatch h) fun r4 nr4 Kr4=>?_ | refine k7 (gG pb _ _ R.fuel (Nat.le_trans hR.fuel (by decide)) (MeetsO.congr (fA _ _) (hR.typed _))) (fun _ h=>nomatch h) fun r4 nr4 Kr4=>?_
  refine qU (by repeat (first | exact mz | apply ms)) fun Kr4=>?_
  refine c7 (by repeat (first | exact mz | apply ms)) ?_
  (with_reducible repeat (first | refine sA ?_ | refine sB ?_ | refine sC ?_ | refine sD ?_ | refine sE ?_ | refine sF ?_))
  first | refine ag (sT _) (fun _ h=>nomatch h) fun x b=>?_ | refine af (sT _) (fun _ h=>nomatch h) fun x b=>?_
  (with_reducible repeat (first | refine sA ?_ | refine sB ?_ | refine sC ?_ | refine sD ?_ | refine sE ?_ | refine sF ?_))
  exact ay (t:=tP) _ rfl (fun F hF=>hF _ (by repeat (first | exact mz | apply ms)))
theorem B7 (pb b:Nat):Meets PG (PI pb) (aa ki #[.pointer (some (aL b))]) tP GS NodeF [Fact.at b (aq aE [.pointer (some (aL pb))])]:=by
 refine vv (aL b) ?_
 unfold kc GS
 refine aN (b1:=.ptr) _ (by repeat (first | exact mz | apply ms)) (by kernel_rfl) rfl rfl ?_
 (with_reducible repeat (first | refine sA ?_ | refine sB ?_ | refine sC ?_ | refine sD ?_ | refine sE ?_ | refine sF ?_))
 first | refine ag (aZ _) (fun _ h=>nomatch h) fun r2 b=>Sim.prop fun h=>?_ | refine af (aZ _) (fun _ h=>nomatch h) fun r2 b=>Sim.prop fun h=>?_
 subst h
 refine aN (b1:=.ptr) _ (by repeat (first | exact mz | apply ms)) (by kernel_rfl) rfl rfl ?_
 (with_reducible repeat (first | refine sA ?_ | refine sB ?_ | refine sC ?_ | refine sD ?_ | refine sE ?_ | refine sF ?_))
 first | refine ag (bU _) (fun _ h=>nomatch h) fun r4 b=>Sim.prop fun h=>?_ | refine af (bU _) (fun _ h=>nomatch h) fun r4 b=>Sim.prop fun h=>?_
 subst h
 refine fH fun r5=>?_
 (with_reducible repeat (first | refine sA ?_ | refine sB ?_ | refine sC ?_ | refine sD ?_ | refine sE ?_ | refine sF ?_))
 exact ay (t:=tP) _ rfl (fun F hF=>hF _ (by repeat (first | exact mz | apply ms)))
theorem i6 {R:aY} (hR:cm R) (pb:Nat):Meets PG (PI pb) (aa eA #[.pointer (some (aL pb))]) tP (qH R) NodeF []:=by
 refine As (aL pb) ?_
 unfold l9 qH
 refine jj fun br1=>?_
 refine aN (b1:=.ptr) _ (by repeat (first | exact mz | apply ms)) (by kernel_rfl) rfl rfl ?_
 (with_reducible repeat (first | refine sA ?_ | refine sB ?_ | refine sC ?_ | refine sD ?_ | refine sE ?_ | refine sF ?_))
 first | refine ag (aZ _) (fun _ h=>nomatch h) fun r3 b=>Sim.prop fun h=>?_ | refine af (aZ _) (fun _ h=>nomatch h) fun r3 b=>Sim.prop fun h=>?_
 subst h
 refine aN (b1:=.ptr) _ (by repeat (first | exact mz | apply ms)) (by kernel_rfl) rfl rfl ?_
 (with_reducible repeat (first | refine sA ?_ | refine sB ?_ | refine sC ?_ | refine sD ?_ | refine sE ?_ | refine sF ?_))
 first | refine ag (aA _ _) (fun _ h=>nomatch h) fun r5 b=>Sim.prop fun h=>?_ | refine af (aA _ _) (fun _ h=>nomatch h) fun r5 b=>Sim.prop fun h=>?_
 subst h
 (with_reducible repeat (first | refine sA ?_ | refine sB ?_ | refine sC ?_ | refine sD ?_ | refine sE ?_ | refine sF ?_))
 (first | refine qA (fun h=>?_) fun h=>?_ | refine qB (fun h=>?_) fun h=>?_ | refine qC (fun h=>?_) fun h=>?_ | refine qD (fun h=>?_) fun h=>?_ | refine qE (fun h=>?_) fun h=>?_) -- (!r5)
 ·skip
  refine aN (b1:=.ptr) _ (by repeat (first | exact mz | apply ms)) (by kernel_rfl) rfl rfl ?_
  (with_reducible repeat (first | refine sA ?_ | refine sB ?_ | refine sC ?_ | refine sD ?_ | refine sE ?_ | refine sF ?_))
  first | refine ag (eX _) (fun _ h=>nomatch h) fun r7 nr7=>?_ | refine af (eX _) (fun _ h=>nomatch h) fun r7 nr7=>?_
  (with_reducible repeat (first | refine sA ?_ | refine sB ?_ | refine sC ?_ | refine sD ?_ | refine sE ?_ | refine sF ?_))
  exact ay (t:=tP) _ rfl (fun F hF=>hF _ (by repeat (first | exact mz | apply ms)))
 ·skip
  refine aN (b1:=.ptr) _ (by repeat (first | exact mz | apply ms)) (by kernel_rfl) rfl rfl ?_
  (with_reducible repeat (first | refine sA ?_ | refine sB ?_ | refine sC ?_ | refine sD ?_ | refine sE ?_ | refine sF ?_))
  first | refine iC (gG pb _ _ R.fuel (Nat.le_trans hR.fuel (by decide)) (MeetsO.congr (vb _ _) (B7 _ _))) (fun A hA=>by obtain rfl:=List.mem_singleton.1 hA; exact (by repeat (first | exact mz | apply ms))) fun r9 nr9 Kr9=>?_ | refine k7 (gG pb _ _ R.fuel (Nat.le_trans hR.fuel (by decide)) (MeetsO.congr (vb _ _) (B7 _ _))) (fun A hA=>by obtain rfl:=List.mem_singleton.1 hA; exact (by repeat (first | exact mz | apply ms))) fun r9 nr9 Kr9=>?_
  refine qU (by repeat (first | exact mz | apply ms)) fun Kr9=>?_
  refine c7 (by repeat (first | exact mz | apply ms)) ?_
  refine aN (b1:=.ptr) _ (by repeat (first | exact mz | apply ms)) (by kernel_rfl) rfl rfl ?_
  (with_reducible repeat (first | refine sA ?_ | refine sB ?_ | refine sC ?_ | refine sD ?_ | refine sE ?_ | refine sF ?_))
  first | refine ag (sT _) (fun _ h=>nomatch h) fun x b=>?_ | refine af (sT _) (fun _ h=>nomatch h) fun x b=>?_
  (with_reducible repeat (first | refine sA ?_ | refine sB ?_ | refine sC ?_ | refine sD ?_ | refine sE ?_ | refine sF ?_))
  exact ay (t:=tP) _ rfl (fun F hF=>hF _ (by repeat (first | exact mz | apply ms)))
theorem A6 {R:aY} (hR:cm R) (pb:Nat):Meets PG (PI pb) (aa ke #[.pointer (some (aL pb))]) tP (EK R) NodeF []:=by
 refine B0 (aL pb) ?_
 unfold nF EK
 (with_reducible repeat (first | refine sA ?_ | refine sB ?_ | refine sC ?_ | refine sD ?_ | refine sE ?_ | refine sF ?_))
 first | refine ag (aZ _) (fun _ h=>nomatch h) fun r1 b=>Sim.prop fun h=>?_ | refine af (aZ _) (fun _ h=>nomatch h) fun r1 b=>Sim.prop fun h=>?_
 subst h
 refine gd (c:=true) (z:=[.int .i64 0,.string kE,.int .i64 0,.int .i64 0]) (by kernel_rfl) (by kernel_rfl) rfl (by simp [Value.cells,Value.oneCell']) fun br2=>?_
 (with_reducible repeat (first | refine sA ?_ | refine sB ?_ | refine sC ?_ | refine sD ?_ | refine sE ?_ | refine sF ?_))
 first | refine ag (aA _ _) (fun _ h=>nomatch h) fun r4 b=>Sim.prop fun h=>?_ | refine af (aA _ _) (fun _ h=>nomatch h) fun r4 b=>Sim.prop fun h=>?_
 subst h
 refine cP ?_ fun x8=>?_
 ·skip
  (with_reducible repeat (first | refine sA ?_ | refine sB ?_ | refine sC ?_ | refine sD ?_ | refine sE ?_ | refine sF ?_))
  (first | refine qA (fun h=>?_) fun h=>?_ | refine qB (fun h=>?_) fun h=>?_ | refine qC (fun h=>?_) fun h=>?_ | refine qD (fun h=>?_) fun h=>?_ | refine qE (fun h=>?_) fun h=>?_) -- r4
  ·skip
   exact aV _ rfl rfl
  ·skip
   (with_reducible repeat (first | refine sA ?_ | refine sB ?_ | refine sC ?_ | refine sD ?_ | refine sE ?_ | refine sF ?_))
   first | refine ag (aA _ _) (fun _ h=>nomatch h) fun r5 b=>Sim.prop fun h=>?_ | refine af (aA _ _) (fun _ h=>nomatch h) fun r5 b=>Sim.prop fun h=>?_
   subst h
   (with_reducible repeat (first | refine sA ?_ | refine sB ?_ | refine sC ?_ | refine sD ?_ | refine sE ?_ | refine sF ?_))
   (first | refine qA (fun h=>?_) fun h=>?_ | refine qB (fun h=>?_) fun h=>?_ | refine qC (fun h=>?_) fun h=>?_ | refine qD (fun h=>?_) fun h=>?_ | refine qE (fun h=>?_) fun h=>?_) -- r5
   ·skip
    exact aV _ rfl rfl
   ·skip
    (with_reducible repeat (first | refine sA ?_ | refine sB ?_ | refine sC ?_ | refine sD ?_ | refine sE ?_ | refine sF ?_))
    first | refine ag (aA _ _) (fun _ h=>nomatch h) fun r6 b=>Sim.prop fun h=>?_ | refine af (aA _ _) (fun _ h=>nomatch h) fun r6 b=>Sim.prop fun h=>?_
    subst h
    (with_reducible repeat (first | refine sA ?_ | refine sB ?_ | refine sC ?_ | refine sD ?_ | refine sE ?_ | refine sF ?_))
    (first | refine qA (fun h=>?_) fun h=>?_ | refine qB (fun h=>?_) fun h=>?_ | refine qC (fun h=>?_) fun h=>?_ | refine qD (fun h=>?_) fun h=>?_ | refine qE (fun h=>?_) fun h=>?_) -- r6
    ·skip
     exact aV _ rfl rfl
    ·skip
     (with_reducible repeat (first | refine sA ?_ | refine sB ?_ | refine sC ?_ | refine sD ?_ | refine sE ?_ | refine sF ?_))
     first | refine ag (aA _ _) (fun _ h=>nomatch h) fun r7 b=>Sim.prop fun h=>?_ | refine af (aA _ _) (fun _ h=>nomatch h) fun r7 b=>Sim.prop fun h=>?_
     subst h
     exact aV _ rfl rfl
 ·skip
  (with_reducible repeat (first | refine sA ?_ | refine sB ?_ | refine sC ?_ | refine sD ?_ | refine sE ?_ | refine sF ?_))
  (first | refine qA (fun h=>?_) fun h=>?_ | refine qB (fun h=>?_) fun h=>?_ | refine qC (fun h=>?_) fun h=>?_ | refine qD (fun h=>?_) fun h=>?_ | refine qE (fun h=>?_) fun h=>?_) -- x8.1
  ·skip
   refine c8 [] (fun _ h=>nomatch h) ?_
   refine cL (b1:=.str) _ (by repeat (first | exact mz | apply ms)) (by kernel_rfl) rfl rfl ?_
   refine cL (b1:=.int .i64) _ (by repeat (first | exact mz | apply ms)) (by kernel_rfl) rfl rfl ?_
   (with_reducible repeat (first | refine sA ?_ | refine sB ?_ | refine sC ?_ | refine sD ?_ | refine sE ?_ | refine sF ?_))
   refine dT (eX _) (fun _ h=>nomatch h) fun r11 nr11=>?_
   refine eU [r11] [nr11] rfl (by decide) (by decide) (by kernel_rfl) (fun F hF=>(.cons _ _ _ _ (hF (NodeF nr11 r11) (by repeat (first | exact mz | apply ms))) .nil)) (fun p hp=>by first | exact absurd hp List.not_mem_nil | (simp at hp; simp [hp])) fun r13=>?_
   (with_reducible repeat (first | refine sA ?_ | refine sB ?_ | refine sC ?_ | refine sD ?_ | refine sE ?_ | refine sF ?_))
   exact ay (t:=tP) _ rfl (fun F hF=>hF _ (by repeat (first | exact mz | apply ms)))
  ·skip
   (with_reducible repeat (first | refine sA ?_ | refine sB ?_ | refine sC ?_ | refine sD ?_ | refine sE ?_ | refine sF ?_))
   refine ag (DZ _) (fun _ h=>nomatch h) fun r14 b=>Sim.both (Sim.prop fun hsz=>Sim.prop fun h=>?_)
   subst h
   refine E9 ?_ fun x20=>?_
   ·refine nw (δ:=ByteArray) (fun k s=>vT k s>>=fun s=>gT R>>=fun a=>pure (bw 80 s 0 (Tok.pos r1) [a])) (fun k s vs L'=>Fact.prop (vs=[.string s]∧L'=[]∧s.size+k * 4194305≤4611686018427387904)) R.fuel r14 (fun _=>rfl) rfl
     (fun F hF=>⟨rfl,rfl,by have:=hR.fuel; omega⟩) (by rintro k s vs L' F ⟨rfl,_⟩; exact ⟨(s,()),rfl⟩) ?_
    rintro k s L' ⟨s',⟨⟩⟩
    refine Sim.prop fun ⟨hv,hL,hs⟩=>?_
    subst hL
    obtain rfl:s'=s:=by
     have:=(List.cons.inj hv).1
     cases this; rfl
    rw [show vT (k+1) s'=(do let b ← bf k_dot; cond b (do let x ← db; vT k (s'++(k_dot++x))) (pure s')) from rfl]
    (with_reducible repeat (first | refine sA ?_ | refine sB ?_ | refine sC ?_ | refine sD ?_ | refine sE ?_ | refine sF ?_))
    first | refine ag (aA _ _) (fun _ h=>nomatch h) fun r16 b=>Sim.prop fun h=>?_ | refine af (aA _ _) (fun _ h=>nomatch h) fun r16 b=>Sim.prop fun h=>?_
    subst h
    (first | refine qA (fun h=>?_) fun h=>?_ | refine qB (fun h=>?_) fun h=>?_ | refine qC (fun h=>?_) fun h=>?_ | refine qD (fun h=>?_) fun h=>?_ | refine qE (fun h=>?_) fun h=>?_) -- r16
    ·(with_reducible repeat (first | refine sA ?_ | refine sB ?_ | refine sC ?_ | refine sD ?_ | refine sE ?_ | refine sF ?_))
     refine ag (DZ _) (fun _ h=>nomatch h) fun r17 b=>Sim.both (Sim.prop fun hsz=>Sim.prop fun h=>?_)
     subst h
     refine En (by have:k_dot.size=1:=rfl; omega) ?_
     refine En (by have:k_dot.size=1:=rfl; dsimp only; rw [ByteArray.size_append]; omega) ?_
     refine ct rfl ⟨(k,s'++(k_dot++r17)),Nat.lt_succ_self k⟩ rfl fun F hF=>⟨rfl,rfl,?_⟩
     have:k_dot.size=1:=rfl
     simp only [ByteArray.size_append]; omega
    ·exact Ha s' rfl rfl
   ·skip
    refine c8 [] (fun _ h=>nomatch h) ?_
    refine cL (b1:=.int .i64) _ (by repeat (first | exact mz | apply ms)) (by kernel_rfl) rfl rfl ?_
    (with_reducible repeat (first | refine sA ?_ | refine sB ?_ | refine sC ?_ | refine sD ?_ | refine sE ?_ | refine sF ?_))
    refine dT (lC hR _) (fun _ h=>nomatch h) fun r22 nr22=>?_
    refine eU [r22] [nr22] rfl (by decide) (by decide) (by kernel_rfl) (fun F hF=>(.cons _ _ _ _ (hF (NodeF nr22 r22) (by repeat (first | exact mz | apply ms))) .nil)) (fun p hp=>by first | exact absurd hp List.not_mem_nil | (simp at hp; simp [hp])) fun r24=>?_
    (with_reducible repeat (first | refine sA ?_ | refine sB ?_ | refine sC ?_ | refine sD ?_ | refine sE ?_ | refine sF ?_))
    exact ay (t:=tP) _ rfl (fun F hF=>hF _ (by repeat (first | exact mz | apply ms)))
theorem vZ {R:aY} (hR:cm R) (pb:Nat) (word:ByteArray):Meets PG (PI pb) (aa ja #[.pointer (some (aL pb)),.string word]) tP (Bb R word) NodeF []:=by
 refine zl (aL pb) word ?_
 unfold mg Bb
 (with_reducible repeat (first | refine sA ?_ | refine sB ?_ | refine sC ?_ | refine sD ?_ | refine sE ?_ | refine sF ?_))
 first | refine ag (aZ _) (fun _ h=>nomatch h) fun r1 b=>Sim.prop fun h=>?_ | refine af (aZ _) (fun _ h=>nomatch h) fun r1 b=>Sim.prop fun h=>?_
 subst h
 (with_reducible repeat (first | refine sA ?_ | refine sB ?_ | refine sC ?_ | refine sD ?_ | refine sE ?_ | refine sF ?_))
 first | refine ag (aA _ _) (fun _ h=>nomatch h) fun r2 b=>Sim.prop fun h=>?_ | refine af (aA _ _) (fun _ h=>nomatch h) fun r2 b=>Sim.prop fun h=>?_
 subst h
 (with_reducible repeat (first | refine sA ?_ | refine sB ?_ | refine sC ?_ | refine sD ?_ | refine sE ?_ | refine sF ?_))
 (first | refine qA (fun h=>?_) fun h=>?_ | refine qB (fun h=>?_) fun h=>?_ | refine qC (fun h=>?_) fun h=>?_ | refine qD (fun h=>?_) fun h=>?_ | refine qE (fun h=>?_) fun h=>?_) -- (!r2)
 ·skip
  (with_reducible repeat (first | refine sA ?_ | refine sB ?_ | refine sC ?_ | refine sD ?_ | refine sE ?_ | refine sF ?_))
  first | refine ag (eX _) (fun _ h=>nomatch h) fun r3 nr3=>?_ | refine af (eX _) (fun _ h=>nomatch h) fun r3 nr3=>?_
  (with_reducible repeat (first | refine sA ?_ | refine sB ?_ | refine sC ?_ | refine sD ?_ | refine sE ?_ | refine sF ?_))
  exact ay (t:=tP) _ rfl (fun F hF=>hF _ (by repeat (first | exact mz | apply ms)))
 ·skip
  (with_reducible repeat (first | refine sA ?_ | refine sB ?_ | refine sC ?_ | refine sD ?_ | refine sE ?_ | refine sF ?_))
  first | refine iC (gG pb _ _ R.fuel (Nat.le_trans hR.fuel (by decide)) (MeetsO.congr (fA _ _) (A6 hR _))) (fun _ h=>nomatch h) fun r4 nr4 Kr4=>?_ | refine k7 (gG pb _ _ R.fuel (Nat.le_trans hR.fuel (by decide)) (MeetsO.congr (fA _ _) (A6 hR _))) (fun _ h=>nomatch h) fun r4 nr4 Kr4=>?_
  refine qU (by repeat (first | exact mz | apply ms)) fun Kr4=>?_
  refine c7 (by repeat (first | exact mz | apply ms)) ?_
  (with_reducible repeat (first | refine sA ?_ | refine sB ?_ | refine sC ?_ | refine sD ?_ | refine sE ?_ | refine sF ?_))
  exact ay (t:=tP) _ rfl (fun F hF=>hF _ (by repeat (first | exact mz | apply ms)))
theorem fz {R:aY} (hR:cm R) (pb:Nat):Meets PG (PI pb) (aa dS #[.pointer (some (aL pb))]) tP (jD R) NodeF []:=by
 refine tp (aL pb) ?_
 unfold iW jD
 (with_reducible repeat (first | refine sA ?_ | refine sB ?_ | refine sC ?_ | refine sD ?_ | refine sE ?_ | refine sF ?_))
 first | refine ag (aA _ _) (fun _ h=>nomatch h) fun r1 b=>Sim.prop fun h=>?_ | refine af (aA _ _) (fun _ h=>nomatch h) fun r1 b=>Sim.prop fun h=>?_
 subst h
 (with_reducible repeat (first | refine sA ?_ | refine sB ?_ | refine sC ?_ | refine sD ?_ | refine sE ?_ | refine sF ?_))
 (first | refine qA (fun h=>?_) fun h=>?_ | refine qB (fun h=>?_) fun h=>?_ | refine qC (fun h=>?_) fun h=>?_ | refine qD (fun h=>?_) fun h=>?_ | refine qE (fun h=>?_) fun h=>?_) -- r1
 ·skip
  (with_reducible repeat (first | refine sA ?_ | refine sB ?_ | refine sC ?_ | refine sD ?_ | refine sE ?_ | refine sF ?_))
  first | refine ag (hR.typed _) (fun _ h=>nomatch h) fun r2 nr2=>?_ | refine af (hR.typed _) (fun _ h=>nomatch h) fun r2 nr2=>?_
  (with_reducible repeat (first | refine sA ?_ | refine sB ?_ | refine sC ?_ | refine sD ?_ | refine sE ?_ | refine sF ?_))
  exact ay (t:=tP) _ rfl (fun F hF=>hF _ (by repeat (first | exact mz | apply ms)))
 ·skip
  (with_reducible repeat (first | refine sA ?_ | refine sB ?_ | refine sC ?_ | refine sD ?_ | refine sE ?_ | refine sF ?_))
  first | refine ag (du _) (fun _ h=>nomatch h) fun r3 nr3=>?_ | refine af (du _) (fun _ h=>nomatch h) fun r3 nr3=>?_
  (with_reducible repeat (first | refine sA ?_ | refine sB ?_ | refine sC ?_ | refine sD ?_ | refine sE ?_ | refine sF ?_))
  exact ay (t:=tP) _ rfl (fun F hF=>hF _ (by repeat (first | exact mz | apply ms)))
theorem wq {R:aY} (hR:cm R) (pb b c:Nat) (marks:Bool):Meets PG (PI pb) (aa iT #[.pointer (some (aL b)),.pointer (some (aL c))]) tP (Ca R marks) NodeF [Fact.at b (aq aE [.pointer (some (aL pb))]),Fact.at c (aq bq [.bool marks])]:=by
 refine th (aL b) (aL c) ?_
 unfold iU Ca
 refine aN (b1:=.ptr) _ (by repeat (first | exact mz | apply ms)) (by kernel_rfl) rfl rfl ?_
 (with_reducible repeat (first | refine sA ?_ | refine sB ?_ | refine sC ?_ | refine sD ?_ | refine sE ?_ | refine sF ?_))
 first | refine ag (aZ _) (fun _ h=>nomatch h) fun r2 b=>Sim.prop fun h=>?_ | refine af (aZ _) (fun _ h=>nomatch h) fun r2 b=>Sim.prop fun h=>?_
 subst h
 refine cP ?_ fun x6=>?_
 ·skip
  refine aN (b1:=.bool) _ (by repeat (first | exact mz | apply ms)) (by kernel_rfl) rfl rfl ?_
  (with_reducible repeat (first | refine sA ?_ | refine sB ?_ | refine sC ?_ | refine sD ?_ | refine sE ?_ | refine sF ?_))
  (first | refine qA (fun h=>?_) fun h=>?_ | refine qB (fun h=>?_) fun h=>?_ | refine qC (fun h=>?_) fun h=>?_ | refine qD (fun h=>?_) fun h=>?_ | refine qE (fun h=>?_) fun h=>?_) -- r3
  ·skip
   refine aN (b1:=.ptr) _ (by repeat (first | exact mz | apply ms)) (by kernel_rfl) rfl rfl ?_
   (with_reducible repeat (first | refine sA ?_ | refine sB ?_ | refine sC ?_ | refine sD ?_ | refine sE ?_ | refine sF ?_))
   first | refine ag (aA _ _) (fun _ h=>nomatch h) fun r5 b=>Sim.prop fun h=>?_ | refine af (aA _ _) (fun _ h=>nomatch h) fun r5 b=>Sim.prop fun h=>?_
   subst h
   exact aV _ rfl rfl
  ·skip
   exact aV _ rfl rfl
 ·skip
  refine iA ?_ fun x8=>?_
  ·skip
   (with_reducible repeat (first | refine sA ?_ | refine sB ?_ | refine sC ?_ | refine sD ?_ | refine sE ?_ | refine sF ?_))
   (first | refine qA (fun h=>?_) fun h=>?_ | refine qB (fun h=>?_) fun h=>?_ | refine qC (fun h=>?_) fun h=>?_ | refine qD (fun h=>?_) fun h=>?_ | refine qE (fun h=>?_) fun h=>?_) -- x6.1
   ·skip
    refine xG ?_
    exact dN _ rfl rfl
   ·skip
    exact dN _ rfl rfl
  ·skip
   refine cP ?_ fun x12=>?_
   ·skip
    refine aN (b1:=.bool) _ (by repeat (first | exact mz | apply ms)) (by kernel_rfl) rfl rfl ?_
    (with_reducible repeat (first | refine sA ?_ | refine sB ?_ | refine sC ?_ | refine sD ?_ | refine sE ?_ | refine sF ?_))
    (first | refine qA (fun h=>?_) fun h=>?_ | refine qB (fun h=>?_) fun h=>?_ | refine qC (fun h=>?_) fun h=>?_ | refine qD (fun h=>?_) fun h=>?_ | refine qE (fun h=>?_) fun h=>?_) -- r9
    ·skip
     refine aN (b1:=.ptr) _ (by repeat (first | exact mz | apply ms)) (by kernel_rfl) rfl rfl ?_
     (with_reducible repeat (first | refine sA ?_ | refine sB ?_ | refine sC ?_ | refine sD ?_ | refine sE ?_ | refine sF ?_))
     first | refine ag (aA _ _) (fun _ h=>nomatch h) fun r11 b=>Sim.prop fun h=>?_ | refine af (aA _ _) (fun _ h=>nomatch h) fun r11 b=>Sim.prop fun h=>?_
     subst h
     exact aV _ rfl rfl
    ·skip
     exact aV _ rfl rfl
   ·skip
    refine iA ?_ fun x14=>?_
    ·skip
     (with_reducible repeat (first | refine sA ?_ | refine sB ?_ | refine sC ?_ | refine sD ?_ | refine sE ?_ | refine sF ?_))
     (first | refine qA (fun h=>?_) fun h=>?_ | refine qB (fun h=>?_) fun h=>?_ | refine qC (fun h=>?_) fun h=>?_ | refine qD (fun h=>?_) fun h=>?_ | refine qE (fun h=>?_) fun h=>?_) -- x12.1
     ·skip
      refine xG ?_
      exact dN _ rfl rfl
     ·skip
      exact dN _ rfl rfl
    ·skip
     refine aN (b1:=.ptr) _ (by repeat (first | exact mz | apply ms)) (by kernel_rfl) rfl rfl ?_
     (with_reducible repeat (first | refine sA ?_ | refine sB ?_ | refine sC ?_ | refine sD ?_ | refine sE ?_ | refine sF ?_))
     first | refine ag (bU _) (fun _ h=>nomatch h) fun r16 b=>Sim.prop fun h=>?_ | refine af (bU _) (fun _ h=>nomatch h) fun r16 b=>Sim.prop fun h=>?_
     subst h
     refine aN (b1:=.ptr) _ (by repeat (first | exact mz | apply ms)) (by kernel_rfl) rfl rfl ?_
     (with_reducible repeat (first | refine sA ?_ | refine sB ?_ | refine sC ?_ | refine sD ?_ | refine sE ?_ | refine sF ?_))
     first | refine ag (aA _ _) (fun _ h=>nomatch h) fun r18 b=>Sim.prop fun h=>?_ | refine af (aA _ _) (fun _ h=>nomatch h) fun r18 b=>Sim.prop fun h=>?_
     subst h
     refine iA ?_ fun x20=>?_
     ·skip
      (with_reducible repeat (first | refine sA ?_ | refine sB ?_ | refine sC ?_ | refine sD ?_ | refine sE ?_ | refine sF ?_))
      (first | refine qA (fun h=>?_) fun h=>?_ | refine qB (fun h=>?_) fun h=>?_ | refine qC (fun h=>?_) fun h=>?_ | refine qD (fun h=>?_) fun h=>?_ | refine qE (fun h=>?_) fun h=>?_) -- r18
      ·skip
       refine xG ?_
       exact dN _ rfl rfl
      ·skip
       exact dN _ rfl rfl
     ·skip
      refine aN (b1:=.ptr) _ (by repeat (first | exact mz | apply ms)) (by kernel_rfl) rfl rfl ?_
      (with_reducible repeat (first | refine sA ?_ | refine sB ?_ | refine sC ?_ | refine sD ?_ | refine sE ?_ | refine sF ?_))
      first | refine ag (fz hR _) (fun _ h=>nomatch h) fun r22 nr22=>?_ | refine af (fz hR _) (fun _ h=>nomatch h) fun r22 nr22=>?_
      refine bP [r22] [nr22] rfl (by decide) (by decide) (by kernel_rfl) (fun F hF=>(.cons _ _ _ _ (hF (NodeF nr22 r22) (by repeat (first | exact mz | apply ms))) .nil)) fun r24=>?_
      (with_reducible repeat (first | refine sA ?_ | refine sB ?_ | refine sC ?_ | refine sD ?_ | refine sE ?_ | refine sF ?_))
      exact ay (t:=tP) _ rfl (fun F hF=>hF _ (by repeat (first | exact mz | apply ms)))
theorem fN {R:aY} (hR:cm R) (pb:Nat) (marks:Bool):Meets PG (PI pb) (aa dQ #[.pointer (some (aL pb)),.bool marks]) tP (lc R marks) NodeF []:=by
 refine ww (aL pb) marks ?_
 unfold jP lc
 refine jj fun br1=>?_
 refine jj fun br2=>?_
 refine aN (b1:=.ptr) _ (by repeat (first | exact mz | apply ms)) (by kernel_rfl) rfl rfl ?_
 (with_reducible repeat (first | refine sA ?_ | refine sB ?_ | refine sC ?_ | refine sD ?_ | refine sE ?_ | refine sF ?_))
 first | refine ag (cc _ _) (fun _ h=>nomatch h) fun r4 b=>Sim.prop fun h=>?_ | refine af (cc _ _) (fun _ h=>nomatch h) fun r4 b=>Sim.prop fun h=>?_
 subst h
 (with_reducible repeat (first | refine sA ?_ | refine sB ?_ | refine sC ?_ | refine sD ?_ | refine sE ?_ | refine sF ?_))
 (first | refine qA (fun h=>?_) fun h=>?_ | refine qB (fun h=>?_) fun h=>?_ | refine qC (fun h=>?_) fun h=>?_ | refine qD (fun h=>?_) fun h=>?_ | refine qE (fun h=>?_) fun h=>?_) -- r4
 ·skip
  refine aN (b1:=.ptr) _ (by repeat (first | exact mz | apply ms)) (by kernel_rfl) rfl rfl ?_
  (with_reducible repeat (first | refine sA ?_ | refine sB ?_ | refine sC ?_ | refine sD ?_ | refine sE ?_ | refine sF ?_))
  first | refine ag (eX _) (fun _ h=>nomatch h) fun r6 nr6=>?_ | refine af (eX _) (fun _ h=>nomatch h) fun r6 nr6=>?_
  (with_reducible repeat (first | refine sA ?_ | refine sB ?_ | refine sC ?_ | refine sD ?_ | refine sE ?_ | refine sF ?_))
  exact ay (t:=tP) _ rfl (fun F hF=>hF _ (by repeat (first | exact mz | apply ms)))
 ·skip
  refine aN (b1:=.ptr) _ (by repeat (first | exact mz | apply ms)) (by kernel_rfl) rfl rfl ?_
  (with_reducible repeat (first | refine sA ?_ | refine sB ?_ | refine sC ?_ | refine sD ?_ | refine sE ?_ | refine sF ?_))
  first | refine iC (gG pb _ _ R.fuel (Nat.le_trans hR.fuel (by decide)) (MeetsO.congr (vd _ _ _) (wq hR _ _ _ marks))) (fun A hA=>by simp only [List.mem_cons,List.not_mem_nil,or_false] at hA; rcases hA with rfl | rfl<;>exact (by repeat (first | exact mz | apply ms))) fun r8 nr8 Kr8=>?_ | refine k7 (gG pb _ _ R.fuel (Nat.le_trans hR.fuel (by decide)) (MeetsO.congr (vd _ _ _) (wq hR _ _ _ marks))) (fun A hA=>by simp only [List.mem_cons,List.not_mem_nil,or_false] at hA; rcases hA with rfl | rfl<;>exact (by repeat (first | exact mz | apply ms))) fun r8 nr8 Kr8=>?_
  refine c7 (by repeat (first | exact mz | apply ms)) ?_
  (with_reducible repeat (first | refine sA ?_ | refine sB ?_ | refine sC ?_ | refine sD ?_ | refine sE ?_ | refine sF ?_))
  exact ay (t:=tP) _ rfl (fun F hF=>hF _ (by repeat (first | exact mz | apply ms)))
theorem IB {R:aY} (hR:cm R) (pb:Nat):Meets PG (PI pb) (aa lf #[.pointer (some (aL pb))]) tP (B5 R) NodeF []:=by
 refine yp (aL pb) ?_
 unfold kq B5
 (with_reducible repeat (first | refine sA ?_ | refine sB ?_ | refine sC ?_ | refine sD ?_ | refine sE ?_ | refine sF ?_))
 first | refine ag (aZ _) (fun _ h=>nomatch h) fun r1 b=>Sim.prop fun h=>?_ | refine af (aZ _) (fun _ h=>nomatch h) fun r1 b=>Sim.prop fun h=>?_
 subst h
 (with_reducible repeat (first | refine sA ?_ | refine sB ?_ | refine sC ?_ | refine sD ?_ | refine sE ?_ | refine sF ?_))
 first | refine ag (bU _) (fun _ h=>nomatch h) fun r2 b=>Sim.prop fun h=>?_ | refine af (bU _) (fun _ h=>nomatch h) fun r2 b=>Sim.prop fun h=>?_
 subst h
 (with_reducible repeat (first | refine sA ?_ | refine sB ?_ | refine sC ?_ | refine sD ?_ | refine sE ?_ | refine sF ?_))
 first | refine ag (cc _ _) (fun _ h=>nomatch h) fun r3 b=>Sim.prop fun h=>?_ | refine af (cc _ _) (fun _ h=>nomatch h) fun r3 b=>Sim.prop fun h=>?_
 subst h
 (with_reducible repeat (first | refine sA ?_ | refine sB ?_ | refine sC ?_ | refine sD ?_ | refine sE ?_ | refine sF ?_))
 (first | refine qA (fun h=>?_) fun h=>?_ | refine qB (fun h=>?_) fun h=>?_ | refine qC (fun h=>?_) fun h=>?_ | refine qD (fun h=>?_) fun h=>?_ | refine qE (fun h=>?_) fun h=>?_) -- r3
 ·skip
  (with_reducible repeat (first | refine sA ?_ | refine sB ?_ | refine sC ?_ | refine sD ?_ | refine sE ?_ | refine sF ?_))
  first | refine ag (aZ _) (fun _ h=>nomatch h) fun r4 b=>Sim.prop fun h=>?_ | refine af (aZ _) (fun _ h=>nomatch h) fun r4 b=>Sim.prop fun h=>?_
  subst h
  (with_reducible repeat (first | refine sA ?_ | refine sB ?_ | refine sC ?_ | refine sD ?_ | refine sE ?_ | refine sF ?_))
  first | refine ag (aG _ _) (fun _ h=>nomatch h) fun x b=>?_ | refine af (aG _ _) (fun _ h=>nomatch h) fun x b=>?_
  (with_reducible repeat (first | refine sA ?_ | refine sB ?_ | refine sC ?_ | refine sD ?_ | refine sE ?_ | refine sF ?_))
  first | refine ag (fN hR _ _) (fun _ h=>nomatch h) fun r6 nr6=>?_ | refine af (fN hR _ _) (fun _ h=>nomatch h) fun r6 nr6=>?_
  (with_reducible repeat (first | refine sA ?_ | refine sB ?_ | refine sC ?_ | refine sD ?_ | refine sE ?_ | refine sF ?_))
  first | refine ag (aG _ _) (fun _ h=>nomatch h) fun x b=>?_ | refine af (aG _ _) (fun _ h=>nomatch h) fun x b=>?_
  (with_reducible repeat (first | refine sA ?_ | refine sB ?_ | refine sC ?_ | refine sD ?_ | refine sE ?_ | refine sF ?_))
  first | refine ag (aG _ _) (fun _ h=>nomatch h) fun x b=>?_ | refine af (aG _ _) (fun _ h=>nomatch h) fun x b=>?_
  (with_reducible repeat (first | refine sA ?_ | refine sB ?_ | refine sC ?_ | refine sD ?_ | refine sE ?_ | refine sF ?_))
  first | refine ag (hR.typed _) (fun _ h=>nomatch h) fun r9 nr9=>?_ | refine af (hR.typed _) (fun _ h=>nomatch h) fun r9 nr9=>?_
  refine bP [r6,r9] [nr6,nr9] rfl (by decide) (by decide) (by kernel_rfl) (fun F hF=>(.cons _ _ _ _ (hF (NodeF nr6 r6) (by repeat (first | exact mz | apply ms))) (.cons _ _ _ _ (hF (NodeF nr9 r9) (by repeat (first | exact mz | apply ms))) .nil))) fun r11=>?_
  refine bP [r11] [(bw _ _ _ _ _)] rfl (by decide) (by decide) (by kernel_rfl) (fun F hF=>(.cons _ _ _ _ (hF (NodeF (bw _ _ _ _ _) r11) (by repeat (first | exact mz | apply ms))) .nil)) fun r13=>?_
  (with_reducible repeat (first | refine sA ?_ | refine sB ?_ | refine sC ?_ | refine sD ?_ | refine sE ?_ | refine sF ?_))
  exact ay (t:=tP) _ rfl (fun F hF=>hF _ (by repeat (first | exact mz | apply ms)))
 ·skip
  (with_reducible repeat (first | refine sA ?_ | refine sB ?_ | refine sC ?_ | refine sD ?_ | refine sE ?_ | refine sF ?_))
  first | refine ag (aA _ _) (fun _ h=>nomatch h) fun r14 b=>Sim.prop fun h=>?_ | refine af (aA _ _) (fun _ h=>nomatch h) fun r14 b=>Sim.prop fun h=>?_
  subst h
  refine iA ?_ fun x15=>?_
  ·skip
   (with_reducible repeat (first | refine sA ?_ | refine sB ?_ | refine sC ?_ | refine sD ?_ | refine sE ?_ | refine sF ?_))
   (first | refine qA (fun h=>?_) fun h=>?_ | refine qB (fun h=>?_) fun h=>?_ | refine qC (fun h=>?_) fun h=>?_ | refine qD (fun h=>?_) fun h=>?_ | refine qE (fun h=>?_) fun h=>?_) -- r14
   ·skip
    exact dN _ rfl rfl
   ·skip
    exact dN _ rfl rfl
  ·skip
   (with_reducible repeat (first | refine sA ?_ | refine sB ?_ | refine sC ?_ | refine sD ?_ | refine sE ?_ | refine sF ?_))
   first | refine ag (aG _ _) (fun _ h=>nomatch h) fun x b=>?_ | refine af (aG _ _) (fun _ h=>nomatch h) fun x b=>?_
   (with_reducible repeat (first | refine sA ?_ | refine sB ?_ | refine sC ?_ | refine sD ?_ | refine sE ?_ | refine sF ?_))
   first | refine ag (hR.typed _) (fun _ h=>nomatch h) fun r17 nr17=>?_ | refine af (hR.typed _) (fun _ h=>nomatch h) fun r17 nr17=>?_
   refine bP [r17] [nr17] rfl (by decide) (by decide) (by kernel_rfl) (fun F hF=>(.cons _ _ _ _ (hF (NodeF nr17 r17) (by repeat (first | exact mz | apply ms))) .nil)) fun r19=>?_
   (with_reducible repeat (first | refine sA ?_ | refine sB ?_ | refine sC ?_ | refine sD ?_ | refine sE ?_ | refine sF ?_))
   exact ay (t:=tP) _ rfl (fun F hF=>hF _ (by repeat (first | exact mz | apply ms)))
theorem kk {R:aY} (hR:cm R) (pb:Nat):Meets PG (PI pb) (aa fm #[.pointer (some (aL pb))]) tP (lu R) NodeF []:=by
 refine q9 (aL pb) ?_
 unfold gN lu
 (with_reducible repeat (first | refine sA ?_ | refine sB ?_ | refine sC ?_ | refine sD ?_ | refine sE ?_ | refine sF ?_))
 first | refine ag (aZ _) (fun _ h=>nomatch h) fun r1 b=>Sim.prop fun h=>?_ | refine af (aZ _) (fun _ h=>nomatch h) fun r1 b=>Sim.prop fun h=>?_
 subst h
 refine gb fun r2 Kr2=>?_
 (with_reducible repeat (first | refine sA ?_ | refine sB ?_ | refine sC ?_ | refine sD ?_ | refine sE ?_ | refine sF ?_))
 first | refine ag (aG _ _) (fun _ h=>nomatch h) fun x b=>?_ | refine af (aG _ _) (fun _ h=>nomatch h) fun x b=>?_
 refine lI (fun n=>do bC k_rc; pure n) r2 [] ?_ fun n K=>?_
 ·skip
  refine gX (yc R) R.fuel _ (fun _=>rfl) rfl (by have:=hR.fuel; simp [bw,N.kids]; omega) (by repeat (first | exact mz | apply ms)) fun k n K hn=>?_
  (with_reducible repeat (first | refine sA ?_ | refine sB ?_ | refine sC ?_ | refine sD ?_ | refine sE ?_ | refine sF ?_))
  first | refine ag (cc _ _) (fun _ h=>nomatch h) fun r5 b=>Sim.prop fun h=>?_ | refine af (cc _ _) (fun _ h=>nomatch h) fun r5 b=>Sim.prop fun h=>?_
  subst h
  (with_reducible repeat (first | refine sA ?_ | refine sB ?_ | refine sC ?_ | refine sD ?_ | refine sE ?_ | refine sF ?_))
  (first | refine qA (fun h=>?_) fun h=>?_ | refine qB (fun h=>?_) fun h=>?_ | refine qC (fun h=>?_) fun h=>?_ | refine qD (fun h=>?_) fun h=>?_ | refine qE (fun h=>?_) fun h=>?_) -- (!r5)
  ·skip
   refine f9 (by repeat (first | exact mz | apply ms)) fun b sl ps K2 hx hb=>?_
   (with_reducible repeat (first | refine sA ?_ | refine sB ?_ | refine sC ?_ | refine sD ?_ | refine sE ?_ | refine sF ?_))
   refine dT (IB hR _) (fun _ h=>nomatch h) fun r8 nr8=>?_
   subst hx
   refine ga hb (by repeat (first | exact mz | apply ms)) (by repeat (first | exact mz | apply ms)) (by omega) fun K=>?_
   (with_reducible repeat (first | refine sA ?_ | refine sB ?_ | refine sC ?_ | refine sD ?_ | refine sE ?_ | refine sF ?_))
   first | refine ag (aA _ _) (fun _ h=>nomatch h) fun r13 b=>Sim.prop fun h=>?_ | refine af (aA _ _) (fun _ h=>nomatch h) fun r13 b=>Sim.prop fun h=>?_
   subst h
   (with_reducible repeat (first | refine sA ?_ | refine sB ?_ | refine sC ?_ | refine sD ?_ | refine sE ?_ | refine sF ?_))
   (first | refine qA (fun h=>?_) fun h=>?_ | refine qB (fun h=>?_) fun h=>?_ | refine qC (fun h=>?_) fun h=>?_ | refine qD (fun h=>?_) fun h=>?_ | refine qE (fun h=>?_) fun h=>?_) -- (!r13)
   ·skip
    (with_reducible repeat (first | refine sA ?_ | refine sB ?_ | refine sC ?_ | refine sD ?_ | refine sE ?_ | refine sF ?_))
    first | refine ag (aA _ _) (fun _ h=>nomatch h) fun r14 b=>Sim.prop fun h=>?_ | refine af (aA _ _) (fun _ h=>nomatch h) fun r14 b=>Sim.prop fun h=>?_
    subst h
    (with_reducible repeat (first | refine sA ?_ | refine sB ?_ | refine sC ?_ | refine sD ?_ | refine sE ?_ | refine sF ?_))
    (first | refine qA (fun h=>?_) fun h=>?_ | refine qB (fun h=>?_) fun h=>?_ | refine qC (fun h=>?_) fun h=>?_ | refine qD (fun h=>?_) fun h=>?_ | refine qE (fun h=>?_) fun h=>?_) -- (!r14)
    ·skip
     exact f8 _ rfl rfl (by repeat (first | exact mz | apply ms))
    ·skip
     refine nT _ rfl rfl (by simp [N.push_len] at hn ⊢; omega) (by repeat (first | exact mz | apply ms))
   ·skip
    refine nT _ rfl rfl (by simp [N.push_len] at hn ⊢; omega) (by repeat (first | exact mz | apply ms))
  ·skip
   exact f8 _ rfl rfl (by repeat (first | exact mz | apply ms))
 ·skip
  (with_reducible repeat (first | refine sA ?_ | refine sB ?_ | refine sC ?_ | refine sD ?_ | refine sE ?_ | refine sF ?_))
  first | refine ag (aG _ _) (fun _ h=>nomatch h) fun x b=>?_ | refine af (aG _ _) (fun _ h=>nomatch h) fun x b=>?_
  refine c7 (n:=_) (x:=r2) (by repeat (first | exact mz | apply ms)) ?_
  (with_reducible repeat (first | refine sA ?_ | refine sB ?_ | refine sC ?_ | refine sD ?_ | refine sE ?_ | refine sF ?_))
  exact ay (t:=tP) _ rfl (fun F hF=>hF _ (by repeat (first | exact mz | apply ms)))
theorem tF {R:aY} (hR:cm R) (pb:Nat):Meets PG (PI pb) (aa ij #[.pointer (some (aL pb))]) tP (qo R) NodeF []:=by
 refine rB (aL pb) ?_
 unfold iq qo
 (with_reducible repeat (first | refine sA ?_ | refine sB ?_ | refine sC ?_ | refine sD ?_ | refine sE ?_ | refine sF ?_))
 first | refine ag (aZ _) (fun _ h=>nomatch h) fun r1 b=>Sim.prop fun h=>?_ | refine af (aZ _) (fun _ h=>nomatch h) fun r1 b=>Sim.prop fun h=>?_
 subst h
 (with_reducible repeat (first | refine sA ?_ | refine sB ?_ | refine sC ?_ | refine sD ?_ | refine sE ?_ | refine sF ?_))
 first | refine ag (aG _ _) (fun _ h=>nomatch h) fun x b=>?_ | refine af (aG _ _) (fun _ h=>nomatch h) fun x b=>?_
 (with_reducible repeat (first | refine sA ?_ | refine sB ?_ | refine sC ?_ | refine sD ?_ | refine sE ?_ | refine sF ?_))
 first | refine ag (fN hR _ _) (fun _ h=>nomatch h) fun r3 nr3=>?_ | refine af (fN hR _ _) (fun _ h=>nomatch h) fun r3 nr3=>?_
 (with_reducible repeat (first | refine sA ?_ | refine sB ?_ | refine sC ?_ | refine sD ?_ | refine sE ?_ | refine sF ?_))
 first | refine ag (aG _ _) (fun _ h=>nomatch h) fun x b=>?_ | refine af (aG _ _) (fun _ h=>nomatch h) fun x b=>?_
 (with_reducible repeat (first | refine sA ?_ | refine sB ?_ | refine sC ?_ | refine sD ?_ | refine sE ?_ | refine sF ?_))
 first | refine ag (aG _ _) (fun _ h=>nomatch h) fun x b=>?_ | refine af (aG _ _) (fun _ h=>nomatch h) fun x b=>?_
 (with_reducible repeat (first | refine sA ?_ | refine sB ?_ | refine sC ?_ | refine sD ?_ | refine sE ?_ | refine sF ?_))
 first | refine ag (hR.typed _) (fun _ h=>nomatch h) fun r6 nr6=>?_ | refine af (hR.typed _) (fun _ h=>nomatch h) fun r6 nr6=>?_
 refine bP [r3,r6] [nr3,nr6] rfl (by decide) (by decide) (by kernel_rfl) (fun F hF=>(.cons _ _ _ _ (hF (NodeF nr3 r3) (by repeat (first | exact mz | apply ms))) (.cons _ _ _ _ (hF (NodeF nr6 r6) (by repeat (first | exact mz | apply ms))) .nil))) fun r8=>?_
 (with_reducible repeat (first | refine sA ?_ | refine sB ?_ | refine sC ?_ | refine sD ?_ | refine sE ?_ | refine sF ?_))
 exact ay (t:=tP) _ rfl (fun F hF=>hF _ (by repeat (first | exact mz | apply ms)))
theorem Eg {R:aY} (hR:cm R) (pb:Nat):Meets PG (PI pb) (aa kO #[.pointer (some (aL pb))]) tP (BC R) NodeF []:=by
 refine wL (aL pb) ?_
 unfold ky BC
 (with_reducible repeat (first | refine sA ?_ | refine sB ?_ | refine sC ?_ | refine sD ?_ | refine sE ?_ | refine sF ?_))
 refine ag (wx _) (fun _ h=>nomatch h) fun r1 b=>Sim.both (Sim.prop fun hnum=>Sim.prop fun h=>?_)
 subst h
 refine gd (c:=true) (z:=[.int .i64 0,.string kE,.int .i64 0,.int .i64 0]) (by kernel_rfl) (by kernel_rfl) rfl (by simp [Value.cells,Value.oneCell']) fun br2=>?_
 refine cP ?_ fun x7=>?_
 ·skip
  (with_reducible repeat (first | refine sA ?_ | refine sB ?_ | refine sC ?_ | refine sD ?_ | refine sE ?_ | refine sF ?_))
  first | refine ag (cc _ _) (fun _ h=>nomatch h) fun r4 b=>Sim.prop fun h=>?_ | refine af (cc _ _) (fun _ h=>nomatch h) fun r4 b=>Sim.prop fun h=>?_
  subst h
  (with_reducible repeat (first | refine sA ?_ | refine sB ?_ | refine sC ?_ | refine sD ?_ | refine sE ?_ | refine sF ?_))
  (first | refine qA (fun h=>?_) fun h=>?_ | refine qB (fun h=>?_) fun h=>?_ | refine qC (fun h=>?_) fun h=>?_ | refine qD (fun h=>?_) fun h=>?_ | refine qE (fun h=>?_) fun h=>?_) -- r4
  ·skip
   (with_reducible repeat (first | refine sA ?_ | refine sB ?_ | refine sC ?_ | refine sD ?_ | refine sE ?_ | refine sF ?_))
   first | refine ag (qS _) (fun _ h=>nomatch h) fun r5 b=>Sim.prop fun h=>?_ | refine af (qS _) (fun _ h=>nomatch h) fun r5 b=>Sim.prop fun h=>?_
   subst h
   refine fp (i5 _ _ _) (fun _ h=>nomatch h) ?_
   exact aV _ rfl rfl
  ·skip
   exact aV _ rfl rfl
 ·skip
  (with_reducible repeat (first | refine sA ?_ | refine sB ?_ | refine sC ?_ | refine sD ?_ | refine sE ?_ | refine sF ?_))
  (first | refine qA (fun h=>?_) fun h=>?_ | refine qB (fun h=>?_) fun h=>?_ | refine qC (fun h=>?_) fun h=>?_ | refine qD (fun h=>?_) fun h=>?_ | refine qE (fun h=>?_) fun h=>?_) -- x7.1
  ·skip
   (with_reducible repeat (first | refine sA ?_ | refine sB ?_ | refine sC ?_ | refine sD ?_ | refine sE ?_ | refine sF ?_))
   first | refine ag (tF hR _) (fun _ h=>nomatch h) fun r8 nr8=>?_ | refine af (tF hR _) (fun _ h=>nomatch h) fun r8 nr8=>?_
   (with_reducible repeat (first | refine sA ?_ | refine sB ?_ | refine sC ?_ | refine sD ?_ | refine sE ?_ | refine sF ?_))
   exact ay (t:=tP) _ rfl (fun F hF=>hF _ (by repeat (first | exact mz | apply ms)))
  ·skip
   (with_reducible repeat (first | refine sA ?_ | refine sB ?_ | refine sC ?_ | refine sD ?_ | refine sE ?_ | refine sF ?_))
   first | refine ag (aA _ _) (fun _ h=>nomatch h) fun r9 b=>Sim.prop fun h=>?_ | refine af (aA _ _) (fun _ h=>nomatch h) fun r9 b=>Sim.prop fun h=>?_
   subst h
   (with_reducible repeat (first | refine sA ?_ | refine sB ?_ | refine sC ?_ | refine sD ?_ | refine sE ?_ | refine sF ?_))
   (first | refine qA (fun h=>?_) fun h=>?_ | refine qB (fun h=>?_) fun h=>?_ | refine qC (fun h=>?_) fun h=>?_ | refine qD (fun h=>?_) fun h=>?_ | refine qE (fun h=>?_) fun h=>?_) -- r9
   ·skip
    (with_reducible repeat (first | refine sA ?_ | refine sB ?_ | refine sC ?_ | refine sD ?_ | refine sE ?_ | refine sF ?_))
    first | refine ag (hR.typed _) (fun _ h=>nomatch h) fun r10 nr10=>?_ | refine af (hR.typed _) (fun _ h=>nomatch h) fun r10 nr10=>?_
    (with_reducible repeat (first | refine sA ?_ | refine sB ?_ | refine sC ?_ | refine sD ?_ | refine sE ?_ | refine sF ?_))
    first | refine ag (aG _ _) (fun _ h=>nomatch h) fun x b=>?_ | refine af (aG _ _) (fun _ h=>nomatch h) fun x b=>?_
    (with_reducible repeat (first | refine sA ?_ | refine sB ?_ | refine sC ?_ | refine sD ?_ | refine sE ?_ | refine sF ?_))
    exact ay (t:=tP) _ rfl (fun F hF=>hF _ (by repeat (first | exact mz | apply ms)))
   ·skip
    refine aN (b1:=.int .i64) _ (by repeat (first | exact mz | apply ms)) (by kernel_rfl) rfl rfl ?_
    (with_reducible repeat (first | refine sA ?_ | refine sB ?_ | refine sC ?_ | refine sD ?_ | refine sE ?_ | refine sF ?_))
    (first | refine qA (fun h=>?_) fun h=>?_ | refine qB (fun h=>?_) fun h=>?_ | refine qC (fun h=>?_) fun h=>?_ | refine qD (fun h=>?_) fun h=>?_ | refine qE (fun h=>?_) fun h=>?_) -- ((r12:Int)==3)
    ·have hk:Tok.kind r1=3:=by simpa [Tok.kind] using h
     (with_reducible repeat (first | refine sA ?_ | refine sB ?_ | refine sC ?_ | refine sD ?_ | refine sE ?_ | refine sF ?_))
     first | refine ag (cZ _) (fun _ h=>nomatch h) fun r13 b=>Sim.prop fun h=>?_ | refine af (cZ _) (fun _ h=>nomatch h) fun r13 b=>Sim.prop fun h=>?_
     subst h
     refine c8 [] (fun _ h=>nomatch h) ?_
     refine cL (b1:=.str) _ (by repeat (first | exact mz | apply ms)) (by kernel_rfl) rfl rfl ?_
     refine cL (b1:=.int .i64) _ (by repeat (first | exact mz | apply ms)) (by kernel_rfl) rfl rfl ?_
     refine qV (hR.num _ _ (hnum.1 hk).1 (hnum.1 hk).2) (fun _ h=>nomatch h) ?_
     refine gq fun r17=>?_
     (with_reducible repeat (first | refine sA ?_ | refine sB ?_ | refine sC ?_ | refine sD ?_ | refine sE ?_ | refine sF ?_))
     exact ay (t:=tP) _ rfl (fun F hF=>hF _ (by repeat (first | exact mz | apply ms)))
    ·skip
     (with_reducible repeat (first | refine sA ?_ | refine sB ?_ | refine sC ?_ | refine sD ?_ | refine sE ?_ | refine sF ?_))
     first | refine ag (aA _ _) (fun _ h=>nomatch h) fun r18 b=>Sim.prop fun h=>?_ | refine af (aA _ _) (fun _ h=>nomatch h) fun r18 b=>Sim.prop fun h=>?_
     subst h
     (with_reducible repeat (first | refine sA ?_ | refine sB ?_ | refine sC ?_ | refine sD ?_ | refine sE ?_ | refine sF ?_))
     (first | refine qA (fun h=>?_) fun h=>?_ | refine qB (fun h=>?_) fun h=>?_ | refine qC (fun h=>?_) fun h=>?_ | refine qD (fun h=>?_) fun h=>?_ | refine qE (fun h=>?_) fun h=>?_) -- r18
     ·skip
      (with_reducible repeat (first | refine sA ?_ | refine sB ?_ | refine sC ?_ | refine sD ?_ | refine sE ?_ | refine sF ?_))
      refine IM (fun u st=>st.now=u) (wx _) (fun _ h=>nomatch h) (fun st b st' h=>by obtain ⟨h1,h2⟩:=D2 h; rw [h1,h2]) fun r19 b=>Sim.both (Sim.prop fun hnum2=>Sim.prop fun h=>?_)
      subst h
      refine fB (jS (fun st=>st.now=r19∧Tok.kind r19=3) (do let v ← d2; pure (bw 81 kE (IntKind.i64.wrap (0 - rR v.text)) (Tok.pos r1) []))) ?_ ?_
      ·refine qE (fun h=>?_) (fun h=>?_)
       ·refine Sim.unguard ?_
        rw [show (Tok.kind r19 != 3)=true from h]
        exact dV (β1:=Unit) (Rel1:=fun _ _ _=>Fact.prop True) (fS _) (fun _ h=>nomatch h) (by first | exact dW | exact ed _)
       ·refine gc rfl ?_
        rw [show (Tok.kind r19 != 3)=false from h]
        have h3:Tok.kind r19=3:=by simpa [Tok.kind] using h
        funext st
        unfold jS
        by_cases hn:st.now=r19
        ·rw [if_pos hn,if_pos ⟨hn,h3⟩]; rfl
        ·rw [if_neg hn,if_neg (fun h=>hn h.1)]
      ·skip
       refine c8 [] (fun _ h=>nomatch h) ?_
       refine cL (b1:=.int .i64) _ (by repeat (first | exact mz | apply ms)) (by kernel_rfl) rfl rfl ?_
       refine G6 (fun v=>v=r19∧Tok.kind r19=3) (cZ _) (fun _ h=>nomatch h) (fun st b st' h1 h2=>⟨by rw [G9 h2,h1.1],h1.2⟩) fun r23 b hb=>Sim.prop fun h=>?_
       subst h
       obtain ⟨rfl,hk⟩:=hb
       refine qV (hR.num _ _ (hnum2.1 hk).1 (hnum2.1 hk).2) (fun _ h=>nomatch h) ?_
       refine gq fun r25=>?_
       (with_reducible repeat (first | refine sA ?_ | refine sB ?_ | refine sC ?_ | refine sD ?_ | refine sE ?_ | refine sF ?_))
       exact ay (t:=tP) _ rfl (fun F hF=>hF _ (by repeat (first | exact mz | apply ms)))
     ·skip
      refine aN (b1:=.int .i64) _ (by repeat (first | exact mz | apply ms)) (by kernel_rfl) rfl rfl ?_
      (with_reducible repeat (first | refine sA ?_ | refine sB ?_ | refine sC ?_ | refine sD ?_ | refine sE ?_ | refine sF ?_))
      (first | refine qA (fun h=>?_) fun h=>?_ | refine qB (fun h=>?_) fun h=>?_ | refine qC (fun h=>?_) fun h=>?_ | refine qD (fun h=>?_) fun h=>?_ | refine qE (fun h=>?_) fun h=>?_) -- ((r26:Int)==4)
      ·skip
       (with_reducible repeat (first | refine sA ?_ | refine sB ?_ | refine sC ?_ | refine sD ?_ | refine sE ?_ | refine sF ?_))
       first | refine ag (cZ _) (fun _ h=>nomatch h) fun r27 b=>Sim.prop fun h=>?_ | refine af (cZ _) (fun _ h=>nomatch h) fun r27 b=>Sim.prop fun h=>?_
       subst h
       refine aN (b1:=.str) _ (by repeat (first | exact mz | apply ms)) (by kernel_rfl) rfl rfl ?_
       refine aN (b1:=.int .i64) _ (by repeat (first | exact mz | apply ms)) (by kernel_rfl) rfl rfl ?_
       refine fH fun r30=>?_
       (with_reducible repeat (first | refine sA ?_ | refine sB ?_ | refine sC ?_ | refine sD ?_ | refine sE ?_ | refine sF ?_))
       exact ay (t:=tP) _ rfl (fun F hF=>hF _ (by repeat (first | exact mz | apply ms)))
      ·skip
       (with_reducible repeat (first | refine sA ?_ | refine sB ?_ | refine sC ?_ | refine sD ?_ | refine sE ?_ | refine sF ?_))
       first | refine ag (cc _ _) (fun _ h=>nomatch h) fun r31 b=>Sim.prop fun h=>?_ | refine af (cc _ _) (fun _ h=>nomatch h) fun r31 b=>Sim.prop fun h=>?_
       subst h
       (with_reducible repeat (first | refine sA ?_ | refine sB ?_ | refine sC ?_ | refine sD ?_ | refine sE ?_ | refine sF ?_))
       (first | refine qA (fun h=>?_) fun h=>?_ | refine qB (fun h=>?_) fun h=>?_ | refine qC (fun h=>?_) fun h=>?_ | refine qD (fun h=>?_) fun h=>?_ | refine qE (fun h=>?_) fun h=>?_) -- r31
       ·skip
        (with_reducible repeat (first | refine sA ?_ | refine sB ?_ | refine sC ?_ | refine sD ?_ | refine sE ?_ | refine sF ?_))
        first | refine ag (kk hR _) (fun _ h=>nomatch h) fun r32 nr32=>?_ | refine af (kk hR _) (fun _ h=>nomatch h) fun r32 nr32=>?_
        (with_reducible repeat (first | refine sA ?_ | refine sB ?_ | refine sC ?_ | refine sD ?_ | refine sE ?_ | refine sF ?_))
        exact ay (t:=tP) _ rfl (fun F hF=>hF _ (by repeat (first | exact mz | apply ms)))
       ·skip
        (with_reducible repeat (first | refine sA ?_ | refine sB ?_ | refine sC ?_ | refine sD ?_ | refine sE ?_ | refine sF ?_))
        first | refine ag (A6 hR _) (fun _ h=>nomatch h) fun r33 nr33=>?_ | refine af (A6 hR _) (fun _ h=>nomatch h) fun r33 nr33=>?_
        (with_reducible repeat (first | refine sA ?_ | refine sB ?_ | refine sC ?_ | refine sD ?_ | refine sE ?_ | refine sF ?_))
        exact ay (t:=tP) _ rfl (fun F hF=>hF _ (by repeat (first | exact mz | apply ms)))
theorem Bq {R:aY} (hR:cm R) (pb:Nat):Meets PG (PI pb) (aa jg #[.pointer (some (aL pb))]) tP (A0 R) NodeF []:=by
 refine zQ (aL pb) ?_
 unfold mu A0
 (with_reducible repeat (first | refine sA ?_ | refine sB ?_ | refine sC ?_ | refine sD ?_ | refine sE ?_ | refine sF ?_))
 first | refine ag (aZ _) (fun _ h=>nomatch h) fun r1 b=>Sim.prop fun h=>?_ | refine af (aZ _) (fun _ h=>nomatch h) fun r1 b=>Sim.prop fun h=>?_
 subst h
 (with_reducible repeat (first | refine sA ?_ | refine sB ?_ | refine sC ?_ | refine sD ?_ | refine sE ?_ | refine sF ?_))
 first | refine ag (Eg hR _) (fun _ h=>nomatch h) fun r2 nr2=>?_ | refine af (Eg hR _) (fun _ h=>nomatch h) fun r2 nr2=>?_
 refine rY (yf (Tok.pos r1)) R.fuel _ (fun _=>rfl) rfl (by repeat (first | exact mz | apply ms)) fun k n x3=>?_
 refine cP ?_ fun x7=>?_
 ·skip
  (with_reducible repeat (first | refine sA ?_ | refine sB ?_ | refine sC ?_ | refine sD ?_ | refine sE ?_ | refine sF ?_))
  first | refine ag (cc _ _) (fun _ h=>nomatch h) fun r4 b=>Sim.prop fun h=>?_ | refine af (cc _ _) (fun _ h=>nomatch h) fun r4 b=>Sim.prop fun h=>?_
  subst h
  (with_reducible repeat (first | refine sA ?_ | refine sB ?_ | refine sC ?_ | refine sD ?_ | refine sE ?_ | refine sF ?_))
  (first | refine qA (fun h=>?_) fun h=>?_ | refine qB (fun h=>?_) fun h=>?_ | refine qC (fun h=>?_) fun h=>?_ | refine qD (fun h=>?_) fun h=>?_ | refine qE (fun h=>?_) fun h=>?_) -- r4
  ·skip
   (with_reducible repeat (first | refine sA ?_ | refine sB ?_ | refine sC ?_ | refine sD ?_ | refine sE ?_ | refine sF ?_))
   first | refine ag (eE _ _ (by decide) (by decide)) (fun _ h=>nomatch h) fun r5 b=>Sim.prop fun h=>?_ | refine af (eE _ _ (by decide) (by decide)) (fun _ h=>nomatch h) fun r5 b=>Sim.prop fun h=>?_
   subst h
   refine fp (i5 _ _ _) (fun _ h=>nomatch h) ?_
   exact aV _ rfl rfl
  ·skip
   exact aV _ rfl rfl
 ·skip
  (with_reducible repeat (first | refine sA ?_ | refine sB ?_ | refine sC ?_ | refine sD ?_ | refine sE ?_ | refine sF ?_))
  (first | refine qA (fun h=>?_) fun h=>?_ | refine qB (fun h=>?_) fun h=>?_ | refine qC (fun h=>?_) fun h=>?_ | refine qD (fun h=>?_) fun h=>?_ | refine qE (fun h=>?_) fun h=>?_) -- x7.1
  ·skip
   (with_reducible repeat (first | refine sA ?_ | refine sB ?_ | refine sC ?_ | refine sD ?_ | refine sE ?_ | refine sF ?_))
   first | refine ag (cZ _) (fun _ h=>nomatch h) fun r8 b=>Sim.prop fun h=>?_ | refine af (cZ _) (fun _ h=>nomatch h) fun r8 b=>Sim.prop fun h=>?_
   subst h
   (with_reducible repeat (first | refine sA ?_ | refine sB ?_ | refine sC ?_ | refine sD ?_ | refine sE ?_ | refine sF ?_))
   first | refine ag (cZ _) (fun _ h=>nomatch h) fun r9 b=>Sim.prop fun h=>?_ | refine af (cZ _) (fun _ h=>nomatch h) fun r9 b=>Sim.prop fun h=>?_
   subst h
   refine bP [_] [_] rfl (by decide) (by decide) (by kernel_rfl) (fun F hF=>(.cons _ _ _ _ (hF (NodeF _ _) (by repeat (first | exact mz | apply ms))) .nil)) fun r11=>?_
   refine ux _ rfl rfl (by repeat (first | exact mz | apply ms))
  ·skip
   (with_reducible repeat (first | refine sA ?_ | refine sB ?_ | refine sC ?_ | refine sD ?_ | refine sE ?_ | refine sF ?_))
   exact ay (t:=tP) _ rfl (fun F hF=>hF _ (by repeat (first | exact mz | apply ms)))
theorem IN {R:aY} (hR:cm R) (pb:Nat):Meets PG (PI pb) (aa ck #[.pointer (some (aL pb))]) tP (Cd R) NodeF []:=by
 refine xB (aL pb) ?_
 unfold ku Cd
 (with_reducible repeat (first | refine sA ?_ | refine sB ?_ | refine sC ?_ | refine sD ?_ | refine sE ?_ | refine sF ?_))
 first | refine ag (aZ _) (fun _ h=>nomatch h) fun r1 b=>Sim.prop fun h=>?_ | refine af (aZ _) (fun _ h=>nomatch h) fun r1 b=>Sim.prop fun h=>?_
 subst h
 (with_reducible repeat (first | refine sA ?_ | refine sB ?_ | refine sC ?_ | refine sD ?_ | refine sE ?_ | refine sF ?_))
 first | refine ag (aA _ _) (fun _ h=>nomatch h) fun r2 b=>Sim.prop fun h=>?_ | refine af (aA _ _) (fun _ h=>nomatch h) fun r2 b=>Sim.prop fun h=>?_
 subst h
 (with_reducible repeat (first | refine sA ?_ | refine sB ?_ | refine sC ?_ | refine sD ?_ | refine sE ?_ | refine sF ?_))
 first | refine ag (Bq hR _) (fun _ h=>nomatch h) fun r3 nr3=>?_ | refine af (Bq hR _) (fun _ h=>nomatch h) fun r3 nr3=>?_
 (with_reducible repeat (first | refine sA ?_ | refine sB ?_ | refine sC ?_ | refine sD ?_ | refine sE ?_ | refine sF ?_))
 first | refine ag (cc _ _) (fun _ h=>nomatch h) fun r4 b=>Sim.prop fun h=>?_ | refine af (cc _ _) (fun _ h=>nomatch h) fun r4 b=>Sim.prop fun h=>?_
 subst h
 (with_reducible repeat (first | refine sA ?_ | refine sB ?_ | refine sC ?_ | refine sD ?_ | refine sE ?_ | refine sF ?_))
 (first | refine qA (fun h=>?_) fun h=>?_ | refine qB (fun h=>?_) fun h=>?_ | refine qC (fun h=>?_) fun h=>?_ | refine qD (fun h=>?_) fun h=>?_ | refine qE (fun h=>?_) fun h=>?_) -- (!r4)
 ·skip
  (with_reducible repeat (first | refine sA ?_ | refine sB ?_ | refine sC ?_ | refine sD ?_ | refine sE ?_ | refine sF ?_))
  exact ay (t:=tP) _ rfl (fun F hF=>hF _ (by repeat (first | exact mz | apply ms)))
 ·skip
  refine D8 [r3] [nr3] rfl (by decide) (by decide) (by kernel_rfl) (fun F hF=>(.cons _ _ _ _ (hF (NodeF nr3 r3) (by repeat (first | exact mz | apply ms))) .nil)) fun r6 Kr6=>?_
  refine gX (BD R) R.fuel _ (fun _=>rfl) rfl (by have:=hR.fuel; simp [bw,N.kids]; omega) (by repeat (first | exact mz | apply ms)) fun k n K hn=>?_
  (with_reducible repeat (first | refine sA ?_ | refine sB ?_ | refine sC ?_ | refine sD ?_ | refine sE ?_ | refine sF ?_))
  first | refine ag (aA _ _) (fun _ h=>nomatch h) fun r8 b=>Sim.prop fun h=>?_ | refine af (aA _ _) (fun _ h=>nomatch h) fun r8 b=>Sim.prop fun h=>?_
  subst h
  (with_reducible repeat (first | refine sA ?_ | refine sB ?_ | refine sC ?_ | refine sD ?_ | refine sE ?_ | refine sF ?_))
  (first | refine qA (fun h=>?_) fun h=>?_ | refine qB (fun h=>?_) fun h=>?_ | refine qC (fun h=>?_) fun h=>?_ | refine qD (fun h=>?_) fun h=>?_ | refine qE (fun h=>?_) fun h=>?_) -- r8
  ·skip
   refine f9 (by repeat (first | exact mz | apply ms)) fun b sl ps K2 hx hb=>?_
   (with_reducible repeat (first | refine sA ?_ | refine sB ?_ | refine sC ?_ | refine sD ?_ | refine sE ?_ | refine sF ?_))
   refine dT (Bq hR _) (fun _ h=>nomatch h) fun r11 nr11=>?_
   subst hx
   refine ga hb (by repeat (first | exact mz | apply ms)) (by repeat (first | exact mz | apply ms)) (by omega) fun K=>?_
   refine nT _ rfl rfl (by simp [N.push_len] at hn ⊢; omega) (by repeat (first | exact mz | apply ms))
  ·skip
   refine c7 (n:=_) (x:=r6) (by repeat (first | exact mz | apply ms)) ?_
   (with_reducible repeat (first | refine sA ?_ | refine sB ?_ | refine sC ?_ | refine sD ?_ | refine sE ?_ | refine sF ?_))
   exact ay (t:=tP) _ rfl (fun F hF=>hF _ (by repeat (first | exact mz | apply ms)))
end Go.Proofs.YtjlgcpgjdgeejaaGreatDoor
end

section
namespace Go.Proofs.YtjlgcpgjdgeejaaGreatDoor
open Go
set_option linter.unusedSimpArgs false
set_option linter.unusedVariables false
set_option linter.constructorNameAsVariable false
def _root_.Go.Code.lft:Code→Code
 | .seq a _=>a
 | c=>c
def _root_.Go.Code.rgt:Code→Code
 | .seq _ b=>b
 | c=>c
def bH (fn:Func):Code:=fn.body.getD .skip
def jO (P:Program) (g:FuncId) (caps:Array Value) (rs:Array RV) (R:Ending→World→Prop) (u:FrameMode) (w:World):Prop :=
 CallsD P g caps u w fun e u' w'=>∃ v,e=.returned v∧match settle u' with
  | .returning=>∃ v,(cV rs).run P w'=.ok v w'∧R (.returned v) w'
  | .panicking c=>R (.panicked c) w'
  | .run=>False
theorem lZ {P:Program} {f:FuncId} {fn:Func} {args:Array Value} {w:World} (hf:P.funcs[f]? = some fn) (hb:fn.body.isNone=false) (hn:(fn.name == "runtime.NumGoroutine")=false) :
  (callFunc f args).run P w=.ok (.enter f args) w:=by
 have hn':¬ fn.name = "runtime.NumGoroutine" := by simpa using hn
 have hb':¬ fn.body=none:=by
  intro h; rw [h] at hb; cases hb
 unfold callFunc
 simp [hf,hb',hn']
theorem rF {P:Program} {fn fg:Func} {tmps:Array Value} {g:FuncId} {caps:Array Value} {rs:Array RV} {R:Ending→World→Prop} {u:FrameMode} {w:World} (hu:u≠.run)
  (hrs:results fn tmps=cV rs) (hfg:P.funcs[g]? = some fg) (hbg:fg.body.isNone=false) (hng:(fg.name == "runtime.NumGoroutine")=false) (h:jO P g caps rs R u w):Leaves P fn tmps R [{ target:=.fn (.func g) caps,args:=#[] }] u w:=by
 refine leaves_cons (f:=g) (args:=caps) hu (by simp [invoke,lZ hfg hbg hng]) (CallsD.mono h ?_)
 rintro e u' w' ⟨v,rfl,h⟩
 show Leaves P fn tmps R [] (settle u') w'
 cases hs:settle u' with
 | returning=>rw [hs] at h; obtain ⟨v,h1,h2⟩:=h; exact ⟨v,by rw [hrs]; exact h1,h2⟩
 | panicking c=>rw [hs] at h; exact h
 | run=>rw [hs] at h; exact h.elim
def E0 (slots:List Nat) (lo t:Nat):ResultVar→Bool
 | .tmp s=>slots.contains s&&Nat.blt s lo&&!Nat.beq s t
 | .cell s _=>slots.contains s&&Nat.blt s lo&&!Nat.beq s t
def Fi (slots:List Nat):Operand→Bool
 | .tmp s=>slots.contains s
 | _=>false
theorem ur {ss:List Nat} {vs:List Value} {e:Env} {b:Env}:e.gets ss=some vs→∀ s∈ss,∃ v u,b.puts ss vs s=some v∧e s=some u∧v.val=u.val:=by
 intro h s hs
 have key:∀ (ss:List Nat) (vs:List Value) (b:Env),e.gets ss=some vs→(s∈ss∨∃ v u,b s=some v∧e s=some u∧v.val=u.val)→∃ v u,b.puts ss vs s=some v∧e s=some u∧v.val=u.val:=by
  intro ss
  induction ss with
  | nil =>
   intro vs b _ h
   rcases h with h | h
   ·cases h
   ·simpa [Env.puts] using h
  | cons x ss ih =>
   intro vs b hg h
   obtain ⟨v,us,h1,h2,rfl⟩:=rX hg
   refine ih us _ h2 ?_
   by_cases hx:s=x
   ·subst hx; exact .inr ⟨.v v.val,v,ig ..,h1,rfl⟩
   ·rcases h with h | ⟨v',u',g1,g2,g3⟩
    ·rcases List.mem_cons.1 h with h | h
     ·exact absurd h hx
     ·exact .inl h
    ·exact .inr ⟨v',u',by rw [gM b _ hx]; exact g1,g2,g3⟩
 exact key ss vs b h (.inl hs)
theorem yZ {P:Program} {f:FuncId} {fn fg:Func} {c1 c2 c3:Code} {id:Nat} {o1 o2:Oper} {t:Tmp} {g:FuncId} {caps:Array Operand} {args:List Value} {w:World} {R:Ending→World→Prop} {lo:Nat}
  {slots:List Nat} {an1 an2 an3:An} {Mid:List Value→World→Prop} (hf:P.funcs[f]? = some fn) (hfg:P.funcs[g]? = some fg) (hbg:fg.body.isNone=false) (hng:(fg.name == "runtime.NumGoroutine")=false) (hb:fn.body=some (.seq c1 (.seq c2 (.seq (.region id #[o1,o2] false) c3))))
  (ho1:o1.op=.makeFunc (.func g) #[] caps) (hd1:o1.dst=some t) (hg1:o1.guard=none)
  (ho2:o2.op=.defer { callee:=.value (.tmp t),args:=#[],argTypes:=#[] }) (hd2:o2.dst=none) (hg2:o2.guard=none)
  (ht:t < fn.ntmps) (hslots:∀ s∈slots,s≠t) (hn:args.length≤fn.ntmps)
  (hres:fn.results.all (E0 slots lo t)=true) (hcaps:caps.all (Fi slots)=true)
  (h1:(den P (NN.of fn.ntmps) #[] c1 an1 1 (dG args) (fun e=>den P (NN.of fn.ntmps) #[] c2 an2 1 e (d9 0 slots) (fun _ _=>.bad)) fun _ _=>.bad).wp P (fun _=>True) (fun _ vs w'=>Mid vs w') (fun _ _=>False) w)
  (h2:∀ vs w',Mid vs w'→∀ N:NN,N.lo=lo→N.hi=fn.ntmps→N.rd=none →
   (den P N #[] c3 an3 1 (Env.puts (fun _=>none) slots vs) (fun _=>.out 0 []) fun ex _=>match ex with | .ret=>.out 0 [] | _=>.bad).wp P (fun _=>True)
    (fun _ _ w''=>jO P g (caps.map (Env.at (Env.puts (fun _=>none) slots vs))) (fn.results.map (fL (Env.puts (fun _=>none) slots vs))) R .returning w'')
    (fun en w''=>match en with
     | .panicked c=>jO P g (caps.map (Env.at (Env.puts (fun _=>none) slots vs))) (fn.results.map (fL (Env.puts (fun _=>none) slots vs))) R (.panicking c) w''
     | _=>False) w'):Calls P f args.toArray w R:=by
 refine calls_of_wp_defers hf hb ?_
 have hsz:fn.ntmps - args.length+args.length=fn.ntmps:=by omega
 refine wp_seq (Code.wp_mono (Q:=fun ex a' w'=>match ex with
  | .normal=>(Code.seq c2 (.seq (.region id #[o1,o2] false) c3)).wp P (bodyPostD P fn R) a' w'
  | _=>False) (fun ex a' w' h=>by cases ex<;>first | exact h | exact h.elim) (((ff c1).1 an1).wp rfl 1 (dG args) _ _ _ w _ _ _ h1 ?_ ?_ ?_ ?_ ?_))
 ·refine ⟨⟨rfl,fun i hi=>absurd hi (Nat.not_lt_zero i)⟩,by simp [NN.of]; omega,fun i v hv=>?_⟩
  simp only [dG,Option.map_eq_some_iff] at hv
  obtain ⟨x,hx,rfl⟩:=hv
  have hi:i < args.length:=by
   rcases Nat.lt_or_ge i args.length with h' | h'
   ·exact h'
   ·simp [List.getElem?_eq_none h'] at hx
  have hx':args[i]=x:=by simpa [List.getElem?_eq_getElem hi] using hx
  simp [Array.getD_eq_getD_getElem?,Array.getElem?_append,hi,hx',EV.val]
 ·intro Φ1 S1 e1 a1 w1 hb1 ha1 hs1 hx1
  refine wp_seq (Code.wp_mono (Q:=fun ex a' w'=>match ex with
   | .normal=>(Code.seq (.region id #[o1,o2] false) c3).wp P (bodyPostD P fn R) a' w'
   | _=>False) (fun ex a' w' h=>by cases ex<;>first | exact h | exact h.elim) (((ff c2).1 an2).wp rfl 1 e1 _ _ a1 w1 Φ1 S1 _ hx1 ha1 ?_ ?_ ?_ ?_))
  ·intro Φ2 S2 e2 a2 w2 hb2 ha2 hs2 hx2
   obtain ⟨vs,hg,ho⟩:=eP hx2
   rw [hb2 0 (Nat.lt_succ_self 0),hb1 0 (Nat.lt_succ_self 0)] at ho
   -- the closure is made and deferred
   let cv:=caps.map a2.eval
   let a3:Act:={ (a2.put (some t) (.func (.func g) #[] cv)) with defers:=[{ target:=.fn (.func g) cv,args:=#[] }] }
   have hlt2:t < a2.tmps.size:=by rw [ha2.size]; exact ht
   have hE:∀ s∈slots,∃ v,Env.puts (fun _=>none) slots vs s=some v∧a3.tmps.getD s undef=v.val∧a2.tmps.getD s undef=v.val:=by
    intro s hs
    obtain ⟨v,u,h1,h2,h3⟩:=ur (b:=fun _=>none) hg s hs
    have h4:=ha2.val s u h2
    refine ⟨v,h1,?_,by rw [h3]; exact h4⟩
    have:a3.tmps.getD s undef=a2.tmps.getD s undef:=by
     simp [a3,Act.put,Array.getD_eq_getD_getElem?,Array.getElem?_setIfInBounds_ne (Ne.symm (hslots s hs))]
    rw [this,h3]; exact h4
   have hcv:cv=caps.map (Env.at (Env.puts (fun _=>none) slots vs)):=by
    refine Array.map_congr_left fun o ho'=>?_
    have hc:=Array.all_eq_true_iff_forall_mem.1 hcaps o ho'
    cases o with
    | tmp s =>
     simp only [Fi,List.contains_iff_mem] at hc
     obtain ⟨v,h1,_,h2⟩:=hE s (by simpa using hc)
     simp [Act.eval,Env.at,Env.ev,h1,h2]
    | _=>simp [Fi] at hc
   refine wp_seq (wp_region_list ?_)
   refine wpList_plain hg1 fun K1 hK1=>?_
   have hr1:(execOp a2.eval o1).run P w2=.ok (.value (.func (.func g) #[] cv)) w2:=by
    simp [execOp,ho1,Instr.makeFunc,cv]
   unfold Oper.wp; rw [hr1,Oper.upon_value,hd1]
   refine hK1 _ _ (wpList_plain hg2 fun K2 hK2=>?_)
   have hev:(a2.put (some t) (.func (.func g) #[] cv)).eval (.tmp t)=.func (.func g) #[] cv:=by
    simp [Act.eval,Act.put,hlt2]
   have hr2:(execOp (a2.put (some t) (.func (.func g) #[] cv)).eval o2).run P w2=.ok (.defer { target:=.fn (.func g) cv,args:=#[] }) w2:=by
    simp [execOp,ho2,resolve,hev,Deferred.ofValue]
   unfold Oper.wp; rw [hr2,Oper.upon_defer,hd2]
   refine hK2 _ _ (wpList_nil ?_)
   have ha3eq:({ (a2.put (some t) (.func (.func g) #[] cv)) with defers:={ target:=.fn (.func g) cv,args:=#[] }::(a2.put (some t) (.func (.func g) #[] cv)).defers }:Act).put none undef=a3:=by
    have:a2.defers=[]:=ha2.defers.1
    simp [a3,Act.put,this]
   rw [ha3eq]
   -- the rest
   let N:NN:=⟨lo,fn.ntmps,a3.defers,fun i=>a3.tmps.getD i undef,none⟩
   have hA3:Agree N (Env.puts (fun _=>none) slots vs) a3:=by
    refine ⟨⟨rfl,fun i _=>rfl⟩,by simp [a3,Act.put,ha2.size,NN.of,N],fun i v hv=>?_⟩
    have hmem:i∈slots:=by
     have key:∀ (ss:List Nat) (vs:List Value) (b:Env),b.puts ss vs i≠none→i∈ss∨b i≠none:=by
      intro ss
      induction ss with
      | nil=>intro vs b h; exact .inr (by simpa [Env.puts] using h)
      | cons x ss ih =>
       intro vs b h
       cases vs with
       | nil=>exact .inr (by simpa [Env.puts] using h)
       | cons v vs =>
        rcases ih vs _ h with h | h
        ·exact .inl (List.mem_cons_of_mem _ h)
        ·by_cases hx:i=x
         ·exact .inl (hx▸List.mem_cons_self ..)
         ·exact .inr (by rwa [gM b _ hx] at h)
     rcases key slots vs _ (by rw [hv]; simp) with h | h
     ·exact h
     ·exact absurd rfl h
    obtain ⟨u,g1,g2,_⟩:=hE i hmem
    rw [hv] at g1; cases g1; exact g2
   have hRes:∀ a:Act,nN N a→results fn a.tmps=cV (fn.results.map (fL (Env.puts (fun _=>none) slots vs))):=by
    intro a ha
    refine jY fun r hr=>?_
    have hro:=Array.all_eq_true_iff_forall_mem.1 hres r hr
    have one:∀ s,slots.contains s=true→s < lo→(Env.puts (fun _=>none) slots vs).at (.tmp s)=a.tmps.getD s undef:=fun s hs hl=>by
     obtain ⟨u,g1,g2,_⟩:=hE s (by simpa using hs)
     have g3:a.tmps.getD s undef=a3.tmps.getD s undef:=ha.2 s hl
     rw [g3,g2]
     simp [Env.at,Env.ev,g1]
    cases r with
    | tmp s=>simp only [E0,Bool.and_eq_true] at hro; exact one s hro.1.1 (Nat.le_of_ble_eq_true hro.1.2)
    | cell s ty=>simp only [E0,Bool.and_eq_true] at hro; exact one s hro.1.1 (Nat.le_of_ble_eq_true hro.1.2)
   have hD:∀ a:Act,nN N a→a.defers=[{ target:=.fn (.func g) (caps.map (Env.at (Env.puts (fun _=>none) slots vs))),args:=#[] }]:=fun a ha=>by
    have:a.defers=a3.defers:=ha.1
    rw [this,← hcv]
   have hN1:N.lo=lo:=rfl
   refine Code.wp_mono (fun ex a w h=>?_) (((ff c3).1 an3).wp rfl 1 _ _ _ a3 w2 _ _ (fun ex a w=>match ex with
    | .panic c=>(∀ i,i < lo→a.tmps.getD i undef=N.K i)∧a.defers=N.D∧jO P g (caps.map (Env.at (Env.puts (fun _=>none) slots vs))) (fn.results.map (fL (Env.puts (fun _=>none) slots vs))) R (.panicking c) w
    | _=>bodyPostD P fn R ex a w) (h2 vs w2 ho N rfl rfl rfl) hA3 ?_ ?_ ?_ ?_)
   ·cases ex with
    | panic c =>
     obtain ⟨k1,k2,k3⟩:=h
     show Leaves P fn a.tmps R a.defers (.panicking c) w
     rw [hD a ⟨k2,k1⟩]
     exact rF (by simp) (hRes a ⟨k2,k1⟩) hfg hbg hng k3
    | _=>exact h
   ·intro Φ3 S3 e3 a4 w4 hb3 ha4 hs3 hx3
    simp only [T.wp] at hx3
    rw [hb3 0 (Nat.lt_succ_self 0)] at hx3
    show Leaves P fn a4.tmps R a4.defers .returning w4
    rw [hD a4 ha4.defers]
    exact rF (by simp) (hRes a4 ha4.defers) hfg hbg hng hx3
   ·intro Φ3 S3 ex e3 a4 w4 hne hb3 ha4 hs3 hx3
    cases ex with
    | ret =>
     simp only [T.wp] at hx3
     rw [hb3 0 (Nat.lt_succ_self 0)] at hx3
     show Leaves P fn a4.tmps R a4.defers .returning w4
     rw [hD a4 ha4.defers]
     exact rF (by simp) (hRes a4 ha4.defers) hfg hbg hng hx3
    | normal=>exact absurd rfl hne
    | _=>simp only [T.wp] at hx3
   ·intro c a4 w4 hk hx3
    exact ⟨hk.2,hk.1,hx3⟩
   ·rintro c a d v w' hd ⟨k1,k2,k3⟩
    cases d with
    | none=>exact ⟨k1,k2,k3⟩
    | some d =>
     refine ⟨fun i hi=>?_,k2,k3⟩
     rw [← k1 i hi]
     have hl:lo≤d:=hd d rfl
     have hne:d≠i:=by omega
     simp [Act.put,Array.getD_eq_getD_getElem?,Array.getElem?_setIfInBounds_ne hne]
  ·intro Φ2 S2 ex e2 a2 w2 hne hb2 ha2 hs2 hx2
   simp only [T.wp] at hx2
  ·intro c a w' _ h; exact h.elim
  ·intro c a d v w' hd h; exact h
 ·intro Φ2 S2 ex e2 a2 w2 hne hb2 ha2 hs2 hx2
  simp only [T.wp] at hx2
 ·intro c a w' _ h; exact h.elim
 ·intro c a d v w' hd h; exact h
theorem yO {P:Program} {g:FuncId} {fn:Func} {id:Nat} {o:Oper} {t:Tmp} {c:Code} {caps:List Value} {w:World} {u u':FrameMode} {v:Value} {an:An} {Post:World→Prop}
  (hf:P.funcs[g]? = some fn) (hb:fn.body=some (.seq (.region id #[o] false) c)) (ho:o.op=.call { callee:=.builtin .recover,args:=#[],argTypes:=#[] }) (hd:o.dst=some t) (hg:o.guard=none)
  (hr:fn.results=#[]) (ht:t < fn.ntmps) (hn:caps.length≤fn.ntmps)
  (hm:(u=.returning∧v=.nilIface∧u'=.returning)∨∃ older,u=.panicking ({ v:=v,recovered:=false }::older)∧u'=.panicking ({ v:=v,recovered:=true }::older))
  (h:(den P (NN.of fn.ntmps) #[] c an 1 ((dG caps).putE t (.v v)) (fun _=>.out 0 []) fun ex _=>match ex with | .ret=>.out 0 [] | _=>.bad).wp P (fun _=>True) (fun _ _ w'=>Post w') (fun _ _=>False) w) :
  CallsD P g caps.toArray u w fun e u2 w'=>e=.returned (.tuple #[])∧u2=u'∧Post w':=by
 refine callsD_of_wpS hf hb fun c₀ cs hu=>?_
 apply wpS_seq
 apply wpS_region
 have hrun:∀ (ρ:Operand→Value) (w:World),(execOp ρ o).run P w=.ok .recover w:=fun ρ w=>by simp [execOp,ho,resolve,invoke,builtin]
 have hwant:Region.wanted o (yielded #[o] (caps.toArray++Array.replicate (fn.ntmps - caps.toArray.size) undef))=true:=by simp [Region.wanted,hg]
 let a0:Act:={ tmps:=caps.toArray++Array.replicate (fn.ntmps - caps.toArray.size) undef,defers:=[] }
 have hA0:Agree (NN.of fn.ntmps) (dG caps) a0:=by
  have hsz:fn.ntmps - caps.length+caps.length=fn.ntmps:=by omega
  refine ⟨⟨rfl,fun i hi=>absurd hi (Nat.not_lt_zero i)⟩,by simp [a0,NN.of]; omega,fun i v hv=>?_⟩
  simp only [dG,Option.map_eq_some_iff] at hv
  obtain ⟨x,hx,rfl⟩:=hv
  have hi:i < caps.length:=by
   rcases Nat.lt_or_ge i caps.length with h' | h'
   ·exact h'
   ·simp [List.getElem?_eq_none h'] at hx
  have hx':caps[i]=x:=by simpa [List.getElem?_eq_getElem hi] using hx
  simp [a0,Array.getD_eq_getD_getElem?,Array.getElem?_append,hi,hx',EV.val]
 have hA1:=hA0.putE (d:=t) ht (Nat.zero_le _) (.v v)
 have main:∀ c1:Frame,c1={ c₀ with mode:=u' }→c.wpS P (bodyPostS P fn c₀ cs fun e u2 w'=>e=.returned (.tuple #[])∧u2=u'∧Post w') (a0.put (some t) v) (c1::cs) w:=by
  rintro c1 rfl
  refine wpS_of_wp (Code.wp_mono (fun ex a w' hq=>?_) (((ff c).1 an).wp rfl 1 _ _ _ _ w _ _ (fun ex a w'=>match ex with
   | .normal | .ret=>a.defers=[]∧Post w'
   | _=>False) h hA1 ?_ ?_ ?_ ?_))
  ·cases ex with
   | normal=>exact ⟨hq.1,u',rfl,.tuple #[],by simp [results,hr],rfl,rfl,hq.2⟩
   | ret=>exact ⟨hq.1,u',rfl,.tuple #[],by simp [results,hr],rfl,rfl,hq.2⟩
   | _=>exact hq.elim
  ·intro Φ' S' e' a' w' hb' ha' hs' hx
   simp only [T.wp] at hx
   rw [hb' 0 (Nat.lt_succ_self 0)] at hx
   exact ⟨ha'.defers.1,hx⟩
  ·intro Φ' S' ex e' a' w' hne hb' ha' hs' hx
   cases ex with
   | ret =>
    simp only [T.wp] at hx
    rw [hb' 0 (Nat.lt_succ_self 0)] at hx
    exact ⟨ha'.defers.1,hx⟩
   | normal=>exact absurd rfl hne
   | _=>simp only [T.wp] at hx
  ·intro c a w' _ h; exact h.elim
  ·intro c a d v w' _ h; exact h
 rcases hm with ⟨rfl,rfl,rfl⟩ | ⟨older,rfl,rfl⟩
 ·have hrec:recoverD (c₀::cs)=none:=by simp [recoverD,hu]
  show wpOpsS P #[o] _ [0] a0 (c₀::cs) w
  simp only [wpOpsS,List.getElem?_toArray,List.getElem?_cons_zero,hrun,hrec]
  rw [if_pos hwant,hd]
  exact main c₀ (by cases c₀; simp_all)
 ·have hrec:recoverD (c₀::cs)=some (v,{ c₀ with mode:=.panicking ({ v,recovered:=true }::older) }::cs):=by simp [recoverD,hu]
  show wpOpsS P #[o] _ [0] a0 (c₀::cs) w
  simp only [wpOpsS,List.getElem?_toArray,List.getElem?_cons_zero,hrun,hrec]
  rw [if_pos hwant,hd]
  exact main _ rfl
end Go.Proofs.YtjlgcpgjdgeejaaGreatDoor
end

section
namespace Go.Proofs.YtjlgcpgjdgeejaaGreatDoor
open Go
set_option linter.unusedVariables false
set_option maxRecDepth 100000
noncomputable section
def mP:An :=
 .b (.s (.r [some tB]) (.c (.r [none]) (.s (.r [some (.tup [.agg [.int .i64],.b .bool]),none,none]) (.c (.s (.r [some tA,some tU]) (.r [some tU])) (.s (.r [none]) (.r [none,some tU]))))))
def gp (a0:Addr) (v:Value):T :=
 .op (sJ .eql gJ v .nilIface) tB fun r1 =>
 .ite r1 (
 .out 0 []) (
 .op (Ib v gJ bG true) (.tup [.agg [.int .i64],.b .bool]) fun r2 =>
 .ite r2.2.1 (
 .op (bj bG) tA fun r3 =>
 .op (aW bG (.pointer (some r3)) (.agg #[.int .i64 r2.1.1])) tU fun _ =>
 .op (aW bq (.pointer (some a0)) (.bool false)) tU fun _ =>
 .out 0 []) (
 .op (rl v) tU fun _ =>
 .out 0 []))
theorem uw (a0:Addr) (v:Value):den Tryz.prog (NN.of 10) #[] (bH Tryz.f266).rgt mP 1 ((dG [.pointer (some a0)]).putE 4 (.v v)) (fun _=>.out 0 []) (fun ex _=>match ex with | .ret=>.out 0 [] | _=>.bad)=gp a0 v:=by kernel_rfl
theorem mQ (a0:Addr) {w:World} {u u':FrameMode} {v:Value} {Post:World→Prop} (hm:(u=.returning∧v=.nilIface∧u'=.returning)∨∃ older,u=.panicking ({ v:=v,recovered:=false }::older)∧u'=.panicking ({ v:=v,recovered:=true }::older))
  (h:(gp a0 v).wp Tryz.prog (fun _=>True) (fun _ _ w'=>Post w') (fun _ _=>False) w):CallsD Tryz.prog 266 #[.pointer (some a0)] u w fun e u2 w'=>e=.returned (.tuple #[])∧u2=u'∧Post w':=by
 refine yO (caps:=[.pointer (some a0)]) (c:=(bH Tryz.f266).rgt) (t:=4) (an:=mP) Tryz.func266 rfl rfl rfl rfl rfl (Nat.le_of_ble_eq_true rfl) (Nat.le_of_ble_eq_true rfl) hm ?_
 have e:=uw a0 v
 exact e▸h
def nD:An :=
 .r [some tA]
def nx:An :=
 .r [none,none,some (.c (.agg [.slice,.int .i64,.int .i64,.str,.int .i64,.int .i64,.bool])),some tA,some tU]
def nW:An :=
 .s (.r [some tP]) (.s (.r [some tB,some tU]) (.x))
def j9 (a0_p:Addr):T :=
 .op (bj bq) tA fun r1 =>
 .op (ai ch (.pointer (some a0_p))) (.c (.agg [.slice,.int .i64,.int .i64,.str,.int .i64,.int .i64,.bool])) fun r2 =>
 .op (bj ch) tA fun r3 =>
 .op (aW ch (.pointer (some r3)) (.agg #[.slice r2.1.1 r2.1.2.1 r2.1.2.2,.int .i64 r2.2.1,.int .i64 r2.2.2.1,.string r2.2.2.2.1,.int .i64 r2.2.2.2.2.1,.int .i64 r2.2.2.2.2.2.1,.bool r2.2.2.2.2.2.2.1])) tU fun _ =>
 .out 0 [.pointer (some r1),.pointer (some r3)]
def jN (s2:Addr) (s3:Addr):T :=
 .op (aa eu #[.pointer (some s3)]) tP fun r5 =>
 .op (aa bg #[.pointer (some s3),.string k_lp]) tB fun r6 =>
 .op (aW bq (.pointer (some s2)) (.bool r6)) tU fun _ =>
 .out 0 []
theorem vy (a0_p:Addr):den Tryz.prog (NN.of 10) #[] (bH Tryz.f258).lft nD 1 (dG [.pointer (some a0_p)]) (fun e=>den Tryz.prog (NN.of 10) #[] (bH Tryz.f258).rgt.lft nx 1 e (d9 0 [2,3]) (fun _ _=>.bad)) (fun _ _=>.bad)=j9 a0_p:=by kernel_rfl
theorem uJ (s2:Addr) (s3:Addr) (D:List Deferred) (K:Nat→Value):den Tryz.prog ⟨3,10,D,K,none⟩ #[] (bH Tryz.f258).rgt.rgt.rgt nW 1 (Env.puts (fun _=>none) [2,3] [.pointer (some s2),.pointer (some s3)]) (fun _=>.out 0 []) (fun ex _=>match ex with | .ret=>.out 0 [] | _=>.bad)=jN s2 s3:=by kernel_rfl
theorem u3 (a0_p:Addr) {w:World} {R:Ending→World→Prop} {Mid:List Value→World→Prop} (hsh:∀ vs w',Mid vs w'→∃ (s2:Addr) (s3:Addr),vs=[.pointer (some s2),.pointer (some s3)])
  (h1:(j9 a0_p).wp Tryz.prog (fun _=>True) (fun _ vs w'=>Mid vs w') (fun _ _=>False) w)
  (h2:∀ (s2:Addr) (s3:Addr) w',Mid [.pointer (some s2),.pointer (some s3)] w'→(jN s2 s3).wp Tryz.prog (fun _=>True) (fun _ _ w''=>jO Tryz.prog 266 #[.pointer (some s2)] #[.c (.pointer (some s2)) bq] R .returning w'') (fun en w''=>match en with | .panicked c=>jO Tryz.prog 266 #[.pointer (some s2)] #[.c (.pointer (some s2)) bq] R (.panicking c) w'' | _=>False) w') :
  Calls Tryz.prog k9 #[.pointer (some a0_p)] w R:=by
 refine yZ (args:=[.pointer (some a0_p)]) (c1:=(bH Tryz.f258).lft) (c2:=(bH Tryz.f258).rgt.lft) (c3:=(bH Tryz.f258).rgt.rgt.rgt) (lo:=3) (slots:=[2,3]) (t:=7) (an1:=nD) (an2:=nx) (an3:=nW) (Mid:=Mid) Tryz.func258 Tryz.func266 rfl rfl rfl rfl rfl rfl rfl rfl rfl (Nat.le_of_ble_eq_true rfl) (by decide) (Nat.le_of_ble_eq_true rfl) (by kernel_rfl) (by kernel_rfl) ?_ ?_
 ·have e:=vy a0_p
  exact e▸h1
 ·rintro vs w' hM ⟨lo,hi,D,K,rd⟩ hlo hhi hrd
  obtain ⟨s2,s3,rfl⟩:=hsh vs w' hM
  obtain rfl:lo=3:=hlo
  obtain rfl:hi=10:=hhi
  obtain rfl:rd=none:=hrd
  have e:=uJ s2 s3 D K
  have ec:Array.map (Env.at (Env.puts (fun _=>none) [2,3] [.pointer (some s2),.pointer (some s3)])) #[Operand.tmp 2]=#[.pointer (some s2)]:=by kernel_rfl
  have er:Array.map (fL (Env.puts (fun _=>none) [2,3] [.pointer (some s2),.pointer (some s3)])) Tryz.f258.results=#[.c (.pointer (some s2)) bq]:=by kernel_rfl
  rw [ec,er]
  exact e▸h2 s2 s3 w' hM
def oc:An :=
 .b (.s (.r [some tB]) (.c (.r [none]) (.s (.r [some (.tup [.agg [.int .i64],.b .bool]),none,none]) (.c (.s (.r [some tA,some tU]) (.d (.q 0 none (.q 1 none (.q 2 (some tI) (.l 3 (some tU) (.l 4 (some tU) (.l 5 (some tU) (.e))))))))) (.s (.r [none]) (.r [none,some tU]))))))
def iM (a0:Addr) (a1:Addr) (a2:Addr) (v:Value):T :=
 .op (sJ .eql gJ v .nilIface) tB fun r1 =>
 .ite r1 (
 .out 0 []) (
 .op (Ib v gJ bG true) (.tup [.agg [.int .i64],.b .bool]) fun r2 =>
 .ite r2.2.1 (
 .op (bj bG) tA fun r3 =>
 .op (aW bG (.pointer (some r3)) (.agg #[.int .i64 r2.1.1])) tU fun _ =>
 .draw <|
 .opq (ai ak (.pointer (some r3))) tI fun r5 =>
 .opl (aW ap (.pointer (some a0)) (.agg #[.slice none 0 0])) tU fun _ =>
 .op (aW ak (.pointer (some a1)) (.int .i64 r5)) tU fun _ =>
 .op (aW bq (.pointer (some a2)) (.bool false)) tU fun _ =>
 .out 0 []) (
 .op (rl v) tU fun _ =>
 .out 0 []))
theorem wT (a0:Addr) (a1:Addr) (a2:Addr) (v:Value):den Tryz.prog (NN.of 15) #[] (bH Tryz.f83).rgt oc 1 ((dG [.pointer (some a0),.pointer (some a1),.pointer (some a2)]).putE 6 (.v v)) (fun _=>.out 0 []) (fun ex _=>match ex with | .ret=>.out 0 [] | _=>.bad)=iM a0 a1 a2 v:=by kernel_rfl
theorem oo (a0:Addr) (a1:Addr) (a2:Addr) {w:World} {u u':FrameMode} {v:Value} {Post:World→Prop} (hm:(u=.returning∧v=.nilIface∧u'=.returning)∨∃ older,u=.panicking ({ v:=v,recovered:=false }::older)∧u'=.panicking ({ v:=v,recovered:=true }::older))
  (h:(iM a0 a1 a2 v).wp Tryz.prog (fun _=>True) (fun _ _ w'=>Post w') (fun _ _=>False) w):CallsD Tryz.prog 83 #[.pointer (some a0),.pointer (some a1),.pointer (some a2)] u w fun e u2 w'=>e=.returned (.tuple #[])∧u2=u'∧Post w':=by
 refine yO (caps:=[.pointer (some a0),.pointer (some a1),.pointer (some a2)]) (c:=(bH Tryz.f83).rgt) (t:=6) (an:=oc) Tryz.func83 rfl rfl rfl rfl rfl (Nat.le_of_ble_eq_true rfl) (Nat.le_of_ble_eq_true rfl) hm ?_
 have e:=wT a0 a1 a2 v
 exact e▸h
def pi:An :=
 .r [some tA,some tA,some tA]
def p8:An :=
 .r [none,none,some tA,none]
def ph:An :=
 .s (.r [none]) (.s (.s (.r [none]) (.j [(8,.b .ptr)] (.b (.s (.r [none,none]) (.c (.s (.r [some tP,none]) (.b (.l [] (.s (.s (.r [none,some (.c (.agg [.int .i64,.str,.int .i64,.int .i64])),none,none]) (.c (.x) (.x))) (.b (.d (.q 0 none (.q 1 none (.q 2 (some tA) (.q 3 none (.q 4 (some ah) (.q 5 none (.l 6 (some tP) (.l 7 (some ah) (.l 8 (some ah) (.q 9 (some tA) (.q 10 none (.l 11 (some tU) (.e))))))))))))))))))) (.s (.r [none,none]) (.c (.r [none,some tP,none]) (.s (.r [none,none]) (.c (.r [none,some tP,none]) (.x)))))))))) (.s (.s (.r [none,some (.c (.agg [.int .i64,.str,.int .i64,.int .i64])),none,none]) (.j [] (.c (.r [none,some tU]) (.x)))) (.s (.r [none,some (.c (.agg [.slice])),some tU,some tU,some tU]) (.x))))
def mH (a0_l:Option Addr × Nat × Nat) (a1_whole:Int):T :=
 .op (bj ap) tA fun r1 =>
 .op (bj ak) tA fun r2 =>
 .op (bj bq) tA fun r3 =>
 .op (cJ ch (.agg #[.slice a0_l.1 a0_l.2.1 a0_l.2.2,.int .i64 0,.int .i64 0,.string kE,.int .i64 0,.int .i64 0,.bool false])) tA fun r4 =>
 .out 0 [.int .i64 a1_whole,.pointer (some r1),.pointer (some r2),.pointer (some r3),.pointer (some r4)]
def l6 (s1:Int) (s4:Addr) (s5:Addr) (s6:Addr) (s7:Option Addr):T :=
 .join 1 [.b .ptr] (
  .ite ((s1:Int)==0) (
   .op (aa am #[.int .i64 3,.string kE,.int .i64 0,.int .i64 0,.slice none 0 0]) tP fun r5 =>
   .loop 2 [] [] fun x6 =>
    .op (aa aH #[.pointer s7]) (.c (.agg [.int .i64,.str,.int .i64,.int .i64])) fun r7 =>
    .ite ((r7.1:Int) != 10) (
     .draw <|
     .opq (bV (.pointer r5)) tA fun r8 =>
     .opq (ai ad (.pointer (some ⟨r8.block,r8.off+5,none⟩))) ah fun r9 =>
     .opl (aa di #[.pointer s7]) tP fun r10 =>
     .opl (ar ad 1 #[(0,.pointer r10)]) ah fun r11 =>
     .opl (dg #[ad,ad] ad #[.slice r9.1 r9.2.1 r9.2.2,.slice r11.1 r11.2.1 r11.2.2]) ah fun r12 =>
     .opq (bV (.pointer r5)) tA fun r13 =>
     .op (aW ad (.pointer (some ⟨r13.block,r13.off+5,none⟩)) (.slice r12.1 r12.2.1 r12.2.2)) tU fun _ =>
     .out 2 []) (
     .out 1 [.pointer r5])) (
   .ite ((s1:Int)==1) (
    .op (aa bL #[.pointer s7]) tP fun r15 =>
    .out 1 [.pointer r15]) (
    .ite ((s1:Int)==2) (
     .op (aa ck #[.pointer s7]) tP fun r16 =>
     .out 1 [.pointer r16]) (
     .out 1 [.pointer none])))) fun x17 =>
 .op (aa aH #[.pointer s7]) (.c (.agg [.int .i64,.str,.int .i64,.int .i64])) fun r18 =>
 .join 1 [] (
  .ite ((r18.1:Int) != 10) (
   .op (aa cy #[.pointer s7]) tU fun _ =>
   .out 1 []) (
   .out 1 [])) fun x20 =>
 .op (aa mJ #[.pointer x17.1]) (.c (.agg [.slice])) fun r21 =>
 .op (aW ap (.pointer (some s4)) (.agg #[.slice r21.1.1 r21.1.2.1 r21.1.2.2])) tU fun _ =>
 .op (aW ak (.pointer (some s5)) (.int .i64 0)) tU fun _ =>
 .op (aW bq (.pointer (some s6)) (.bool true)) tU fun _ =>
 .out 0 []
theorem zH (a0_l:Option Addr × Nat × Nat) (a1_whole:Int):den Tryz.prog (NN.of 48) #[] (bH Tryz.f53).lft pi 1 (dG [.slice a0_l.1 a0_l.2.1 a0_l.2.2,.int .i64 a1_whole]) (fun e=>den Tryz.prog (NN.of 48) #[] (bH Tryz.f53).rgt.lft p8 1 e (d9 0 [1,4,5,6,7]) (fun _ _=>.bad)) (fun _ _=>.bad)=mH a0_l a1_whole:=by kernel_rfl
theorem Ae (s1:Int) (s4:Addr) (s5:Addr) (s6:Addr) (s7:Option Addr) (D:List Deferred) (K:Nat→Value):den Tryz.prog ⟨7,48,D,K,none⟩ #[] (bH Tryz.f53).rgt.rgt.rgt ph 1 (Env.puts (fun _=>none) [1,4,5,6,7] [.int .i64 s1,.pointer (some s4),.pointer (some s5),.pointer (some s6),.pointer s7]) (fun _=>.out 0 []) (fun ex _=>match ex with | .ret=>.out 0 [] | _=>.bad)=l6 s1 s4 s5 s6 s7:=by kernel_rfl
theorem Ay (a0_l:Option Addr × Nat × Nat) (a1_whole:Int) {w:World} {R:Ending→World→Prop} {Mid:List Value→World→Prop} (hsh:∀ vs w',Mid vs w'→∃ (s1:Int) (s4:Addr) (s5:Addr) (s6:Addr) (s7:Option Addr),vs=[.int .i64 s1,.pointer (some s4),.pointer (some s5),.pointer (some s6),.pointer s7])
  (h1:(mH a0_l a1_whole).wp Tryz.prog (fun _=>True) (fun _ vs w'=>Mid vs w') (fun _ _=>False) w)
  (h2:∀ (s1:Int) (s4:Addr) (s5:Addr) (s6:Addr) (s7:Option Addr) w',Mid [.int .i64 s1,.pointer (some s4),.pointer (some s5),.pointer (some s6),.pointer s7] w'→(l6 s1 s4 s5 s6 s7).wp Tryz.prog (fun _=>True) (fun _ _ w''=>jO Tryz.prog 83 #[.pointer (some s4),.pointer (some s5),.pointer (some s6)] #[.c (.pointer (some s4)) ap,.c (.pointer (some s5)) ak,.c (.pointer (some s6)) bq] R .returning w'') (fun en w''=>match en with | .panicked c=>jO Tryz.prog 83 #[.pointer (some s4),.pointer (some s5),.pointer (some s6)] #[.c (.pointer (some s4)) ap,.c (.pointer (some s5)) ak,.c (.pointer (some s6)) bq] R (.panicking c) w'' | _=>False) w') :
  Calls Tryz.prog nY #[.slice a0_l.1 a0_l.2.1 a0_l.2.2,.int .i64 a1_whole] w R:=by
 refine yZ (args:=[.slice a0_l.1 a0_l.2.1 a0_l.2.2,.int .i64 a1_whole]) (c1:=(bH Tryz.f53).lft) (c2:=(bH Tryz.f53).rgt.lft) (c3:=(bH Tryz.f53).rgt.rgt.rgt) (lo:=7) (slots:=[1,4,5,6,7]) (t:=12) (an1:=pi) (an2:=p8) (an3:=ph) (Mid:=Mid) Tryz.func53 Tryz.func83 rfl rfl rfl rfl rfl rfl rfl rfl rfl (Nat.le_of_ble_eq_true rfl) (by decide) (Nat.le_of_ble_eq_true rfl) (by kernel_rfl) (by kernel_rfl) ?_ ?_
 ·have e:=zH a0_l a1_whole
  exact e▸h1
 ·rintro vs w' hM ⟨lo,hi,D,K,rd⟩ hlo hhi hrd
  obtain ⟨s1,s4,s5,s6,s7,rfl⟩:=hsh vs w' hM
  obtain rfl:lo=7:=hlo
  obtain rfl:hi=48:=hhi
  obtain rfl:rd=none:=hrd
  have e:=Ae s1 s4 s5 s6 s7 D K
  have ec:Array.map (Env.at (Env.puts (fun _=>none) [1,4,5,6,7] [.int .i64 s1,.pointer (some s4),.pointer (some s5),.pointer (some s6),.pointer s7])) #[Operand.tmp 4,Operand.tmp 5,Operand.tmp 6]=#[.pointer (some s4),.pointer (some s5),.pointer (some s6)]:=by kernel_rfl
  have er:Array.map (fL (Env.puts (fun _=>none) [1,4,5,6,7] [.int .i64 s1,.pointer (some s4),.pointer (some s5),.pointer (some s6),.pointer s7])) Tryz.f53.results=#[.c (.pointer (some s4)) ap,.c (.pointer (some s5)) ak,.c (.pointer (some s6)) bq]:=by kernel_rfl
  rw [ec,er]
  exact e▸h2 s1 s4 s5 s6 s7 w' hM
end
end Go.Proofs.YtjlgcpgjdgeejaaGreatDoor
end

section
namespace Go.Proofs.YtjlgcpgjdgeejaaGreatDoor
open Go
set_option linter.unusedSimpArgs false
set_option linter.unusedVariables false
set_option linter.constructorNameAsVariable false
set_option maxRecDepth 100000
def Fa (J:List Value→al→Fact):Label Unit Unit Empty:={ ι:=Unit,sp:=fun _ _=>some (.err ()),J:=fun _ vs L'=>J vs L' }
abbrev Ie (P:Program) (J:List Value→al→Fact) (q:Option Quiet) (m:T) (L:al) (Γ:List Fact):Prop :=
 SimAt P (I0:av Unit Unit) tU (fun (b:Empty) _ _=>b.elim) ((noLabel:Labels Unit Unit Empty).set 0 (Fa J)) q m (some (.err ())) L Γ
theorem e7 {P:Program} {m:T} {J:List Value→al→Fact} {L:al} {Γ:List Fact} {r:eZ} {w:World} {F:Heap} {Post:List Value→World→Prop} (h:Ie P J none m L Γ) (hΓ:Holds Γ F) (hsp:Split r w L F)
  (hP:∀ vs L' F' w',F.le F'→(J vs L').p F'→Split r w' L' F'→Post vs w'):m.wp P (fun _=>True) (fun _ vs w'=>Post vs w') (fun _ _=>False) w:=by
 refine T.wp_mono m ?_ ?_ (h r w F (.err ()) (fun _=>True) rfl hΓ hsp trivial)
 ·intro l vs w' ho
  by_cases hl:l=0
  ·subst hl
   obtain ⟨i,L',F',H',st',h1,h2,h3,h4,h5⟩:=ho
   have hH:H'=[]:=h4
   subst hH
   exact hP vs L' F' w' h1 h3 h5
  ·simp only [Labels.set,if_neg hl,noLabel] at ho
   obtain ⟨i,_⟩:=ho
   exact i.elim
 ·rintro e w' ⟨F',hle,c,hc,he,hS⟩
  exact he
theorem DY {ε σ β:Type} {P:Program} {I:av ε σ} {t:Ty} {Rel:β→t.den→al→Fact} {Δ:Labels ε σ β} {q:Option Quiet} {L L':al} {Γ:List Fact} {m:T} {run:Option (Res ε σ β)} (hs:L'.Sublist L) (h:SimAt P I t Rel Δ none m run L' Γ):SimAt P I t Rel Δ q m run L Γ :=
 fun r w F res S hs' hF hsp hq=>h r w F res S hs' hF (hsp.sub hs) trivial
theorem hZ {P:Program} {J:List Value→al→Fact} {q:Option Quiet} {vs:List Value} {L:al} {Γ:List Fact} (h:∀ F,Holds Γ F→(J vs L).p F):Ie P J q (.out 0 vs) L Γ:=by
 have:=rU (P:=P) (I:=(I0:av Unit Unit)) (t:=tU) (Rel:=fun (b:Empty) _ _=>b.elim) (Δ:=(noLabel:Labels Unit Unit Empty).set 0 (Fa J)) (q:=q) (L:=L) (Γ:=Γ) (vs:=vs) (l:=0) (run:=some (.err ())) (x:=Fa J) (st:=()) (H:=[]) rfl () rfl h (fun _ _=>rfl)
 exact this
def Cq (P:Program) (t:TypeId):Bool:=match P.underlying t with
 | some (.interface _)=>false
 | some _=>true
 | none=>false
theorem Gu {P:Program} {t xt:TypeId} {v:Value} (ht:Cq P t=true) (w:World):(Ib (.iface t v) xt t true).run P w=.ok (.value (.tuple #[v,.bool true])) w:=by
 unfold Cq at ht
 split at ht
 ·cases ht
 ·rename_i d hd hu
  have:(Instr.typeAssert (.iface t v) xt t true).run P w=.ok (.tuple #[v,.bool true]) w:=by
   unfold Instr.typeAssert
   rw [Sem.run_bind,run_underlying hu,Result.andThen_ok]
   cases d<;>first | (exact absurd rfl (hd _)) | simp
  simp [Ib,cj,this]
 ·cases ht
def sK (P:Program) (t:TypeId):Bool:=match P.underlying t with
 | some (.interface _)=>true
 | _=>false
theorem rt {P:Program} {t:TypeId} (h:sK P t=true):∃ ms,P.underlying t=some (.interface ms):=by
 unfold sK at h
 split at h
 ·exact ⟨_,by assumption⟩
 ·cases h
theorem vk {P:Program} {t:TypeId} (ht:sK P t=true) (w:World):(sJ .eql t .nilIface .nilIface).run P w=.ok (.value (.bool true)) w:=by
 obtain ⟨ms,hu⟩:=rt ht
 have h:(Op.equal t .nilIface .nilIface).run P w=.ok true w:=by
  unfold Op.equal
  rw [show Op.maxDepth=9999+1 from rfl,Op.equalIn]
  rw [Sem.run_bind,run_underlying hu,Result.andThen_ok]; rfl
 simp [sJ,cj,eqGuard,binOp,h]
theorem vg {P:Program} {t t1:TypeId} {v:Value} (ht:sK P t=true) (w:World):(sJ .eql t (.iface t1 v) .nilIface).run P w=.ok (.value (.bool false)) w:=by
 obtain ⟨ms,hu⟩:=rt ht
 have h:(Op.equal t (.iface t1 v) .nilIface).run P w=.ok false w:=by
  unfold Op.equal
  rw [show Op.maxDepth=9999+1 from rfl,Op.equalIn]
  rw [Sem.run_bind,run_underlying hu,Result.andThen_ok]; rfl
 simp [sJ,cj,eqGuard,binOp,h]
theorem Ew (b2:Nat) (w:World):CallsD PG 266 #[.pointer (some (aL b2))] .returning w fun e u2 w'=>e=.returned (.tuple #[])∧u2=.returning∧w'=w:=by
 refine mQ (aL b2) (Post:=fun w'=>w'=w) (.inl ⟨rfl,rfl,rfl⟩) ?_
 unfold gp
 simp only [T.wp,vk (P:=PG) (t:=gJ) (by kernel_rfl),fd]
 exact ⟨true,rfl,fun _=>trivial,fun h=>by cases h⟩
theorem Cj {r:eZ} {w:World} {L:al} {F:Heap} (b2:Nat) (y:Int) (x:Bool) (hsp:Split r w ((b2,aq bq [.bool x])::L) F) :
  CallsD PG 266 #[.pointer (some (aL b2))] (.panicking [{ v:=.iface bG (.agg #[.int .i64 y]),recovered:=false }]) w fun e u2 w' =>
   e=.returned (.tuple #[])∧u2=.panicking [{ v:=.iface bG (.agg #[.int .i64 y]),recovered:=true }]∧∃ F',F.le F'∧Split r w' ((b2,aq bq [.bool false])::L) F':=by
 refine mQ (aL b2) (Post:=fun w'=>∃ F',F.le F'∧Split r w' ((b2,aq bq [.bool false])::L) F') (.inr ⟨[],rfl,rfl⟩) ?_
 unfold gp
 refine e7 (J:=fun vs L'=>Fact.prop (L'=(b2,aq bq [.bool false])::L)) (Γ:=[]) ?_ (fun _ h=>nomatch h) hsp (fun vs L' F' w' hle hJ hS=>⟨F',hle,(show L'=_ from hJ)▸hS⟩)
 refine a8 (ey (t1:=tB) false fun w=>vg (by kernel_rfl) w) ?_
 rintro _ _ _ ⟨rfl,rfl,rfl⟩
 refine jG (fun h=>by cases h) (fun _=>?_)
 refine a8 (ey (t1:=.tup [.agg [.int .i64],.b .bool]) ((y,()),true,()) fun w=>Gu (by kernel_rfl) w) ?_
 rintro _ _ _ ⟨rfl,rfl,rfl⟩
 refine jG (fun _=>?_) (fun h=>by cases h)
 refine a8 (bF (z:=[.int .i64 0]) (by kernel_rfl)) ?_
 rintro _ _ _ ⟨b3,rfl,rfl,rfl⟩
 refine a8 (a6 (L1:=[]) (T:=bG) (c:=true) rfl (by kernel_rfl) rfl (Nat.le_of_ble_eq_true rfl) (by simp [Value.cells,Value.oneCell'])) ?_
 rintro _ _ _ ⟨rfl,rfl⟩
 refine a8 (a6 (L1:=[_]) (T:=bq) (c:=false) rfl (by kernel_rfl) rfl (Nat.le_of_ble_eq_true rfl) (by simp [Value.cells,Value.oneCell'])) ?_
 rintro _ _ _ ⟨rfl,rfl⟩
 exact DY (L':=(b2,aq bq [.bool false])::L) (List.sublist_cons_self ..) (hZ fun F hF=>rfl)
theorem FK {r:eZ} {w:World} {L:al} {F:Heap} (h:Split r w L F):Split r w (L++[]) F:=by rw [List.append_nil]; exact h
theorem rV (R:aY) (st:PSt):o8 R st=match (gT R>>=fun _=>d4 k_lp) st with | none=>none | some (.err _)=>some (Res.ok false st) | some (.ok b _)=>some (Res.ok b st):=rfl
theorem Ei {R:aY} (hR:cm R) (pb:Nat):Meets PG (PI pb) (aa k9 #[.pointer (some (aL pb))]) tB (o8 R) aJ []:=by
 intro r w F H st res hs hΓ hi hsp
 obtain ⟨sl,T0,⟨hH,hok⟩,hsl⟩:=hi
 subst hH
 rw [eg Tryz.func258 rfl rfl]
 refine Calls.mono (u3 (aL pb) (Mid:=fun vs w'=>∃ b2 b3 F',F.le F'∧vs=[.pointer (some (aL b2)),.pointer (some (aL b3))]∧Split r w' [(b3,aq ch (bt sl st)),(b2,aq bq [.bool false]),(pb,aq T0 (bt sl st))] F')
  (R:=fun e w'=>match e with | .returned v=>Ends (PI pb) tB (pl aJ) r F res (.returned v) w' | .panicked c=>Ends (PI pb) tB (pl aJ) r F res (.panicked c) w' | .outgrown=>False) ?_ ?_ ?_) (fun e w' h=>by cases e<;>exact h)
 ·rintro vs w' ⟨b2,b3,F',_,rfl,_⟩; exact ⟨_,_,rfl⟩
 ·-- the copy
  unfold j9
  refine e7 (J:=fun vs L'=>Fact.ex fun b2:Nat=>Fact.ex fun b3:Nat=>Fact.prop (vs=[.pointer (some (aL b2)),.pointer (some (aL b3))]∧L'=[(b3,aq ch (bt sl st)),(b2,aq bq [.bool false]),(pb,aq T0 (bt sl st))])) (Γ:=[Sl 4 aO sl st.l]) (L:=[(pb,aq T0 (bt sl st))]) ?_ (Holds.cons hsl fun _ h=>nomatch h) hsp ?_
  ·refine a8 (bF (z:=[.bool false]) (by kernel_rfl)) ?_
   rintro _ _ _ ⟨b2,rfl,rfl,rfl⟩
   refine a8 (ft (bs:=[.slice,.int .i64,.int .i64,.str,.int .i64,.int .i64,.bool]) (x:=(sl,(st.i:Int),st.left.1,st.left.2.1,st.left.2.2.1,st.left.2.2.2.1,st.split,())) (Rd.own (List.mem_cons_of_mem _ (List.mem_cons_self ..))) (by kernel_rfl) rfl rfl) ?_
   rintro _ _ _ ⟨rfl,rfl,rfl⟩
   refine a8 (bF (z:=[.slice none 0 0,.int .i64 0,.int .i64 0,.string kE,.int .i64 0,.int .i64 0,.bool false]) (by kernel_rfl)) ?_
   rintro _ _ _ ⟨b3,rfl,rfl,rfl⟩
   refine a8 (a6 (L1:=[]) (T:=ch) (c:=true) rfl (by kernel_rfl) rfl (Nat.le_of_ble_eq_true rfl) (by simp [Value.cells,Value.oneCell'])) ?_
   rintro _ _ _ ⟨rfl,rfl⟩
   exact hZ fun F hF=>⟨b2,b3,rfl,rfl⟩
  ·rintro vs L' F' w' hle ⟨b2,b3,rfl,rfl⟩ hS
   exact ⟨b2,b3,F',hle,rfl,hS⟩
 ·rintro s2 s3 w1 ⟨b2,b3,F1,hle1,hv,hS⟩
  obtain rfl:s2=aL b2:=by have:=(List.cons.inj hv).1; cases this; rfl
  obtain rfl:s3=aL b3:=by have:=(List.cons.inj (List.cons.inj hv).2).1; cases this; rfl
  have hS1:Split r w1 ([(b3,aq ch (bt sl st))]++[(b2,aq bq [.bool false]),(pb,aq T0 (bt sl st))]) F1:=hS
  have hinv1:((PI b3).inv st [(b3,aq ch (bt sl st))]).p F1:=⟨sl,ch,⟨rfl,hok⟩,(Sl 4 aO sl st.l).mono _ _ hle1 hsl⟩
  have fin:∀ (c:Bool) (w2:World) (F2:Heap),res=.ok c st→F.le F2→Split r w2 [(b2,aq bq [.bool c]),(pb,aq T0 (bt sl st))] F2 →
    ∃ v,(cV #[.c (.pointer (some (aL b2))) bq]).run PG w2=.ok v w2∧Ends (PI pb) tB (pl aJ) r F res (.returned v) w2:=by
   intro c w2 F2 hres hle2 hS2
   refine ⟨.bool c,?_,F2,hle2,?_⟩
   ·have hb:=hS2.own b2 _ (List.mem_cons_self ..)
    obtain ⟨n,hsh⟩:=eQ (P:=PG) (t:=bq) (by kernel_rfl)
    simp [cV,RV.sem,asAddr,jx hsh (a:=aL b2) hb rfl rfl]
   ·subst hres
    exact ⟨[(pb,aq T0 (bt sl st))],[],c,rfl,⟨sl,T0,⟨rfl,hok⟩,(Sl 4 aO sl st.l).mono _ _ hle2 hsl⟩,hS2.sub (List.sublist_cons_self ..),rfl,rfl⟩
  unfold jN
  simp only [T.wp]
  cases hres1:gT R st with
  | none =>
   have:o8 R st=none:=by
    have e:(gT R>>=fun _=>d4 k_lp) st=none:=by show Sp.bind _ _ st=none; simp [Sp.bind,hres1]
    rw [rV,e]
   rw [this] at hs; cases hs
  | some res1 =>
   refine bJ ?_ ?_ _ (lC hR b3 (Split.give r [(b2,aq bq [.bool false]),(pb,aq T0 (bt sl st))]) w1 F1 _ st res1 hres1 (fun _ h=>nomatch h) hinv1 hS1.out)
   ·rintro v w2 ⟨F2,hle2,h⟩
    cases res1 with
    | err y=>obtain ⟨c,hc,_⟩:=h; cases hc
    | ok b st1 =>
     obtain ⟨H2,K2,x,hx,hinv2,hS2,hK2,hR2⟩:=h
     cases hx
     have hK2':K2=[]:=hK2
     subst hK2'
     refine ⟨x,rfl,?_⟩
     rw [List.append_nil] at hS2
     have hres:res=.ok (dO st1.now k_lp) st:=by
      have e:o8 R st=some (.ok (dO st1.now k_lp) st):=by
       have e:(gT R>>=fun _=>d4 k_lp) st=some (.ok (dO st1.now k_lp) st1):=by show Sp.bind _ _ st=_; simp only [Sp.bind,hres1]; rfl
       rw [rV,e]
      rw [e] at hs; cases hs; rfl
     refine bJ ?_ ?_ _ (cc b3 k_lp (Split.give r [(b2,aq bq [.bool false]),(pb,aq T0 (bt sl st))]) w2 F2 _ st1 (.ok (dO st1.now k_lp) st1) rfl (fun _ h=>nomatch h) hinv2 hS2)
     ·rintro v w3 ⟨F3,hle3,H3,K3,x3,hx3,hinv3,hS3,hK3,hR3⟩
      cases hx3
      have hK3':K3=[]:=hK3
      have hR3':x3=dO st1.now k_lp:=hR3
      subst hK3'; subst hR3'
      rw [List.append_nil] at hS3
      refine ⟨_,rfl,?_⟩
      have hS4:=Split.back hS1 hS3
      have hb2:=hS4.own b2 _ (List.mem_append_right _ (List.mem_cons_self ..))
      obtain ⟨n,hsh⟩:=eQ (P:=PG) (t:=bq) (by kernel_rfl)
      have hst:=BT (P:=PG) (a:=aL b2) (T:=bq) (c:=false) (v:=.bool (dO st1.now k_lp)) (by kernel_rfl) hb2 rfl (Nat.le_of_ble_eq_true rfl) (by simp [Value.cells,Value.oneCell'])
      rw [hst]
      refine ⟨(),rfl,?_⟩
      have hS5:Split r (w3.setRow b2 (bB [.bool false] 0 [.bool (dO st1.now k_lp)]).toArray) (H3++([]++(b2,aq bq (bB [.bool false] 0 [.bool (dO st1.now k_lp)]))::[(pb,aq T0 (bt sl st))])) F3:=Split.setRow (L1:=[]) (L2:=[(pb,aq T0 (bt sl st))]) hS4
      refine CallsD.mono (Ew b2 _) ?_
      rintro e u' w4 ⟨rfl,rfl,rfl⟩
      exact ⟨_,rfl,fin _ _ F3 hres (hle1.trans (hle2.trans hle3)) (hS5.sub (List.sublist_append_right ..))⟩
     ·rintro c w3 ⟨F3,hle3,H3,K3,x3,hx3,_⟩; cases hx3
   ·rintro c w2 ⟨F2,hle2,h⟩
    cases res1 with
    | ok b st1=>obtain ⟨_,_,_,hx,_⟩:=h; cases hx
    | err y =>
     obtain ⟨c',hc,hy,hS2⟩:=h
     cases hc
     have hy':c=[{ v:=.iface bG (.agg #[.int .i64 y]),recovered:=false }]:=hy
     subst hy'
     have hres:res=.ok false st:=by
      have e:o8 R st=some (.ok false st):=by
       have e:(gT R>>=fun _=>d4 k_lp) st=some (.err y):=by show Sp.bind _ _ st=_; simp only [Sp.bind,hres1]
       rw [rV,e]
      rw [e] at hs; cases hs; rfl
     have hS3:Split r w2 [(b2,aq bq [.bool false]),(pb,aq T0 (bt sl st))] F2:=Split.back (L:=[(b2,aq bq [.bool false]),(pb,aq T0 (bt sl st))]) hS1 hS2
     refine CallsD.mono (Cj b2 y false hS3) ?_
     rintro e u' w4 ⟨rfl,rfl,F4,hle4,hS4⟩
     exact ⟨_,rfl,fin false _ F4 hres (hle1.trans (hle2.trans hle4)) hS4⟩
end Go.Proofs.YtjlgcpgjdgeejaaGreatDoor
end

section
namespace Go.Proofs.YtjlgcpgjdgeejaaGreatDoor
open Go
set_option linter.unusedSimpArgs false
set_option linter.unusedVariables false
set_option linter.constructorNameAsVariable false
theorem Agree.start {n:NN} {a:Act} (hd:nN n a) (hs:a.tmps.size=n.hi):Agree n (fun _=>none) a:=⟨hd,hs,fun i v h=>by cases h⟩
def e0:Exit→Env→T:=fun _ _=>.bad
def qz:Env→T:=fun _=>.out 0 []
def wB:Exit→Env→T:=fun ex _=>match ex with
 | .ret=>.out 1 []
 | _=>.bad
def t7 (l:Nat) (K:Value→World→Prop) (i:Nat) (w:World):Prop :=
 ∃ r:Loop,w.heap[l]? = some (.loop r)∧(if i=0 then K (.bool true) (w.putObj l (.loop { r with state:=.ready,pending:=none })) else K (.bool false) (w.putObj l (.loop { r with state:=.done,pending:=some .ret })))
theorem tK {P:Program} {l f nt:Nat} {tmps:Array Value} {asn bd:Code} {w:World} {K:Value→World→Prop} {N:List PanicEntry→World→Prop} {e:Env} {anA anB:An} {slots:List Nat} {S:World→Prop} {Φ:Outs} (hsz:tmps.size=nt)
  (he:∀ i v,e i=some v→tmps.getD i undef=v.val)
  (h:(den P ⟨0,nt,[],fun _=>undef,some l⟩ #[] asn anA 1 e (d9 0 slots) e0).wp P S (fun _ vs w1=>∃ r:Loop,w1.heap[l]? = some (.loop r)∧r.state=.ready ∧
   (den P ⟨0,nt,[],fun _=>undef,some l⟩ #[] bd anB 2 (Env.puts (fun _=>none) slots vs) qz wB).wp P (fun _=>True) (fun i _ w2=>t7 l K i w2) (fun _ _=>False) (w1.putObj l (.loop { r with state:=.busy }))) (fun _ _=>False) w) :
  RoundIn Fence.wide 0 P l f tmps asn bd w fun
   | .returned v,w'=>K v w'
   | .panicked c,w'=>N c w'
   | .outgrown,_=>False:=by
 refine roundIn_of_wpIn (F:=Fence.wide) trivial ?_
 let n0:NN:=⟨0,nt,[],fun _=>undef,some l⟩
 have hA:Agree n0 e { tmps:=tmps,defers:=[] }:=⟨⟨rfl,fun i hi=>absurd hi (Nat.not_lt_zero i)⟩,hsz,he⟩
 refine Code.wpIn_mono (Q:=fun ex a' w'=>match ex with
  | .normal=>∃ w₂,(Instr.beginRound l).run P w'=.ok () w₂∧bd.wpIn (Fence.wide.inRound l) 0 P (roundPost P l fun
   | .returned v,w'=>K v w'
   | .panicked c,w'=>N c w'
   | .outgrown,_=>False) a' w₂
  | _=>False) (fun ex a' w' hq=>by cases ex<;>first | exact hq | exact hq.elim) ((ff asn).1 anA 1 e (d9 0 slots) e0 _ w _ S _ h hA ?_ ?_ ?_ ?_)
 ·intro Φ1 S1 e1 a1 w1 hb1 ha1 hs1 hx1
  obtain ⟨vs,hg,ho⟩:=eP hx1
  rw [hb1 0 (Nat.lt_succ_self 0)] at ho
  obtain ⟨r,hr,hst,ht⟩:=ho
  refine ⟨_,run_beginRound hr hst,?_⟩
  have hA1:Agree n0 (Env.puts (fun _=>none) slots vs) a1:=Agree.puts ha1 slots vs _ (Agree.start ha1.defers ha1.size) hg
  refine (ff bd).1 anB 2 _ qz wB a1 _ _ _ _ ht hA1 ?_ ?_ ?_ ?_
  ·intro Φ2 S2 e2 a2 w2 hb2 ha2 hs2 hx2
   have hx3:(T.out 0 []).wp P S2 Φ2 (fun _ _=>False) w2:=hx2
   simp only [T.wp] at hx3
   rw [hb2 0 (by decide)] at hx3
   obtain ⟨r2,hr2,hk⟩:=hx3
   rw [if_pos rfl] at hk
   refine ⟨_,_,run_endRound none hr2,?_⟩
   exact hk
  ·intro Φ2 S2 ex e2 a2 w2 hne hb2 ha2 hs2 hx2
   cases ex with
   | ret =>
    have hx3:(T.out 1 []).wp P S2 Φ2 (fun _ _=>False) w2:=hx2
    simp only [T.wp] at hx3
    rw [hb2 1 (by decide)] at hx3
    obtain ⟨r2,hr2,hk⟩:=hx3
    rw [if_neg (by decide)] at hk
    refine ⟨_,_,run_endRound (some .ret) hr2,?_⟩
    exact hk
   | normal=>exact absurd rfl hne
   | _=>simp only [wB,T.wp] at hx2
  ·intro c a w' _ h; exact h.elim
  ·intro c a d v w' _ h; exact h
 ·intro Φ2 S2 ex e2 a2 w2 hne hb2 ha2 hs2 hx2
  simp only [e0,T.wp] at hx2
 ·intro c a w' _ h; exact h.elim
 ·intro c a d v w' _ h; exact h
def _root_.Go.Code.inB:Code→Code
 | .block _ c=>c
 | c=>c
theorem yK {ps:Array Tmp} {vs:Array Value} {tmps:Array Value}:((ps.zip vs).foldl (fun t (p,v)=>t.setIfInBounds p v) tmps).size=tmps.size:=by
 rw [← Array.foldl_toList]
 generalize (ps.zip vs).toList=l
 induction l generalizing tmps with
 | nil=>rfl
 | cons x l ih=>simp only [List.foldl_cons]; rw [ih]; simp
theorem vL {e:Env} {tmps:Array Value} (ps:List Tmp) (vs:List Value) (hnd:ps.Nodup) (hlt:ps.all (fun p=>decide (p < tmps.size))=true) (hag:∀ s v,e s=some v→tmps.getD s undef=v.val) :
  ∀ s v,Env.puts e ps vs s=some v→((ps.toArray.zip vs.toArray).foldl (fun t (p,v)=>t.setIfInBounds p v) tmps).getD s undef=v.val:=by
 rw [← Array.foldl_toList]
 have hz:(ps.toArray.zip vs.toArray).toList=ps.zip vs:=by simp
 rw [hz]
 clear hz
 induction ps generalizing vs tmps e with
 | nil=>intro s v h; simpa [Env.puts] using hag s v (by simpa [Env.puts] using h)
 | cons p ps ih =>
  cases vs with
  | nil=>intro s v h; simpa [Env.puts] using hag s v (by simpa [Env.puts] using h)
  | cons x vs =>
   simp only [List.zip_cons_cons,List.foldl_cons]
   simp only [List.all_cons,Bool.and_eq_true,decide_eq_true_eq] at hlt
   refine ih (e:=e.putE p (.v x)) vs (List.nodup_cons.1 hnd).2 ?_ ?_
   ·simpa using hlt.2
   ·intro s v h
    by_cases hs:s=p
    ·subst hs
     rw [ig] at h; cases h
     simp [Array.getD_eq_getD_getElem?,hlt.1,EV.val]
    ·rw [gM e _ hs] at h
     have:=hag s v h
     rw [← this]
     simp [Array.getD_eq_getD_getElem?,Array.getElem?_setIfInBounds_ne (Ne.symm hs)]
def _root_.Go.Code.rAs:Code→Code
 | .rangeFunc _ _ a _=>a
 | _=>.skip
def _root_.Go.Code.rBd:Code→Code
 | .rangeFunc _ _ _ b=>b
 | _=>.skip
def BS (slots:List Nat) (lo:Nat):ResultVar→Bool
 | .tmp s=>slots.contains s&&Nat.blt s lo
 | .cell s _=>slots.contains s&&Nat.blt s lo
theorem Ft:∀ (ss:List Nat) (vs:List Value) (b:Env) (i:Nat),b.puts ss vs i≠none→i∈ss∨b i≠none:=by
 intro ss
 induction ss with
 | nil=>intro vs b i h; exact .inr (by simpa [Env.puts] using h)
 | cons x ss ih =>
  intro vs b i h
  cases vs with
  | nil=>exact .inr (by simpa [Env.puts] using h)
  | cons v vs =>
   rcases ih vs _ i h with h | h
   ·exact .inl (List.mem_cons_of_mem _ h)
   ·by_cases hx:i=x
    ·exact .inl (hx▸List.mem_cons_self ..)
    ·exact .inr (by rwa [gM b _ hx] at h)
def qK (P:Program) (rs:Array RV) (D:Nat) (R:Ending→World→Prop) (w:World):Prop :=
 w.heap[D]? = some (.deferred (some []))∧∃ v,(cV rs).run P (w.putObj D (.deferred none))=.ok v (w.putObj D (.deferred none))∧R (.returned v) (w.putObj D (.deferred none))
theorem FE {P:Program} {f:FuncId} {fn:Func} {c1 c2 c3 c4 asn bd:Code} {bi:Nat} {g:Tmp} {ps:Array Tmp} {args:List Value} {w:World} {R:Ending→World→Prop} {lo:Nat}
  {slots:List Nat} {an1 an2 an3 an4:An} {Mid:List Value→World→Prop} (hf:P.funcs[f]? = some fn) (hb:fn.body=some (.seq c1 (.seq c2 (.seq (.seq c3 (.block bi (.rangeFunc (.tmp g) ps asn bd))) c4))))
  (hn:args.length≤fn.ntmps) (hgs:slots.contains g=true) (hres:fn.results.all (BS slots lo)=true)
  (h1:(den P (NN.of fn.ntmps) #[] c1 an1 1 (dG args) (fun e=>den P (NN.of fn.ntmps) #[] c2 an2 1 e (fun e=>den P (NN.of fn.ntmps) #[] c3 an3 1 e (d9 0 slots) e0) e0) e0).wp P (fun _=>True) (fun _ vs w'=>Mid vs w') (fun _ _=>False) w)
  (h2:∀ vs w',Mid vs w'→∃ gf lb,(Env.puts (fun _=>none) slots vs g=some (.v (.func (.func gf) #[] lb)))∧(∀ args w,(callFunc gf args).run P w=.ok (.enter gf args) w) ∧
   ∀ (tmps:Array Value) (fid:FuncId),tmps.size=fn.ntmps→(∀ s v,Env.puts (fun _=>none) slots vs s=some v→tmps.getD s undef=v.val) →
    Calls P gf (#[.func (.yield (w'.heap.size+1)) #[] #[]]++lb) ((w'.alloc (.deferred (some []))).alloc (.loop { state:=.ready,pending:=none,fn:=fid,tmps:=tmps,params:=ps,assign:=asn,body:=bd,defers:=w'.heap.size })) fun e w3 =>
     ∃ v r,e=.returned v∧w3.heap[w'.heap.size+1]? = some (.loop r)∧r.state≠.busy ∧
      ((r.pending=none∧∀ N:NN,N.lo=lo→N.hi=fn.ntmps→N.rd=none→(den P N #[] c4 an4 1 (Env.puts (fun _=>none) slots vs) qz (fun ex _=>match ex with | .ret=>.out 0 [] | _=>.bad)).wp P (fun _=>True)
        (fun _ _ w5=>qK P (fn.results.map (fL (Env.puts (fun _=>none) slots vs))) w'.heap.size R w5) (fun _ _=>False) (w3.putObj (w'.heap.size+1) (.loop { r with state:=.exhausted }))) ∨
       (r.pending=some .ret∧qK P (fn.results.map (fL (Env.puts (fun _=>none) slots vs))) w'.heap.size R (w3.putObj (w'.heap.size+1) (.loop { r with state:=.exhausted }))))) :
  Calls P f args.toArray w R:=by
 refine (callsIn_wide (n:=0)).1 (callsIn_of_wp_marks hf hb trivial ?_)
 have hW:(FW none)=Fence.wide:=rfl
 refine wpIn_seq (Code.wpIn_mono (Q:=fun ex a' w'=>match ex with
  | .normal=>(Code.seq c2 (.seq (.seq c3 (.block bi (.rangeFunc (.tmp g) ps asn bd))) c4)).wpIn Fence.wide 0 P (bodyPostM Fence.wide 0 P fn R) a' w'
  | _=>False) (fun ex a' w' h=>by cases ex<;>first | exact h | exact h.elim) ((ff c1).1 an1 1 (dG args) _ _ _ w _ _ _ h1 ?_ ?_ ?_ ?_ ?_))
 ·have hsz:fn.ntmps - args.length+args.length=fn.ntmps:=by omega
  refine ⟨⟨rfl,fun i hi=>absurd hi (Nat.not_lt_zero i)⟩,by simp [NN.of]; omega,fun i v hv=>?_⟩
  simp only [dG,Option.map_eq_some_iff] at hv
  obtain ⟨x,hx,rfl⟩:=hv
  have hi:i < args.length:=by
   rcases Nat.lt_or_ge i args.length with h' | h'
   ·exact h'
   ·simp [List.getElem?_eq_none h'] at hx
  have hx':args[i]=x:=by simpa [List.getElem?_eq_getElem hi] using hx
  simp [Array.getD_eq_getD_getElem?,Array.getElem?_append,hi,hx',EV.val]
 ·intro Φ1 S1 e1 a1 w1 hb1 ha1 hs1 hx1
  refine wpIn_seq (Code.wpIn_mono (Q:=fun ex a' w'=>match ex with
   | .normal=>(Code.seq (.seq c3 (.block bi (.rangeFunc (.tmp g) ps asn bd))) c4).wpIn Fence.wide 0 P (bodyPostM Fence.wide 0 P fn R) a' w'
   | _=>False) (fun ex a' w' h=>by cases ex<;>first | exact h | exact h.elim) ((ff c2).1 an2 1 e1 _ _ a1 w1 Φ1 S1 _ hx1 ha1 ?_ ?_ ?_ ?_))
  ·intro Φ2 S2 e2 a2 w2 hb2 ha2 hs2 hx2
   refine wpIn_seq (wpIn_seq (Code.wpIn_mono (Q:=fun ex a' w'=>match ex with
    | .normal=>(Code.block bi (.rangeFunc (.tmp g) ps asn bd)).wpIn Fence.wide 0 P (Exit.then (c4.wpIn Fence.wide 0 P (bodyPostM Fence.wide 0 P fn R)) (bodyPostM Fence.wide 0 P fn R)) a' w'
    | _=>False) (fun ex a' w' h=>by cases ex<;>first | exact h | exact h.elim) ((ff c3).1 an3 1 e2 _ _ a2 w2 Φ2 S2 _ hx2 ha2 ?_ ?_ ?_ ?_)))
   ·intro Φ3 S3 e3 a3 w3 hb3 ha3 hs3 hx3
    obtain ⟨vs,hg,ho⟩:=eP hx3
    rw [hb3 0 (Nat.lt_succ_self 0),hb2 0 (Nat.lt_succ_self 0),hb1 0 (Nat.lt_succ_self 0)] at ho
    obtain ⟨gf,lb,hgv,hcf,hcall⟩:=h2 vs w3 ho
    have hA3:Agree (NN.of fn.ntmps) (Env.puts (fun _=>none) slots vs) a3:=Agree.puts ha3 slots vs _ (Agree.start ha3.defers ha3.size) hg
    refine wpIn_block (wpIn_rangeFunc fun fid _=>?_)
    have hev:a3.eval (.tmp g)=.func (.func gf) #[] lb:=by
     have:=hA3.val g _ hgv
     simpa [Act.eval,EV.val] using this
    have hc:=hcall a3.tmps fid ha3.size hA3.val
    let W1:=(w3.alloc (.deferred (some []))).alloc (.loop { state:=.ready,pending:=none,fn:=fid,tmps:=a3.tmps,params:=ps,assign:=asn,body:=bd,defers:=w3.heap.size })
    refine ⟨w3.heap.size+1,[{ target:=.collected w3.heap.size,args:=#[] }],W1,{ target:=.fn (.func gf) lb,args:=#[.func (.yield (w3.heap.size+1)) #[] #[]] },W1,gf,
     #[.func (.yield (w3.heap.size+1)) #[] #[]]++lb,W1,run_enterLoop_outer _ _ _ _ _,?_,fun f' _=>trivial,?_,fun h=>(by cases h),?_⟩
    ·simp only [resolve,hev]
     simp [Deferred.ofValue,Act.eval]
    ·simp [invoke,hcf]
    refine callsIn_wide.2 (Calls.mono hc fun e w4 he=>?_)
    obtain ⟨v,⟨rst,rpe,rfn,rtm,rps,ras,rbd,rdf⟩,rfl,hl,hbusy,hend⟩:=he
    refine ⟨_,_,run_endLoop hl hbusy,?_⟩
    have hd3:a3.defers=[]:=ha3.defers.1
    let a4:Act:={ a3 with defers:=[{ target:=.collected w3.heap.size,args:=#[] }]++a3.defers }
    have hfin:∀ (a5:Act) (w5:World),a5.defers=[{ target:=.collected w3.heap.size,args:=#[] }]→results fn a5.tmps=cV (fn.results.map (fL (Env.puts (fun _=>none) slots vs))) →
      qK P (fn.results.map (fL (Env.puts (fun _=>none) slots vs))) w3.heap.size R w5→LeavesInM Fence.wide 0 P fn a5.tmps R a5.defers .returning w5:=by
     rintro a5 w5 hd hr ⟨hD,u,hu,hRu⟩
     rw [hd]
     refine ⟨by simp,.inl ⟨w3.heap.size,_,rfl,run_takeDeferred hD,?_⟩⟩
     exact ⟨u,by rw [hr]; exact hu,hRu⟩
    have hRes:∀ (tm:Array Value),(∀ i,i < lo→tm.getD i undef=a3.tmps.getD i undef)→results fn tm=cV (fn.results.map (fL (Env.puts (fun _=>none) slots vs))):=by
     intro tm htm
     refine jY fun r hr=>?_
     have hro:=Array.all_eq_true_iff_forall_mem.1 hres r hr
     have one:∀ s,slots.contains s=true→s < lo→(Env.puts (fun _=>none) slots vs).at (.tmp s)=tm.getD s undef:=fun s hs hl=>by
      obtain ⟨u,_,g1,_,_⟩:=ur (b:=fun _=>none) hg s (by simpa using hs)
      rw [htm s hl,hA3.val s u g1]
      simp [Env.at,Env.ev,g1]
     cases r with
     | tmp s=>simp only [BS,Bool.and_eq_true] at hro; exact one s hro.1 (Nat.le_of_ble_eq_true hro.2)
     | cell s ty=>simp only [BS,Bool.and_eq_true] at hro; exact one s hro.1 (Nat.le_of_ble_eq_true hro.2)
    rcases hend with ⟨hp,ht⟩ | ⟨hp,ht⟩
    ·have hp':rpe=none:=hp
     subst hp'
     let N:NN:=⟨lo,fn.ntmps,a4.defers,fun i=>a4.tmps.getD i undef,none⟩
     have hA4:Agree N (Env.puts (fun _=>none) slots vs) a4:=⟨⟨rfl,fun i _=>rfl⟩,ha3.size,hA3.val⟩
     have hkeep:∀ a5,nN N a5→a5.defers=[{ target:=.collected w3.heap.size,args:=#[] }]∧results fn a5.tmps=cV (fn.results.map (fL (Env.puts (fun _=>none) slots vs))):=fun a5 hk =>
      ⟨by rw [hk.1]; show [_]++a3.defers=_; rw [hd3]; rfl,hRes _ fun i hi=>hk.2 i hi⟩
     refine Code.wpIn_mono (fun ex a' w' h=>?_) ((ff c4).1 an4 1 _ qz _ a4 _ _ _ (fun ex a' w'=>match ex with
      | .panic _=>False
      | _=>bodyPostM Fence.wide 0 P fn R ex a' w') (ht N rfl rfl rfl) hA4 ?_ ?_ ?_ ?_)
     ·cases ex<;>first | exact h | exact h.elim
     ·intro Φ4 S4 e4 a5 w5 hb4 ha5 hs5 hx5
      have hx6:(T.out 0 []).wp P S4 Φ4 (fun _ _=>False) w5:=hx5
      simp only [T.wp] at hx6
      rw [hb4 0 (Nat.lt_succ_self 0)] at hx6
      exact hfin a5 w5 (hkeep a5 ha5.defers).1 (hkeep a5 ha5.defers).2 hx6
     ·intro Φ4 S4 ex e4 a5 w5 hne hb4 ha5 hs5 hx5
      cases ex with
      | ret =>
       simp only [T.wp] at hx5
       rw [hb4 0 (Nat.lt_succ_self 0)] at hx5
       exact hfin a5 w5 (hkeep a5 ha5.defers).1 (hkeep a5 ha5.defers).2 hx5
      | normal=>exact absurd rfl hne
      | _=>simp only [T.wp] at hx5
     ·intro c a w' _ h; exact h.elim
     ·intro c a d v w' _ h; exact h
    ·have hp':rpe=some .ret:=hp
     subst hp'
     refine wpIn_ret ?_
     exact hfin a4 _ (by show [_]++a3.defers=_; rw [hd3]; rfl) (hRes _ fun i _=>rfl) ht
   ·intro Φ3 S3 ex e3 a3 w3 hne hb3 ha3 hs3 hx3
    simp only [e0,T.wp] at hx3
   ·intro c a w' _ h; exact h.elim
   ·intro c a d v w' _ h; exact h
  ·intro Φ3 S3 ex e3 a3 w3 hne hb3 ha3 hs3 hx3
   simp only [e0,T.wp] at hx3
  ·intro c a w' _ h; exact h.elim
  ·intro c a d v w' _ h; exact h
 ·intro Φ3 S3 ex e3 a3 w3 hne hb3 ha3 hs3 hx3
  simp only [e0,T.wp] at hx3
 ·intro c a w' _ h; exact h.elim
 ·intro c a d v w' _ h; exact h
end Go.Proofs.YtjlgcpgjdgeejaaGreatDoor
end

section
namespace Go.Proofs.YtjlgcpgjdgeejaaGreatDoor
open Go
set_option linter.unusedSimpArgs false
set_option linter.unusedVariables false
set_option linter.constructorNameAsVariable false
section
variable {ε σ β:Type} {P:Program} {I:av ε σ} {t:Ty} {Rel:β→t.den→al→Fact} {Δ:Labels ε σ β} {md:cK} {L:al} {Γ:List Fact} {st:σ} {run:Option (Res ε σ β)}
theorem KM {ε2 σ2 β1:Type} {I2:av ε2 σ2} {t1:Ty} {s0:Sem Next} {k:t1.den→T} {s1:Sp ε2 σ2 β1} {Rel1:β1→t1.den→Fact} {Γ1:List Fact} {st2:σ2} {H2 L0:al} (hm:Meets P I2 s0 t1 s1 Rel1 Γ1) (hΓ1:∀ A∈Γ1,A∈Γ) (hinv:∀ F,Holds Γ F→(I2.inv st2 H2).p F)
  (hn:s1 st2=none→run=none) (he:∀ e,s1 st2≠some (.err e))
  (hk:∀ x b st2' H2',s1 st2=some (.ok b st2')→au P I t Rel Δ none st (k x) run (H2'++L0) (I2.inv st2' H2'::Rel1 b x::Γ)):au P I t Rel Δ md st (.op s0 t1 k) run (H2++L0) Γ:=by
 intro H r w F res S hs hΓ hsp hq
 simp only [T.wp]
 have hΓ':Holds Γ F:=fun A hA=>hΓ A (List.mem_cons_of_mem _ hA)
 have hp:∀ X:al,(X++(H++L0)).Perm (H++(X++L0)):=fun X=>by
  rw [← List.append_assoc,← List.append_assoc]
  exact List.perm_append_comm.append_right L0
 have hsp0:Split r w (H2++(H++L0)) F:=hsp.perm (hp H2)
 cases h1:s1 st2 with
 | none=>rw [hn h1] at hs; cases hs
 | some r1 =>
  cases r1 with
  | err y=>exact absurd h1 (he y)
  | ok b st' =>
   refine bJ ?_ ?_ _ (hm (Split.give r (H++L0)) w F H2 st2 (.ok b st') h1 (fun A hA=>hΓ' A (hΓ1 A hA)) (hinv F hΓ') hsp0.out)
   ·rintro v w' ⟨F',hle,H',K1,x,hv,hinv',hS,hK,hR⟩
    cases hv
    have hK':K1=[]:=hK
    subst hK'
    rw [List.append_nil] at hS
    have hS':Split r w' (H'++(H++L0)) F':=Split.back (L:=H++L0) hsp0 hS
    exact ⟨x,rfl,dI hle (hk x b st' H' h1 H r w' F' res S hs (Holds.cons ((I.inv st H).mono _ _ hle (hΓ _ (List.mem_cons_self ..))) (Holds.cons hinv' (Holds.cons hR (hΓ'.mono hle)))) (hS'.perm (hp H').symm) trivial)⟩
   ·rintro c w' ⟨F',hle,H',K1,x,hv,_⟩; cases hv
theorem sZ {δ:Type} {l:Nat} {ts:List C} {vs:List Value} {body:HC ts→T} (f:δ→HC ts) (J:δ→al→Fact) (sp:Nat→δ→Sp ε σ β) (n0:Nat) (d0:δ) (hv:vs=HC.enc ts (f d0)) (hrun:run=sp n0 d0 st) (hz:∀ d st,sp 0 d st=none) (h0:∀ F,Holds Γ F→(J d0 L).p F)
  (hb:∀ n d L' st,au P I t Rel (Δ.set l { ι:={ j:Nat × δ // j.1 < n+1 },sp:=fun j=>sp j.1.1 j.1.2,J:=fun j vs L'=>(Fact.prop (vs=HC.enc ts (f j.1.2))).both (J j.1.2 L') }) none st (body (f d)) (sp (n+1) d st) L' (J d L'::Γ)):au P I t Rel Δ md st (.loop l ts vs body) run L Γ:=by
 subst hv; subst hrun
 refine FA (s:=sp n0 d0) ?_ rfl
 refine go (x:={ ι:=Nat × δ,sp:=fun j=>sp j.1 j.2,J:=fun j vs L'=>(Fact.prop (vs=HC.enc ts (f j.2))).both (J j.2 L') }) (fun j=>j.1) (n0,d0) rfl (fun F hF=>⟨rfl,h0 F hF⟩) (fun i vs L' F h=>⟨f i.2,h.1⟩) ?_
 rintro ⟨n,d⟩ L' y
 refine Sim.both (Sim.prop fun h1=>?_)
 obtain rfl:=HC.enc_inj ts _ _ h1
 cases n with
 | zero=>exact bc fun st=>cq (hz _ st)
 | succ n=>exact bc fun st=>hb n d L' st
theorem sO {δ:Type} {l n:Nat} {vs:List Value} {ts:List C} {f:δ→HC ts} {J:δ→al→Fact} {sp:Nat→δ→Sp ε σ β} (d:δ)
  (hx:Δ l={ ι:={ j:Nat × δ // j.1 < n+1 },sp:=fun j=>sp j.1.1 j.1.2,J:=fun j vs L'=>(Fact.prop (vs=HC.enc ts (f j.1.2))).both (J j.1.2 L') }) (hv:vs=HC.enc ts (f d)) (hrun:run=sp n d st) (hJ:∀ F,Holds Γ F→(J d L).p F):au P I t Rel Δ md st (.out l vs) run L Γ :=
 rL (x:={ ι:={ j:Nat × δ // j.1 < n+1 },sp:=fun j=>sp j.1.1 j.1.2,J:=fun j vs L'=>(Fact.prop (vs=HC.enc ts (f j.1.2))).both (J j.1.2 L') }) ⟨(n,d),Nat.lt_succ_self n⟩ hx hrun fun F hF=>⟨hv,hJ F hF⟩
end
theorem Ea {ε σ β:Type} {P:Program} {I:av ε σ} {t:Ty} {Rel:β→t.den→al→Fact} {Δ:Labels ε σ β} {q:Option Quiet} {L:al} {Γ:List Fact} {run:Option (Res ε σ β)}
  {β1:Type} {t1:Ty} {s0:Sem Next} {k:t1.den→T} {b0:β1} {Rel1:β1→t1.den→al→Fact} {Γ1:List Fact} (hm:MeetsO P (I0:av ε Unit) s0 t1 (Pure.pure b0:Sp ε Unit β1) Rel1 Γ1) (hΓ1:∀ A∈Γ1,A∈Γ)
  (hk:∀ x K,SimAt P I t Rel Δ none (k x) run (K++L) (Rel1 b0 x K::Γ)):SimAt P I t Rel Δ q (.op s0 t1 k) run L Γ:=by
 intro r w F res S hs hΓ hsp hq
 simp only [T.wp]
 have h0:Split r w ([]++L) F:=hsp
 refine bJ ?_ ?_ _ (hm (Split.give r L) w F [] () (.ok b0 ()) rfl (fun A hA=>hΓ A (hΓ1 A hA)) rfl h0.out)
 ·rintro v w' ⟨F',hle,H',K1,x,hv,hinv,hS,hR⟩
  cases hv
  have hH:H'=[]:=hinv
  subst hH
  exact ⟨x,rfl,dI hle (hk x K1 r w' F' res S hs (Holds.cons hR (hΓ.mono hle)) (by simpa using Split.back h0 hS) trivial)⟩
 ·rintro c w' ⟨F',hle,H',K1,x,hv,_⟩; cases hv
theorem Split.freezeL {r:eZ} {w:World}:∀ (K:al) {H:al} {F:Heap},Split r w (K++H) F→∃ F',F.le F'∧(∀ p∈K,F' p.1=some p.2)∧Split r w H F'
 | [],H,F,h=>⟨F,Heap.le.refl F,(fun p hp=>nomatch hp),h⟩
 | (b,o)::K,H,F,h=>by
  have h1:Split r w (K++H) (F.ins b o):=Split.freeze h
  obtain ⟨F',h2,h3,h4⟩:=Split.freezeL K h1
  refine ⟨F',(Split.ins_le h).trans h2,fun p hp=>?_,h4⟩
  rcases List.mem_cons.1 hp with rfl | hp
  ·exact h2 _ _ (by simp [Heap.ins])
  ·exact h3 p hp
def Bl (J:Nat→List Value→al→Fact) (l:Nat):Label Unit Unit Empty:={ ι:=Unit,sp:=fun _ _=>some (.err ()),J:=fun _ vs L=>J l vs L }
def GC (P:Program) (J:Nat→List Value→al→Fact) (q:Option Quiet) (m:T) (L:al) (Γ:List Fact):Prop :=
 SimAt P (I0:av Unit Unit) tU (fun (b:Empty) _ _=>b.elim) (fun l=>Bl J l) q m (some (.err ())) L Γ
theorem rx {P:Program} {m:T} {J:Nat→List Value→al→Fact} {L:al} {Γ:List Fact} {r:eZ} {w:World} {F:Heap} {Post:Nat→List Value→World→Prop} (h:GC P J none m L Γ) (hΓ:Holds Γ F) (hsp:Split r w L F)
  (hP:∀ i vs L' F' w',F.le F'→(J i vs L').p F'→Split r w' L' F'→Post i vs w'):m.wp P (fun _=>True) (fun i vs w'=>Post i vs w') (fun _ _=>False) w:=by
 refine T.wp_mono m ?_ ?_ (h r w F (.err ()) (fun _=>True) rfl hΓ hsp trivial)
 ·intro l vs w' ho
  obtain ⟨i,L',F',H',st',h1,h2,h3,h4,h5⟩:=ho
  have hH:H'=[]:=h4
  subst hH
  exact hP l vs L' F' w' h1 h3 h5
 ·rintro e w' ⟨F',h1,c,h2,h3,h4⟩
  exact h3
theorem wI {P:Program} {J:Nat→List Value→al→Fact} {q:Option Quiet} {l:Nat} {vs:List Value} {L:al} {Γ:List Fact} (h:∀ F,Holds Γ F→(J l vs L).p F):GC P J q (.out l vs) L Γ:=by
 have:=rU (P:=P) (I:=(I0:av Unit Unit)) (t:=tU) (Rel:=fun (b:Empty) _ _=>b.elim) (Δ:=fun l=>Bl J l) (q:=q) (L:=L) (Γ:=Γ) (vs:=vs) (l:=l) (run:=some (.err ())) (x:=Bl J l) (st:=()) (H:=[]) rfl () rfl h (fun _ _=>rfl)
 exact this
theorem Split.putObj {r:eZ} {w:World} {L1 L2:al} {F:Heap} {b:Nat} {o:Obj} (h:Split r w (L1++(b,o)::L2) F) (o':Obj):Split r (w.putObj b o') (L1++(b,o')::L2) F:=by
 have hp:∀ o:Obj,((b,o)::(L1++L2)).Perm (L1++(b,o)::L2):=fun o=>List.perm_middle.symm
 have hb:=h.own b _ (List.mem_append_right _ (List.mem_cons_self ..))
 refine ((h.perm (hp o)).write (w.putObj b o') o' (fun x=>?_) (by simp) rfl rfl rfl).perm (hp o').symm
 by_cases hx:x=b
 ·subst hx; rw [if_pos rfl]; exact World.putObj_heap_same (kY hb)
 ·rw [if_neg hx]; exact World.putObj_heap_other hx
end Go.Proofs.YtjlgcpgjdgeejaaGreatDoor
end

section
namespace Go.Proofs.YtjlgcpgjdgeejaaGreatDoor
open Go
set_option linter.unusedVariables false
structure dm where
 pos:Nat
 opn:List Bool
instance:DecidableEq dm:=fun a b=>decidable_of_iff (a.pos=b.pos∧a.opn=b.opn) ⟨fun ⟨h1,h2⟩=>by cases a; cases b; simp only at h1 h2; rw [h1,h2],fun h=>h▸⟨rfl,rfl⟩⟩
def dp (c:Int):Bool:=(decide (c≥97)&&decide (c≤122))||(decide (c≥65)&&decide (c≤90))||c==95||c==36
def cz (c:Int):Bool:=decide (c≥48)&&decide (c≤57)
def qO (s:ByteArray):Bool:=uR D9 (k_sp++s++k_sp)
def oI (b:ByteArray) (k:Nat) (x:ByteArray):Bool:=decide (k+x.size≤b.size)&&(b.extract k (k+x.size)).toList==x.toList
def nf (b:ByteArray):Nat→Nat→Option Nat
 | 0,_=>none
 | n+1,i=>if i < b.size then (if a7 b i != 10 then nf b n (i+1) else some i) else some i
def d6 (b:ByteArray):Nat→Nat→Option (Nat × Bool)
 | 0,_=>none
 | n+1,i =>
  if i < b.size then
   if decide (HQ iv (a7 b i)≥0) then d6 b n (i+1)
   else if oI b i pJ then (match nf b (b.size+1) i with
    | none=>none
    | some j=>d6 b n j)
   else if oI b i k_sl_star then
    if decide (rN (b.extract (i+2) b.size) ei < 0) then some (i,false)
    else if i+(rN (b.extract (i+2) b.size) ei+4).toNat≤b.size then d6 b n (i+(rN (b.extract (i+2) b.size) ei+4).toNat) else none
   else some (i,true)
  else some (i,true)
def dL (b:ByteArray) (kind:Int) (i j:Nat):Tok:=⟨kind,b.extract i j,i,j,()⟩
def iu (b:ByteArray):Nat→Nat→Option Nat
 | 0,_=>none
 | n+1,i=>if i < b.size then (if dp (a7 b i)||cz (a7 b i) then iu b n (i+1) else some i) else some i
def sq (b:ByteArray) (i:Nat):Option Tok:=match iu b (b.size+1) i with
 | none=>none
 | some j=>if i < j∧j≤b.size then some (dL b (if qO (b.extract i j) then 2 else 1) i j) else none
def ka (b:ByteArray):Nat→Nat→Int→Option (Nat × Int)
 | 0,_,_=>none
 | n+1,i,v=>if 0≤v∧v≤9007199254740992 then
   (if i < b.size∧cz (a7 b i)=true then ka b n (i+1) (if 9007199254740992 < v * 10+(a7 b i - 48) then 9007199254740992 else v * 10+(a7 b i - 48)) else some (i,v))
  else none
def ry (b:ByteArray) (i j:Nat) (v:Int):Bool:=decide (v > 9007199254740991)||((a7 b i==48)&&decide (j > i+1))||(decide (j < b.size)&&dp (a7 b j))
def m3 (b:ByteArray) (i:Nat):Option Tok:=match ka b (b.size+1) i 0 with
 | none=>none
 | some (j,v)=>if i < j∧j≤b.size then some (if ry b i j v then cf else dL b 3 i j) else none
def iN (k:Nat):ByteArray:=match k with
 | 0=>pL
 | 1=>pG
 | _=>pj
def fO (b:ByteArray) (i:Nat):Nat→Nat→Option (Option Tok)
 | 0,_=>none
 | f+1,k=>if k < 3 then
   if decide ((b.size:Int) - i < 3 - (k:Int)) then fO b i f (k+1)
   else if rS (b.extract i (i+(3 - k))) then
    if Ju (b.extract i (i+(3 - k))) iO then fO b i f (k+1)
    else if !uR (iN k) (k_sp++b.extract i (i+(3 - k))++k_sp) then fO b i f (k+1)
    else some (some (dL b 9 i (i+(3 - k))))
   else none
  else some none
def nZ (x:ByteArray) (o:List Bool):Option (List Bool) :=
 if x.toList==k_lc.toList then (if o.length < 1048576 then some (o++[false]) else none)
 else if x.toList==k_rc.toList then some (o.take (o.length - 1)) else some o
def sY (b:ByteArray) (st:dm):Option (Tok × dm):=match fO b st.pos 4 0 with
 | none=>none
 | some none=>some (cf,st)
 | some (some t)=>(nZ t.text st.opn).map fun o=>(t,{ st with opn:=o })
def de (b:ByteArray) (c:Int) (st:dm):Option (Tok × dm) :=
 if dp c then (sq b st.pos).map fun t=>(t,st)
 else if cz c then (m3 b st.pos).map fun t=>(t,st)
 else if (c==34)||(c==39) then none
 else if c==96 then none
 else if c==125&&st.opn.getLast?.getD false then none
 else sY b st
def G7 (b:ByteArray) (t:Tok) (st:dm):Option ((Tok × Bool) × dm) :=
 if t.kind==0 then some ((⟨0,kE,st.pos,0,()⟩,false),st)
 else if 0≤t.fin∧t.fin≤b.size then some ((t,true),{ st with pos:=t.fin.toNat }) else none
def sV (b:ByteArray) (st:dm):Option ((Tok × Bool) × dm):=match d6 b (b.size+1) st.pos with
 | none=>none
 | some (j,fine) =>
  if !fine then some ((⟨0,kE,j,0,()⟩,false),{ st with pos:=j })
  else if j=b.size then some ((⟨10,kE,j,j,()⟩,true),{ st with pos:=j })
  else match de b (a7 b j) { st with pos:=j } with
   | none=>none
   | some (t,st')=>G7 b t st'
def Ic {ε σ α:Type} (x:Option (α × σ)):Option (Res ε σ α):=x.map fun y=>.ok y.1 y.2
end Go.Proofs.YtjlgcpgjdgeejaaGreatDoor
end

section
namespace Go.Proofs.YtjlgcpgjdgeejaaGreatDoor
open Go
set_option linter.unusedVariables false
def fY {σ:Type} (yS:Tok→Int→Sp Empty σ Bool) (b:ByteArray):Nat→Nat→dm→Sp Empty σ Unit
 | 0,_,_,_=>none
 | f+1,n,s,st=>match sV b s with
  | none=>none
  | some ((t,ok),s') =>
   if !ok then (yS ⟨0,kE,t.pos,0,()⟩ 3>>=fun _=>Pure.pure ()) st
   else if n==8192&&t.kind != 10 then (yS ⟨0,kE,t.pos,0,()⟩ 4>>=fun _=>Pure.pure ()) st
   else (yS t 0>>=fun c=>if !c then Pure.pure () else if t.kind==10 then Pure.pure () else fY yS b f (n+1) s') st
def kD {σ:Type} (yS:Tok→Int→Sp Empty σ Bool) (b:ByteArray):Sp Empty σ Unit :=
 if b.size > 65536 then (yS cf 2>>=fun _=>Pure.pure ()) else fY yS b 8194 0 ⟨0,[]⟩
structure Lk where
 acc:List Tok
 fin:Option (Int × Int)
def hU (t:Tok) (e:Int):Sp Empty Lk Bool:=fun st =>
 if st.fin.isSome then none
 else if e != 0 then some (.ok false { st with fin:=some (t.pos,e) })
 else if st.acc.length≤65536 then some (.ok true { st with acc:=st.acc++[t] }) else none
def fZ (b:ByteArray):Option (Sum (Int × Int) (List Tok)):=match kD hU b ⟨[],none⟩ with
 | some (.ok () st)=>some (match st.fin with
  | some x=>.inl x
  | none=>.inr st.acc)
 | _=>none
end Go.Proofs.YtjlgcpgjdgeejaaGreatDoor
end

section
namespace Go.Proofs.YtjlgcpgjdgeejaaGreatDoor
open Go
set_option linter.unusedVariables false
set_option maxRecDepth 100000
noncomputable section
def wn:An :=
 .s (.r [none]) (.s (.b (.s (.r [none,some (.c (.agg [.int .i64,.str,.int .i64,.int .i64])),none,none,none]) (.c (.s (.r [none,some (.c (.agg [.int .i64,.str,.int .i64,.int .i64])),some tB,none]) (.x)) (.s (.r [none,some tB,none]) (.c (.s (.r [none,some (.c (.agg [.int .i64,.str,.int .i64,.int .i64])),some tB,none]) (.x)) (.x)))))) (.s (.r [none,some tB,none]) (.x)))
def kA (a0_p:Addr):T :=
 .op (aa aH #[.pointer (some a0_p)]) (.c (.agg [.int .i64,.str,.int .i64,.int .i64])) fun r1 =>
 .ite ((r1.1:Int)==1) (
 .op (aa dl #[.pointer (some a0_p),.int .i64 1]) (.c (.agg [.int .i64,.str,.int .i64,.int .i64])) fun r2 =>
 .op (aa cQ #[.agg #[.int .i64 r2.1,.string r2.2.1,.int .i64 r2.2.2.1,.int .i64 r2.2.2.2.1],.string gH]) tB fun r3 =>
 .ret #[.v (.bool r3)]) (
 .op (aa bg #[.pointer (some a0_p),.string k_lp]) tB fun r4 =>
 .ite r4 (
 .op (aa gR #[.pointer (some a0_p)]) (.c (.agg [.int .i64,.str,.int .i64,.int .i64])) fun r5 =>
 .op (aa cQ #[.agg #[.int .i64 r5.1,.string r5.2.1,.int .i64 r5.2.2.1,.int .i64 r5.2.2.2.1],.string gH]) tB fun r6 =>
 .ret #[.v (.bool r6)]) (
 .op (aa bg #[.pointer (some a0_p),.string jh]) tB fun r7 =>
 .ret #[.v (.bool r7)]))
theorem xW (a0_p:Addr):bh Tryz.prog Tryz.f141 wn [.pointer (some a0_p)]=kA a0_p:=by kernel_rfl
theorem xM {ε σ β:Type} {I:av ε σ} {t:Ty} {s:Sp ε σ β} {Rel:β→t.den→al→Fact} {Γ:List Fact} (a0_p:Addr) (h:Sim Tryz.prog I t Rel noLabel none (kA a0_p) s [] Γ):MeetsO Tryz.prog I (aa kS #[.pointer (some a0_p)]) t s Rel Γ :=
 aj (args:=[.pointer (some a0_p)]) Tryz.func141 rfl rfl (Nat.le_of_ble_eq_true rfl) (by rw [xW]; exact h)
def wO:An :=
 .s (.r [none]) (.s (.r [none,some (.c (.agg [.int .i64,.str,.int .i64,.int .i64])),none,none]) (.s (.s (.r [none,some tB]) (.c (.s (.r [none,none,some tP,none]) (.x)) (.x))) (.s (.r [none,some tP,none]) (.s (.s (.r [none,some (.c (.agg [.int .i64,.str,.int .i64,.int .i64])),none,none]) (.b (.s (.s (.r [none,some tB,none]) (.j [(19,.b .bool)] (.c (.x) (.s (.r [none,some tB,none]) (.c (.x) (.s (.r [none,some tB,none]) (.c (.x) (.s (.r [none,some tB,none]) (.c (.x) (.r [none,some tB,none])))))))))) (.c (.s (.s (.j [(51,.b .bool)] (.r [none,some tA,none,none,some tI,none,none,none,some tA,none,none,some tI,none,none,none,none,some tA,none,none,some tI,none,none])) (.c (.r [none,some tU]) (.x))) (.s (.r [none,none,none,none,some tP,some ah,some tP,none]) (.x))) (.x))))) (.s (.r [none,none]) (.x))))))
def mM (a0_p:Addr):T :=
 .op (aa aH #[.pointer (some a0_p)]) (.c (.agg [.int .i64,.str,.int .i64,.int .i64])) fun r1 =>
 .op (aa kS #[.pointer (some a0_p)]) tB fun r2 =>
 .ite r2 (
 .op (aa js #[.pointer (some a0_p),.int .i64 r1.2.2.1]) tP fun r3 =>
 .ret #[.v (.pointer r3)]) (
 .op (aa mI #[.pointer (some a0_p)]) tP fun r4 =>
 .op (aa aH #[.pointer (some a0_p)]) (.c (.agg [.int .i64,.str,.int .i64,.int .i64])) fun r5 =>
 .op (aa ax #[.pointer (some a0_p),.string oC]) tB fun r6 =>
 .join 0 [.b .bool] (
 .ite r6 (
 .out 0 [.bool true]) (
 .op (aa ax #[.pointer (some a0_p),.string yV]) tB fun r7 =>
 .ite r7 (
 .out 0 [.bool true]) (
 .op (aa ax #[.pointer (some a0_p),.string wm]) tB fun r8 =>
 .ite r8 (
 .out 0 [.bool true]) (
 .op (aa ax #[.pointer (some a0_p),.string yT]) tB fun r9 =>
 .ite r9 (
 .out 0 [.bool true]) (
 .op (aa ax #[.pointer (some a0_p),.string BA]) tB fun r10 =>
 .out 0 [.bool r10]))))) fun x11 =>
 .ite x11.1 (
 .join 0 [.b .bool] (
 .op (bV (.pointer r4)) tA fun r12 =>
 .op (ai ak (.pointer (some r12))) tI fun r13 =>
 .ite ((r13:Int) != 17) (
 .op (bV (.pointer r4)) tA fun r14 =>
 .op (ai ak (.pointer (some r14))) tI fun r15 =>
 .ite ((r15:Int) != 29) (
 .op (bV (.pointer r4)) tA fun r16 =>
 .op (ai ak (.pointer (some r16))) tI fun r17 =>
 .out 0 [.bool ((r17:Int) != 30)]) (
 .out 0 [.bool false])) (
 .out 0 [.bool false])) fun x18 =>
 .ite x18.1 (
 .op (aa cy #[.pointer (some a0_p)]) tU fun _ =>
 .op (aa bL #[.pointer (some a0_p)]) tP fun r20 =>
 .op (ar ad 2 #[(0,.pointer r4),(1,.pointer r20)]) ah fun r21 =>
 .op (aa am #[.int .i64 26,.string r5.2.1,.int .i64 0,.int .i64 r1.2.2.1,.slice r21.1 r21.2.1 r21.2.2]) tP fun r22 =>
 .ret #[.v (.pointer r22)]) (
 .op (aa bL #[.pointer (some a0_p)]) tP fun r23 =>
 .op (ar ad 2 #[(0,.pointer r4),(1,.pointer r23)]) ah fun r24 =>
 .op (aa am #[.int .i64 26,.string r5.2.1,.int .i64 0,.int .i64 r1.2.2.1,.slice r24.1 r24.2.1 r24.2.2]) tP fun r25 =>
 .ret #[.v (.pointer r25)])) (
 .ret #[.v (.pointer r4)]))
theorem AH (a0_p:Addr):bh Tryz.prog Tryz.f87 wO [.pointer (some a0_p)]=mM a0_p:=by kernel_rfl
theorem AA {ε σ β:Type} {I:av ε σ} {t:Ty} {s:Sp ε σ β} {Rel:β→t.den→al→Fact} {Γ:List Fact} (a0_p:Addr) (h:Sim Tryz.prog I t Rel noLabel none (mM a0_p) s [] Γ):MeetsO Tryz.prog I (aa bL #[.pointer (some a0_p)]) t s Rel Γ :=
 aj (args:=[.pointer (some a0_p)]) Tryz.func87 rfl rfl (Nat.le_of_ble_eq_true rfl) (by rw [AH]; exact h)
def tk:An :=
 .s (.r [none]) (.s (.r [none,some tP,none,some tP,none,none]) (.s (.s (.r [none,some (.c (.agg [.int .i64,.str,.int .i64,.int .i64])),none,none]) (.j [(5,.b .ptr),(6,.b .ptr)] (.c (.s (.r [none,some tS,none]) (.r [none,none,none,none,some tP,some ah,some tP,some ah,some tA,none,some tU])) (.s (.r [none,some tP,none]) (.s (.r [none,some tU]) (.s (.r [none,some tP,none]) (.r [none,some tU]))))))) (.s (.r [none,some tU]) (.s (.s (.r [none,some tB]) (.c (.s (.r [none,none,none,none,some tP,some ah,some tP,none]) (.x)) (.x))) (.s (.r [none,none,none,none,some tP,some ah,some tP,none]) (.x))))))
def jo (a0_p:Addr) (a1_at:Int):T :=
 .op (aa cx #[.pointer (some a0_p)]) tP fun r1 =>
 .op (aa cx #[.pointer (some a0_p)]) tP fun r2 =>
 .op (aa aH #[.pointer (some a0_p)]) (.c (.agg [.int .i64,.str,.int .i64,.int .i64])) fun r3 =>
 .join 0 [.b .ptr,.b .ptr] (
 .ite ((r3.1:Int)==1) (
 .op (aa bu #[.pointer (some a0_p)]) tS fun r4 =>
 .op (aa cE #[.pointer (some a0_p)]) tP fun r5 =>
 .op (ar ad 1 #[(0,.pointer r5)]) ah fun r6 =>
 .op (aa am #[.int .i64 66,.string r4,.int .i64 0,.int .i64 a1_at,.slice r6.1 r6.2.1 r6.2.2]) tP fun r7 =>
 .op (ar ad 1 #[(0,.pointer r7)]) ah fun r8 =>
 .op (bV (.pointer r2)) tA fun r9 =>
 .op (aW ad (.pointer (some ⟨r9.block,r9.off+5,none⟩)) (.slice r8.1 r8.2.1 r8.2.2)) tU fun _ =>
 .out 0 [.pointer r1,.pointer r2]) (
 .op (aa eA #[.pointer (some a0_p)]) tP fun r11 =>
 .op (aa aB #[.pointer (some a0_p),.string k_lp]) tU fun _ =>
 .op (aa dQ #[.pointer (some a0_p),.bool false]) tP fun r13 =>
 .op (aa aB #[.pointer (some a0_p),.string k_rp]) tU fun _ =>
 .out 0 [.pointer r11,.pointer r13])) fun x15 =>
 .op (aa aB #[.pointer (some a0_p),.string gH]) tU fun _ =>
 .op (aa bg #[.pointer (some a0_p),.string k_lc]) tB fun r17 =>
 .ite r17 (
 .op (aa cl #[.pointer (some a0_p)]) tP fun r18 =>
 .op (ar ad 3 #[(0,.pointer x15.1),(1,.pointer x15.2.1),(2,.pointer r18)]) ah fun r19 =>
 .op (aa am #[.int .i64 22,.string kE,.int .i64 0,.int .i64 a1_at,.slice r19.1 r19.2.1 r19.2.2]) tP fun r20 =>
 .ret #[.v (.pointer r20)]) (
 .op (aa bL #[.pointer (some a0_p)]) tP fun r21 =>
 .op (ar ad 3 #[(0,.pointer x15.1),(1,.pointer x15.2.1),(2,.pointer r21)]) ah fun r22 =>
 .op (aa am #[.int .i64 22,.string kE,.int .i64 0,.int .i64 a1_at,.slice r22.1 r22.2.1 r22.2.2]) tP fun r23 =>
 .ret #[.v (.pointer r23)])
theorem tT (a0_p:Addr) (a1_at:Int):bh Tryz.prog Tryz.f142 tk [.pointer (some a0_p),.int .i64 a1_at]=jo a0_p a1_at:=by kernel_rfl
theorem up {ε σ β:Type} {I:av ε σ} {t:Ty} {s:Sp ε σ β} {Rel:β→t.den→al→Fact} {Γ:List Fact} (a0_p:Addr) (a1_at:Int) (h:Sim Tryz.prog I t Rel noLabel none (jo a0_p a1_at) s [] Γ):MeetsO Tryz.prog I (aa js #[.pointer (some a0_p),.int .i64 a1_at]) t s Rel Γ :=
 aj (args:=[.pointer (some a0_p),.int .i64 a1_at]) Tryz.func142 rfl rfl (Nat.le_of_ble_eq_true rfl) (by rw [tT]; exact h)
def xh:An :=
 .s (.r [none]) (.s (.r [none,some (.c (.agg [.int .i64,.str,.int .i64,.int .i64])),none,none]) (.s (.r [none,some tP,none]) (.s (.s (.r [none,some tB,none]) (.c (.s (.r [none,none]) (.x)) (.x))) (.s (.r [none,some tP,none]) (.s (.r [none,some tU]) (.s (.r [none,none,none,none,some tP,some ah,some tP,none]) (.x)))))))
def lP (a0_p:Addr):T :=
 .op (aa aH #[.pointer (some a0_p)]) (.c (.agg [.int .i64,.str,.int .i64,.int .i64])) fun r1 =>
 .op (aa dq #[.pointer (some a0_p),.int .i64 0]) tP fun r2 =>
 .op (aa ax #[.pointer (some a0_p),.string nc]) tB fun r3 =>
 .ite (!r3) (
 .ret #[.v (.pointer r2)]) (
 .op (aa bL #[.pointer (some a0_p)]) tP fun r4 =>
 .op (aa aB #[.pointer (some a0_p),.string gK]) tU fun _ =>
 .op (aa bL #[.pointer (some a0_p)]) tP fun r6 =>
 .op (ar ad 3 #[(0,.pointer r2),(1,.pointer r4),(2,.pointer r6)]) ah fun r7 =>
 .op (aa am #[.int .i64 25,.string kE,.int .i64 0,.int .i64 r1.2.2.1,.slice r7.1 r7.2.1 r7.2.2]) tP fun r8 =>
 .ret #[.v (.pointer r8)])
theorem zf (a0_p:Addr):bh Tryz.prog Tryz.f143 xh [.pointer (some a0_p)]=lP a0_p:=by kernel_rfl
theorem zv {ε σ β:Type} {I:av ε σ} {t:Ty} {s:Sp ε σ β} {Rel:β→t.den→al→Fact} {Γ:List Fact} (a0_p:Addr) (h:Sim Tryz.prog I t Rel noLabel none (lP a0_p) s [] Γ):MeetsO Tryz.prog I (aa mI #[.pointer (some a0_p)]) t s Rel Γ :=
 aj (args:=[.pointer (some a0_p)]) Tryz.func143 rfl rfl (Nat.le_of_ble_eq_true rfl) (by rw [zf]; exact h)
def vQ:An :=
 .s (.r [none]) (.s (.r [some ah,some ah,some ah,some ah,some ah,some ah,some ah,some ah,some ah,some ah,some ah,none]) (.s (.s (.r [none,none,none,none]) (.c (.s (.r [none]) (.x)) (.x))) (.s (.r [none,none,some tA,some ah,none]) (.x))))
def kZ (a0_level:Int):T :=
 .op (ar cO 1 #[(0,.string lJ)]) ah fun r1 =>
 .op (ar cO 1 #[(0,.string lE)]) ah fun r2 =>
 .op (ar cO 1 #[(0,.string j8)]) ah fun r3 =>
 .op (ar cO 1 #[(0,.string pw)]) ah fun r4 =>
 .op (ar cO 1 #[(0,.string uZ)]) ah fun r5 =>
 .op (ar cO 2 #[(0,.string j2),(1,.string ia)]) ah fun r6 =>
 .op (ar cO 6 #[(0,.string jh),(1,.string pE),(2,.string k_gt),(3,.string p5),(4,.string FR),(5,.string kas)]) ah fun r7 =>
 .op (ar cO 3 #[(0,.string pB),(1,.string pd),(2,.string j3)]) ah fun r8 =>
 .op (ar cO 2 #[(0,.string rm),(1,.string ix)]) ah fun r9 =>
 .op (ar cO 2 #[(0,.string ru),(1,.string wA)]) ah fun r10 =>
 .op (ar qJ 10 #[(0,.slice r1.1 r1.2.1 r1.2.2),(1,.slice r2.1 r2.2.1 r2.2.2),(2,.slice r3.1 r3.2.1 r3.2.2),(3,.slice r4.1 r4.2.1 r4.2.2),(4,.slice r5.1 r5.2.1 r5.2.2),(5,.slice r6.1 r6.2.1 r6.2.2),(6,.slice r7.1 r7.2.1 r7.2.2),(7,.slice r8.1 r8.2.1 r8.2.2),(8,.slice r9.1 r9.2.1 r9.2.2),(9,.slice r10.1 r10.2.1 r10.2.2)]) ah fun r11 =>
 .ite ((a0_level:Int)==(r11.2.1:Int)) (
 .ret #[.v (.slice none 0 0)]) (
 .op (aR qJ (.slice r11.1 r11.2.1 r11.2.2) (.int .i64 a0_level)) tA fun r12 =>
 .op (ai cO (.pointer (some r12))) ah fun r13 =>
 .ret #[.v (.slice r13.1 r13.2.1 r13.2.2)])
theorem yn (a0_level:Int):bh Tryz.prog Tryz.f223 vQ [.int .i64 a0_level]=kZ a0_level:=by kernel_rfl
theorem wF {ε σ β:Type} {I:av ε σ} {t:Ty} {s:Sp ε σ β} {Rel:β→t.den→al→Fact} {Γ:List Fact} (a0_level:Int) (h:Sim Tryz.prog I t Rel noLabel none (kZ a0_level) s [] Γ):MeetsO Tryz.prog I (aa kz #[.int .i64 a0_level]) t s Rel Γ :=
 aj (args:=[.int .i64 a0_level]) Tryz.func223 rfl rfl (Nat.le_of_ble_eq_true rfl) (by rw [yn]; exact h)
def vC:An :=
 .s (.r [none]) (.sc 0 [(5,.b .slice),(6,.b (.int .i64)),(7,.b .ptr)] (.s (.r [none,some ah,none]) (.s (.s (.r [none,some tB]) (.c (.s (.r [none,some tP,none]) (.x)) (.x))) (.s (.r [none,some (.c (.agg [.int .i64,.str,.int .i64,.int .i64])),none,none]) (.s (.r [none,none,none,some tP,none]) (.s (.x) (.s (.s (.r [none,none,none]) (.b (.l [(7,.b .ptr),(25,.b (.int .i64))] (.s (.r [none]) (.s (.c (.x) (.x)) (.s (.b (.s (.r [some tA,some tS,none]) (.s (.b (.s (.r [none,none,some tB,none,none]) (.c (.x) (.s (.r [none,none,none]) (.c (.r [none,none,none,some tP,some ah,some tP,none]) (.r [none,none,none,none,none,none,some tP,some ah,some tP,none])))))) (.x)))) (.r [none,none]))))))) (.s (.r [none,none]) (.x)))))))) (.s (.r [none,some ah,none]) (.s (.s (.r [none,some tB]) (.c (.s (.r [none,some tP,none]) (.x)) (.x))) (.s (.r [none,some (.c (.agg [.int .i64,.str,.int .i64,.int .i64])),none,none]) (.s (.r [none,none,none,some tP,none]) (.s (.x) (.s (.s (.r [none,none,none]) (.b (.l [(7,.b .ptr),(25,.b (.int .i64))] (.s (.r [none]) (.s (.c (.x) (.x)) (.s (.b (.s (.r [some tA,some tS,none]) (.s (.b (.s (.r [none,none,some tB,none,none]) (.c (.x) (.s (.r [none,none,none]) (.c (.r [none,none,none,some tP,some ah,some tP,none]) (.r [none,none,none,none,none,none,some tP,some ah,some tP,none])))))) (.x)))) (.r [none,none]))))))) (.s (.r [none,none]) (.x)))))))))
def it (a0_p:Addr) (a1_n:Int):T :=
 .join 0 [.b .slice,.b (.int .i64),.b .ptr] (
 .op (aa kz #[.int .i64 a1_n]) ah fun r1 =>
 .op (bT .eql cO (.slice r1.1 r1.2.1 r1.2.2) (.slice none 0 0)) tB fun r2 =>
 .ite r2 (
 .op (aa fW #[.pointer (some a0_p)]) tP fun r3 =>
 .ret #[.v (.pointer r3)]) (
 .op (aa aH #[.pointer (some a0_p)]) (.c (.agg [.int .i64,.str,.int .i64,.int .i64])) fun r4 =>
 .op (aa dq #[.pointer (some a0_p),.int .i64 (IntKind.i64.wrap (a1_n+1))]) tP fun r5 =>
 .loop 1 [.b .ptr,.b (.int .i64)] [.pointer r5,.int .i64 0] fun x6 =>
 .ite (decide ((x6.2.1:Int) < (r1.2.1:Int))) (
 .op (aR cO (.slice r1.1 r1.2.1 r1.2.2) (.int .i64 x6.2.1)) tA fun r7 =>
 .op (ai aF (.pointer (some r7))) tS fun r8 =>
 .op (aa ax #[.pointer (some a0_p),.string r8]) tB fun r9 =>
 .ite (!r9) (
 .out 1 [.pointer x6.1,.int .i64 (IntKind.i64.wrap (x6.2.1+1))]) (
 .ite (r8.toList==kas.toList) (
 .op (aa ck #[.pointer (some a0_p)]) tP fun r10 =>
 .op (ar ad 2 #[(0,.pointer x6.1),(1,.pointer r10)]) ah fun r11 =>
 .op (aa am #[.int .i64 33,.string kE,.int .i64 0,.int .i64 r4.2.2.1,.slice r11.1 r11.2.1 r11.2.2]) tP fun r12 =>
 .out 0 [.slice r1.1 r1.2.1 r1.2.2,.int .i64 r4.2.2.1,.pointer r12]) (
 .op (aa dq #[.pointer (some a0_p),.int .i64 (IntKind.i64.wrap (a1_n+1))]) tP fun r13 =>
 .op (ar ad 2 #[(0,.pointer x6.1),(1,.pointer r13)]) ah fun r14 =>
 .op (aa am #[.int .i64 24,.string r8,.int .i64 0,.int .i64 r4.2.2.1,.slice r14.1 r14.2.1 r14.2.2]) tP fun r15 =>
 .out 0 [.slice r1.1 r1.2.1 r1.2.2,.int .i64 r4.2.2.1,.pointer r15]))) (
 .ret #[.v (.pointer x6.1)]))) fun x16 =>
 .loop 0 [.b .slice,.b (.int .i64),.b .ptr] [.slice x16.1.1 x16.1.2.1 x16.1.2.2,.int .i64 x16.2.1,.pointer x16.2.2.1] fun y17 =>
 .loop 1 [.b .ptr,.b (.int .i64)] [.pointer y17.2.2.1,.int .i64 0] fun x18 =>
 .ite (decide ((x18.2.1:Int) < (y17.1.2.1:Int))) (
 .op (aR cO (.slice y17.1.1 y17.1.2.1 y17.1.2.2) (.int .i64 x18.2.1)) tA fun r19 =>
 .op (ai aF (.pointer (some r19))) tS fun r20 =>
 .op (aa ax #[.pointer (some a0_p),.string r20]) tB fun r21 =>
 .ite (!r21) (
 .out 1 [.pointer x18.1,.int .i64 (IntKind.i64.wrap (x18.2.1+1))]) (
 .ite (r20.toList==kas.toList) (
 .op (aa ck #[.pointer (some a0_p)]) tP fun r22 =>
 .op (ar ad 2 #[(0,.pointer x18.1),(1,.pointer r22)]) ah fun r23 =>
 .op (aa am #[.int .i64 33,.string kE,.int .i64 0,.int .i64 y17.2.1,.slice r23.1 r23.2.1 r23.2.2]) tP fun r24 =>
 .out 0 [.slice y17.1.1 y17.1.2.1 y17.1.2.2,.int .i64 y17.2.1,.pointer r24]) (
 .op (aa dq #[.pointer (some a0_p),.int .i64 (IntKind.i64.wrap (a1_n+1))]) tP fun r25 =>
 .op (ar ad 2 #[(0,.pointer x18.1),(1,.pointer r25)]) ah fun r26 =>
 .op (aa am #[.int .i64 24,.string r20,.int .i64 0,.int .i64 y17.2.1,.slice r26.1 r26.2.1 r26.2.2]) tP fun r27 =>
 .out 0 [.slice y17.1.1 y17.1.2.1 y17.1.2.2,.int .i64 y17.2.1,.pointer r27]))) (
 .ret #[.v (.pointer x18.1)])
theorem yh (a0_p:Addr) (a1_n:Int):bh Tryz.prog Tryz.f193 vC [.pointer (some a0_p),.int .i64 a1_n]=it a0_p a1_n:=by kernel_rfl
theorem o9 {ε σ β:Type} {I:av ε σ} {t:Ty} {s:Sp ε σ β} {Rel:β→t.den→al→Fact} {Γ:List Fact} (a0_p:Addr) (a1_n:Int) (h:Sim Tryz.prog I t Rel noLabel none (it a0_p a1_n) s [] Γ):MeetsO Tryz.prog I (aa dq #[.pointer (some a0_p),.int .i64 a1_n]) t s Rel Γ :=
 aj (args:=[.pointer (some a0_p),.int .i64 a1_n]) Tryz.func193 rfl rfl (Nat.le_of_ble_eq_true rfl) (by rw [yh]; exact h)
def wf:An :=
 .s (.r [none]) (.s (.r [none,some (.c (.agg [.int .i64,.str,.int .i64,.int .i64])),some tA,some tU]) (.s (.b (.s (.s (.r [none,some tB,none]) (.j [(6,.b .bool)] (.c (.x) (.s (.r [none,some tB,none]) (.c (.x) (.s (.r [none,some tB,none]) (.c (.x) (.r [none,some tB,none])))))))) (.c (.s (.d (.q 0 none (.q 1 (some tS) (.q 2 none (.q 3 (some tI) (.q 4 none (.l 5 (some tP) (.l 6 (some ah) (.l 7 (some tP) (.q 8 none (.e))))))))))) (.x)) (.x)))) (.s (.r [none,some tP,none]) (.x))))
def lh (a0_p:Addr):T :=
 .op (aa aH #[.pointer (some a0_p)]) (.c (.agg [.int .i64,.str,.int .i64,.int .i64])) fun r1 =>
 .op (bj ae) tA fun r2 =>
 .op (aW ae (.pointer (some r2)) (.agg #[.int .i64 r1.1,.string r1.2.1,.int .i64 r1.2.2.1,.int .i64 r1.2.2.2.1])) tU fun _ =>
 .op (aa ax #[.pointer (some a0_p),.string vJ]) tB fun r4 =>
 .join 0 [.b .bool] (
 .ite r4 (
 .out 0 [.bool true]) (
 .op (aa ax #[.pointer (some a0_p),.string ix]) tB fun r5 =>
 .ite r5 (
 .out 0 [.bool true]) (
 .op (aa ax #[.pointer (some a0_p),.string DP]) tB fun r6 =>
 .ite r6 (
 .out 0 [.bool true]) (
 .op (aa ax #[.pointer (some a0_p),.string D1]) tB fun r7 =>
 .out 0 [.bool r7])))) fun x8 =>
 .ite x8.1 (
 .draw <|
 .opq (ai aF (.pointer (some ⟨r2.block,r2.off+1,none⟩))) tS fun r9 =>
 .opq (ai ak (.pointer (some ⟨r2.block,r2.off+2,none⟩))) tI fun r10 =>
 .opl (aa fW #[.pointer (some a0_p)]) tP fun r11 =>
 .opl (ar ad 1 #[(0,.pointer r11)]) ah fun r12 =>
 .opl (aa am #[.int .i64 23,.string r9,.int .i64 0,.int .i64 r10,.slice r12.1 r12.2.1 r12.2.2]) tP fun r13 =>
 .ret #[.v (.pointer r13)]) (
 .op (aa jp #[.pointer (some a0_p)]) tP fun r14 =>
 .ret #[.v (.pointer r14)])
theorem xg (a0_p:Addr):bh Tryz.prog Tryz.f224 wf [.pointer (some a0_p)]=lh a0_p:=by kernel_rfl
theorem xx {ε σ β:Type} {I:av ε σ} {t:Ty} {s:Sp ε σ β} {Rel:β→t.den→al→Fact} {Γ:List Fact} (a0_p:Addr) (h:Sim Tryz.prog I t Rel noLabel none (lh a0_p) s [] Γ):MeetsO Tryz.prog I (aa fW #[.pointer (some a0_p)]) t s Rel Γ :=
 aj (args:=[.pointer (some a0_p)]) Tryz.func224 rfl rfl (Nat.le_of_ble_eq_true rfl) (by rw [xg]; exact h)
def uS:An :=
 .s (.r [none]) (.s (.r [none,some tU]) (.s (.r [none,some tP,none]) (.s (.s (.r [none,some tB,none]) (.c (.r [none,none,none,some tP,none]) (.x))) (.s (.r [none,some tU]) (.s (.r [none,none]) (.x))))))
def kV (a0_p:Addr):T :=
 .op (aa aB #[.pointer (some a0_p),.string k_lp]) tU fun _ =>
 .op (aa cx #[.pointer (some a0_p)]) tP fun r2 =>
 .op (aa bg #[.pointer (some a0_p),.string k_rp]) tB fun r3 =>
 .ite (!r3) (
 .op (aa dX #[.pointer (some a0_p),.func (.func bL) #[.pointer (some a0_p)] #[]]) tP fun r4 =>
 .op (aa aB #[.pointer (some a0_p),.string k_rp]) tU fun _ =>
 .ret #[.v (.pointer r4)]) (
 .op (aa aB #[.pointer (some a0_p),.string k_rp]) tU fun _ =>
 .ret #[.v (.pointer r2)])
theorem xz (a0_p:Addr):bh Tryz.prog Tryz.f259 uS [.pointer (some a0_p)]=kV a0_p:=by kernel_rfl
theorem ye {ε σ β:Type} {I:av ε σ} {t:Ty} {s:Sp ε σ β} {Rel:β→t.den→al→Fact} {Γ:List Fact} (a0_p:Addr) (h:Sim Tryz.prog I t Rel noLabel none (kV a0_p) s [] Γ):MeetsO Tryz.prog I (aa f7 #[.pointer (some a0_p)]) t s Rel Γ :=
 aj (args:=[.pointer (some a0_p)]) Tryz.func259 rfl rfl (Nat.le_of_ble_eq_true rfl) (by rw [xz]; exact h)
def ta:An :=
 .s (.r [none]) (.b (.s (.r [none,some (.c (.agg [.int .i64,.str,.int .i64,.int .i64])),none,none]) (.s (.r [none,some tP,none]) (.s (.x) (.s (.b (.l [(4,.b .ptr)] (.b (.b (.s (.r [none,some tB,none]) (.c (.r [none,some tS,none,none,some ah,some tP,none]) (.s (.r [none,some tB,none]) (.c (.s (.r [none,some tP,none]) (.s (.r [none,some tU]) (.r [none,none,none,some ah,some tP,none]))) (.s (.s (.r [none,some tB,none]) (.j [(33,.b .bool)] (.c (.x) (.r [none,some tB,none,none,some tB,none,none])))) (.c (.s (.r [none,some tP,none]) (.r [none,none,none,none,some tP,some ah,some tP,none])) (.s (.r [none,some tB,none]) (.c (.r [none,none,some ah,some tP,none]) (.x))))))))))))) (.s (.r [none,none]) (.x)))))))
def jq (a0_p:Addr):T :=
 .op (aa aH #[.pointer (some a0_p)]) (.c (.agg [.int .i64,.str,.int .i64,.int .i64])) fun r1 =>
 .op (aa jk #[.pointer (some a0_p)]) tP fun r2 =>
 .loop 0 [.b .ptr] [.pointer r2] fun x3 =>
 .op (aa ax #[.pointer (some a0_p),.string k_dot]) tB fun r4 =>
 .ite r4 (
 .op (aa bu #[.pointer (some a0_p)]) tS fun r5 =>
 .op (ar ad 1 #[(0,.pointer x3.1)]) ah fun r6 =>
 .op (aa am #[.int .i64 29,.string r5,.int .i64 0,.int .i64 r1.2.2.1,.slice r6.1 r6.2.1 r6.2.2]) tP fun r7 =>
 .out 0 [.pointer r7]) (
 .op (aa ax #[.pointer (some a0_p),.string k_lb]) tB fun r8 =>
 .ite r8 (
 .op (aa bL #[.pointer (some a0_p)]) tP fun r9 =>
 .op (aa aB #[.pointer (some a0_p),.string k_rb]) tU fun _ =>
 .op (ar ad 2 #[(0,.pointer x3.1),(1,.pointer r9)]) ah fun r11 =>
 .op (aa am #[.int .i64 30,.string kE,.int .i64 0,.int .i64 r1.2.2.1,.slice r11.1 r11.2.1 r11.2.2]) tP fun r12 =>
 .out 0 [.pointer r12]) (
 .op (aa bg #[.pointer (some a0_p),.string k_lp]) tB fun r13 =>
 .join 1 [.b .bool] (
 .ite r13 (
 .out 1 [.bool true]) (
 .op (aa bg #[.pointer (some a0_p),.string jh]) tB fun r14 =>
 .ite r14 (
 .op (aa k9 #[.pointer (some a0_p)]) tB fun r15 =>
 .out 1 [.bool r15]) (
 .out 1 [.bool false]))) fun x16 =>
 .ite x16.1 (
 .op (aa eu #[.pointer (some a0_p)]) tP fun r17 =>
 .op (aa f7 #[.pointer (some a0_p)]) tP fun r18 =>
 .op (ar ad 3 #[(0,.pointer x3.1),(1,.pointer r17),(2,.pointer r18)]) ah fun r19 =>
 .op (aa am #[.int .i64 27,.string kE,.int .i64 0,.int .i64 r1.2.2.1,.slice r19.1 r19.2.1 r19.2.2]) tP fun r20 =>
 .out 0 [.pointer r20]) (
 .op (aa ax #[.pointer (some a0_p),.string vJ]) tB fun r21 =>
 .ite r21 (
 .op (ar ad 1 #[(0,.pointer x3.1)]) ah fun r22 =>
 .op (aa am #[.int .i64 34,.string kE,.int .i64 0,.int .i64 r1.2.2.1,.slice r22.1 r22.2.1 r22.2.2]) tP fun r23 =>
 .out 0 [.pointer r23]) (
 .ret #[.v (.pointer x3.1)]))))
theorem um (a0_p:Addr):bh Tryz.prog Tryz.f244 ta [.pointer (some a0_p)]=jq a0_p:=by kernel_rfl
theorem uf {ε σ β:Type} {I:av ε σ} {t:Ty} {s:Sp ε σ β} {Rel:β→t.den→al→Fact} {Γ:List Fact} (a0_p:Addr) (h:Sim Tryz.prog I t Rel noLabel none (jq a0_p) s [] Γ):MeetsO Tryz.prog I (aa jp #[.pointer (some a0_p)]) t s Rel Γ :=
 aj (args:=[.pointer (some a0_p)]) Tryz.func244 rfl rfl (Nat.le_of_ble_eq_true rfl) (by rw [um]; exact h)
def vf:An :=
 .s (.r [none]) (.s (.s (.r [none]) (.b (.s (.r [none,none]) (.c (.s (.r [none]) (.x)) (.s (.r [none,none]) (.c (.s (.r [none]) (.x)) (.s (.r [none,none]) (.c (.s (.r [none]) (.x)) (.s (.r [none,none]) (.c (.s (.r [none]) (.x)) (.s (.r [none,none]) (.c (.s (.r [none]) (.x)) (.x))))))))))))) (.s (.r [none]) (.x)))
def k4 (a0_s:ByteArray):T :=
 .ite (a0_s.toList==ktrue.toList) (
 .ret #[.v (.int .i64 13)]) (
 .ite (a0_s.toList==kfalse.toList) (
 .ret #[.v (.int .i64 14)]) (
 .ite (a0_s.toList==knull.toList) (
 .ret #[.v (.int .i64 15)]) (
 .ite (a0_s.toList==kundefined.toList) (
 .ret #[.v (.int .i64 16)]) (
 .ite (a0_s.toList==kthis.toList) (
 .ret #[.v (.int .i64 18)]) (
 .ret #[.v (.int .i64 0)])))))
theorem wY (a0_s:ByteArray):bh Tryz.prog Tryz.f272 vf [.string a0_s]=k4 a0_s:=by kernel_rfl
theorem wC {ε σ β:Type} {I:av ε σ} {t:Ty} {s:Sp ε σ β} {Rel:β→t.den→al→Fact} {Γ:List Fact} (a0_s:ByteArray) (h:Sim Tryz.prog I t Rel noLabel none (k4 a0_s) s [] Γ):MeetsO Tryz.prog I (aa iw #[.string a0_s]) t s Rel Γ :=
 aj (args:=[.string a0_s]) Tryz.func272 rfl rfl (Nat.le_of_ble_eq_true rfl) (by rw [wY]; exact h)
def ti:An :=
 .s (.r [none]) (.s (.r [none,some (.c (.agg [.int .i64,.str,.int .i64,.int .i64])),some tA,some tU]) (.s (.s (.r [none,some tI]) (.b (.s (.r [none,none]) (.c (.s (.r [none,some (.c (.agg [.int .i64,.str,.int .i64,.int .i64]))]) (.s (.d (.q 0 none (.q 1 (some tS) (.q 3 none (.q 4 (some tI) (.l 2 (some tI) (.l 5 (some tP) (.q 6 none (.e))))))))) (.x))) (.s (.r [none,none]) (.c (.s (.r [none,some (.c (.agg [.int .i64,.str,.int .i64,.int .i64]))]) (.s (.r [none,some tS,none,some tI,some tP,none]) (.x))) (.s (.s (.r [none,none]) (.j [(29,.b .bool)] (.c (.x) (.r [none,none])))) (.c (.s (.r [none,some tP,none]) (.x)) (.s (.r [none,none]) (.c (.s (.r [none,some (.c (.agg [.int .i64,.str,.int .i64,.int .i64]))]) (.s (.r [none,some tS,none,some tI,some tP,none]) (.x))) (.s (.r [none,none]) (.c (.s (.r [none,some (.c (.agg [.int .i64,.str,.int .i64,.int .i64])),some tP,none]) (.x)) (.x))))))))))))) (.s (.b (.s (.r [none,some tB,none]) (.c (.s (.r [none,some tP,none]) (.s (.r [none,some tU]) (.s (.r [none,none]) (.x)))) (.s (.r [none,some tB,none]) (.c (.s (.r [none,some tI,some tP,none]) (.s (.s (.r [none,some tB,none]) (.c (.r [none,none,none,none,some tP,some tA,none,some ah,some tA,none,some tU]) (.x))) (.s (.r [none,some tU]) (.s (.r [none,none]) (.x))))) (.x)))))) (.s (.r [none,some tP,none]) (.x)))))
def jv (a0_a0:Addr):T :=
 .op (aa aH #[.pointer (some a0_a0)]) (.c (.agg [.int .i64,.str,.int .i64,.int .i64])) fun r1 =>
 .op (bj ae) tA fun r2 =>
 .op (aW ae (.pointer (some r2)) (.agg #[.int .i64 r1.1,.string r1.2.1,.int .i64 r1.2.2.1,.int .i64 r1.2.2.2.1])) tU fun _ =>
 .op (ai ak (.pointer (some r2))) tI fun r4 =>
 .ite ((r4:Int)==3) (
 .op (aa bZ #[.pointer (some a0_a0)]) (.c (.agg [.int .i64,.str,.int .i64,.int .i64])) fun r5 =>
 .draw <|
 .opq (ai aF (.pointer (some ⟨r2.block,r2.off+1,none⟩))) tS fun r6 =>
 .opq (ai ak (.pointer (some ⟨r2.block,r2.off+2,none⟩))) tI fun r7 =>
 .opl (aa fu #[.string r6]) tI fun r8 =>
 .opl (aa am #[.int .i64 10,.string kE,.int .i64 r8,.int .i64 r7,.slice none 0 0]) tP fun r9 =>
 .ret #[.v (.pointer r9)]) (
 .ite ((r4:Int)==4) (
 .op (aa bZ #[.pointer (some a0_a0)]) (.c (.agg [.int .i64,.str,.int .i64,.int .i64])) fun r10 =>
 .op (ai aF (.pointer (some ⟨r2.block,r2.off+1,none⟩))) tS fun r11 =>
 .op (ai ak (.pointer (some ⟨r2.block,r2.off+2,none⟩))) tI fun r12 =>
 .op (aa am #[.int .i64 11,.string r11,.int .i64 0,.int .i64 r12,.slice none 0 0]) tP fun r13 =>
 .ret #[.v (.pointer r13)]) (
 .join 0 [.b .bool] (
 .ite ((r4:Int)==5) (
 .out 0 [.bool true]) (
 .out 0 [.bool ((r4:Int)==6)])) fun x14 =>
 .ite x14.1 (
 .op (aa iR #[.pointer (some a0_a0)]) tP fun r15 =>
 .ret #[.v (.pointer r15)]) (
 .ite ((r4:Int)==1) (
 .op (aa bZ #[.pointer (some a0_a0)]) (.c (.agg [.int .i64,.str,.int .i64,.int .i64])) fun r16 =>
 .op (ai aF (.pointer (some ⟨r2.block,r2.off+1,none⟩))) tS fun r17 =>
 .op (ai ak (.pointer (some ⟨r2.block,r2.off+2,none⟩))) tI fun r18 =>
 .op (aa am #[.int .i64 17,.string r17,.int .i64 0,.int .i64 r18,.slice none 0 0]) tP fun r19 =>
 .ret #[.v (.pointer r19)]) (
 .ite ((r4:Int)==2) (
 .op (ai ae (.pointer (some r2))) (.c (.agg [.int .i64,.str,.int .i64,.int .i64])) fun r20 =>
 .op (aa kf #[.pointer (some a0_a0),.agg #[.int .i64 r20.1,.string r20.2.1,.int .i64 r20.2.2.1,.int .i64 r20.2.2.2.1]]) tP fun r21 =>
 .ret #[.v (.pointer r21)]) (
 .op (aa ax #[.pointer (some a0_a0),.string k_lp]) tB fun r22 =>
 .ite r22 (
 .op (aa bL #[.pointer (some a0_a0)]) tP fun r23 =>
 .op (aa aB #[.pointer (some a0_a0),.string k_rp]) tU fun _ =>
 .ret #[.v (.pointer r23)]) (
 .op (aa ax #[.pointer (some a0_a0),.string k_lb]) tB fun r25 =>
 .ite r25 (
 .op (ai ak (.pointer (some ⟨r2.block,r2.off+2,none⟩))) tI fun r26 =>
 .op (aa am #[.int .i64 19,.string kE,.int .i64 0,.int .i64 r26,.slice none 0 0]) tP fun r27 =>
 .op (aa bg #[.pointer (some a0_a0),.string k_rb]) tB fun r28 =>
 .ite (!r28) (
 .op (aa dX #[.pointer (some a0_a0),.func (.func bL) #[.pointer (some a0_a0)] #[]]) tP fun r29 =>
 .op (bV (.pointer r29)) tA fun r30 =>
 .op (ai ad (.pointer (some ⟨r30.block,r30.off+5,none⟩))) ah fun r31 =>
 .op (bV (.pointer r27)) tA fun r32 =>
 .op (aW ad (.pointer (some ⟨r32.block,r32.off+5,none⟩)) (.slice r31.1 r31.2.1 r31.2.2)) tU fun _ =>
 .op (aa aB #[.pointer (some a0_a0),.string k_rb]) tU fun _ =>
 .ret #[.v (.pointer r27)]) (
 .op (aa aB #[.pointer (some a0_a0),.string k_rb]) tU fun _ =>
 .ret #[.v (.pointer r27)])) (
 .op (aa j6 #[.pointer (some a0_a0)]) tP fun r36 =>
 .ret #[.v (.pointer r36)])))))))
theorem uE (a0_a0:Addr):bh Tryz.prog Tryz.f257 ti [.pointer (some a0_a0)]=jv a0_a0:=by kernel_rfl
theorem tZ {ε σ β:Type} {I:av ε σ} {t:Ty} {s:Sp ε σ β} {Rel:β→t.den→al→Fact} {Γ:List Fact} (a0_a0:Addr) (h:Sim Tryz.prog I t Rel noLabel none (jv a0_a0) s [] Γ):MeetsO Tryz.prog I (aa jk #[.pointer (some a0_a0)]) t s Rel Γ :=
 aj (args:=[.pointer (some a0_a0)]) Tryz.func257 rfl rfl (Nat.le_of_ble_eq_true rfl) (by rw [uE]; exact h)
def tO:An :=
 .s (.r [some tA,none]) (.s (.j [] (.b (.s (.r [none,some tS,some tI,none,none]) (.c (.s (.r [none,some (.c (.agg [.int .i64,.str,.int .i64,.int .i64]))]) (.s (.d (.q 0 none (.q 1 (some tS) (.q 3 none (.q 4 (some tI) (.l 2 (some tI) (.l 5 (some tP) (.q 6 none (.e))))))))) (.x))) (.s (.r [none,some tB,none]) (.c (.s (.r [none,some (.c (.agg [.int .i64,.str,.int .i64,.int .i64])),none,none]) (.s (.r [none,some tS,none,some tP,none]) (.s (.j [(6,.b .ptr)] (.b (.l [(6,.b .ptr)] (.s (.s (.r [none,some tB]) (.c (.x) (.x))) (.b (.r [none,some tS,none,none,some ah,some tP,none])))))) (.s (.r [none,some tP,none]) (.s (.d (.q 0 none (.q 1 (some tI) (.q 2 none (.q 3 none (.q 4 none (.l 5 (some tP) (.l 6 (some ah) (.l 7 (some tP) (.q 8 none (.e))))))))))) (.x)))))) (.s (.r [none,some tB,none]) (.c (.s (.s (.r [none,some tB]) (.c (.s (.d (.q 0 none (.q 2 none (.q 3 (some tI) (.l 1 (some tS) (.l 4 (some tP) (.q 5 none (.e)))))))) (.x)) (.x))) (.s (.d (.q 0 none (.q 1 (some tI) (.q 2 none (.l 3 (some tP) (.l 4 (some ah) (.l 5 (some tP) (.q 6 none (.e))))))))) (.x))) (.x))))))))) (.s (.r [none,some tU]) (.s (.r [none]) (.x))))
def kb (a0_a0:Addr) (a1_a1:HB [.int .i64,.str,.int .i64,.int .i64]):T :=
 .op (cJ ae (.agg #[.int .i64 a1_a1.1,.string a1_a1.2.1,.int .i64 a1_a1.2.2.1,.int .i64 a1_a1.2.2.2.1])) tA fun r1 =>
 .join 0 [] (
 .op (ai aF (.pointer (some ⟨r1.block,r1.off+1,none⟩))) tS fun r2 =>
 .op (aa iw #[.string r2]) tI fun r3 =>
 .ite ((r3:Int) != 0) (
 .op (aa bZ #[.pointer (some a0_a0)]) (.c (.agg [.int .i64,.str,.int .i64,.int .i64])) fun r4 =>
 .draw <|
 .opq (ai aF (.pointer (some ⟨r1.block,r1.off+1,none⟩))) tS fun r5 =>
 .opq (ai ak (.pointer (some ⟨r1.block,r1.off+2,none⟩))) tI fun r6 =>
 .opl (aa iw #[.string r5]) tI fun r7 =>
 .opl (aa am #[.int .i64 r7,.string kE,.int .i64 0,.int .i64 r6,.slice none 0 0]) tP fun r8 =>
 .ret #[.v (.pointer r8)]) (
 .op (aa ax #[.pointer (some a0_a0),.string JI]) tB fun r9 =>
 .ite r9 (
 .op (aa aH #[.pointer (some a0_a0)]) (.c (.agg [.int .i64,.str,.int .i64,.int .i64])) fun r10 =>
 .op (aa bu #[.pointer (some a0_a0)]) tS fun r11 =>
 .op (aa am #[.int .i64 17,.string r11,.int .i64 0,.int .i64 r10.2.2.1,.slice none 0 0]) tP fun r12 =>
 .join 1 [.b .ptr] (
 .loop 2 [.b .ptr] [.pointer r12] fun x13 =>
 .op (aa ax #[.pointer (some a0_a0),.string k_dot]) tB fun r14 =>
 .ite r14 (
 .op (aa bu #[.pointer (some a0_a0)]) tS fun r15 =>
 .op (ar ad 1 #[(0,.pointer x13.1)]) ah fun r16 =>
 .op (aa am #[.int .i64 29,.string r15,.int .i64 0,.int .i64 r10.2.2.1,.slice r16.1 r16.2.1 r16.2.2]) tP fun r17 =>
 .out 2 [.pointer r17]) (
 .out 1 [.pointer x13.1])) fun x18 =>
 .op (aa eu #[.pointer (some a0_a0)]) tP fun r19 =>
 .draw <|
 .opq (ai ak (.pointer (some ⟨r1.block,r1.off+2,none⟩))) tI fun r20 =>
 .opl (aa f7 #[.pointer (some a0_a0)]) tP fun r21 =>
 .opl (ar ad 3 #[(0,.pointer x18.1),(1,.pointer r19),(2,.pointer r21)]) ah fun r22 =>
 .opl (aa am #[.int .i64 28,.string kE,.int .i64 0,.int .i64 r20,.slice r22.1 r22.2.1 r22.2.2]) tP fun r23 =>
 .ret #[.v (.pointer r23)]) (
 .op (aa ax #[.pointer (some a0_a0),.string FT]) tB fun r24 =>
 .ite r24 (
 .op (aa ax #[.pointer (some a0_a0),.string k_dot]) tB fun r25 =>
 .ite r25 (
 .draw <|
 .opq (ai ak (.pointer (some ⟨r1.block,r1.off+2,none⟩))) tI fun r26 =>
 .opl (aa bu #[.pointer (some a0_a0)]) tS fun r27 =>
 .opl (aa am #[.int .i64 32,.string r27,.int .i64 0,.int .i64 r26,.slice none 0 0]) tP fun r28 =>
 .ret #[.v (.pointer r28)]) (
 .draw <|
 .opq (ai ak (.pointer (some ⟨r1.block,r1.off+2,none⟩))) tI fun r29 =>
 .opl (aa f7 #[.pointer (some a0_a0)]) tP fun r30 =>
 .opl (ar ad 1 #[(0,.pointer r30)]) ah fun r31 =>
 .opl (aa am #[.int .i64 31,.string kE,.int .i64 0,.int .i64 r29,.slice r31.1 r31.2.1 r31.2.2]) tP fun r32 =>
 .ret #[.v (.pointer r32)])) (
 .out 0 [])))) fun x33 =>
 .op (aa cy #[.pointer (some a0_a0)]) tU fun _ =>
 .ret #[.v (.pointer none)]
theorem wh (a0_a0:Addr) (a1_a1:HB [.int .i64,.str,.int .i64,.int .i64]):bh Tryz.prog Tryz.f264 tO [.pointer (some a0_a0),.agg #[.int .i64 a1_a1.1,.string a1_a1.2.1,.int .i64 a1_a1.2.2.1,.int .i64 a1_a1.2.2.2.1]]=kb a0_a0 a1_a1:=by kernel_rfl
theorem wy {ε σ β:Type} {I:av ε σ} {t:Ty} {s:Sp ε σ β} {Rel:β→t.den→al→Fact} {Γ:List Fact} (a0_a0:Addr) (a1_a1:HB [.int .i64,.str,.int .i64,.int .i64]) (h:Sim Tryz.prog I t Rel noLabel none (kb a0_a0 a1_a1) s [] Γ):MeetsO Tryz.prog I (aa kf #[.pointer (some a0_a0),.agg #[.int .i64 a1_a1.1,.string a1_a1.2.1,.int .i64 a1_a1.2.2.1,.int .i64 a1_a1.2.2.2.1]]) t s Rel Γ :=
 aj (args:=[.pointer (some a0_a0),.agg #[.int .i64 a1_a1.1,.string a1_a1.2.1,.int .i64 a1_a1.2.2.1,.int .i64 a1_a1.2.2.2.1]]) Tryz.func264 rfl rfl (Nat.le_of_ble_eq_true rfl) (by rw [wh]; exact h)
def rO:An :=
 .s (.r [none]) (.s (.r [none,some (.c (.agg [.int .i64,.str,.int .i64,.int .i64])),some tA,some tU]) (.s (.d (.q 0 none (.q 1 (some tI) (.q 2 none (.q 3 (some tS) (.q 4 none (.q 5 (some tI) (.l 6 (some tP) (.l 7 (some ah) (.l 8 (some tP) (.q 9 none (.e)))))))))))) (.s (.b (.l [] (.s (.s (.j [(24,.b .bool)] (.r [none,some tI,none,none,none,some tI,none,none])) (.c (.x) (.x))) (.b (.s (.d (.q 0 none (.q 1 none (.q 2 (some tA) (.q 3 none (.q 4 (some ah) (.q 5 none (.l 6 (some tP) (.l 7 (some ah) (.l 8 (some ah) (.q 9 (some tA) (.q 10 none (.l 11 (some tU) (.e)))))))))))))) (.s (.s (.r [none,some (.c (.agg [.int .i64,.str,.int .i64,.int .i64])),none,none]) (.s (.j [(44,.b .bool)] (.r [none,none,none,none,none,none])) (.j [] (.c (.r [none,some tU]) (.x))))) (.s (.r [none,some (.c (.agg [.int .i64,.str,.int .i64,.int .i64])),some tU]) (.d (.q 0 none (.q 1 none (.q 2 (some tA) (.q 3 none (.q 4 (some ah) (.q 5 none (.q 6 (some tS) (.q 7 none (.q 8 (some tI) (.l 9 (some tP) (.l 10 (some ah) (.l 11 (some ah) (.q 12 (some tA) (.q 13 none (.l 14 (some tU) (.e)))))))))))))))))))))))) (.s (.r [none,none]) (.x)))))
def iS (a0_p:Addr):T :=
 .op (aa bZ #[.pointer (some a0_p)]) (.c (.agg [.int .i64,.str,.int .i64,.int .i64])) fun r1 =>
 .op (bj ae) tA fun r2 =>
 .op (aW ae (.pointer (some r2)) (.agg #[.int .i64 r1.1,.string r1.2.1,.int .i64 r1.2.2.1,.int .i64 r1.2.2.2.1])) tU fun _ =>
 .draw <|
 .opq (ai ak (.pointer (some ⟨r2.block,r2.off+2,none⟩))) tI fun r4 =>
 .opq (ai aF (.pointer (some ⟨r2.block,r2.off+1,none⟩))) tS fun r5 =>
 .opq (ai ak (.pointer (some ⟨r2.block,r2.off+2,none⟩))) tI fun r6 =>
 .opl (aa am #[.int .i64 11,.string r5,.int .i64 0,.int .i64 r6,.slice none 0 0]) tP fun r7 =>
 .opl (ar ad 1 #[(0,.pointer r7)]) ah fun r8 =>
 .opl (aa am #[.int .i64 12,.string kE,.int .i64 0,.int .i64 r4,.slice r8.1 r8.2.1 r8.2.2]) tP fun r9 =>
 .loop 0 [] [] fun x10 =>
 .join 1 [.b .bool] (
 .op (ai ak (.pointer (some r2))) tI fun r11 =>
 .ite ((r11:Int) != 5) (
 .op (ai ak (.pointer (some r2))) tI fun r12 =>
 .out 1 [.bool ((r12:Int) != 8)]) (
 .out 1 [.bool false])) fun x13 =>
 .ite x13.1 (
 .draw <|
 .opq (bV (.pointer r9)) tA fun r14 =>
 .opq (ai ad (.pointer (some ⟨r14.block,r14.off+5,none⟩))) ah fun r15 =>
 .opl (aa bL #[.pointer (some a0_p)]) tP fun r16 =>
 .opl (ar ad 1 #[(0,.pointer r16)]) ah fun r17 =>
 .opl (dg #[ad,ad] ad #[.slice r15.1 r15.2.1 r15.2.2,.slice r17.1 r17.2.1 r17.2.2]) ah fun r18 =>
 .opq (bV (.pointer r9)) tA fun r19 =>
 .op (aW ad (.pointer (some ⟨r19.block,r19.off+5,none⟩)) (.slice r18.1 r18.2.1 r18.2.2)) tU fun _ =>
 .op (aa aH #[.pointer (some a0_p)]) (.c (.agg [.int .i64,.str,.int .i64,.int .i64])) fun r21 =>
 .join 1 [.b .bool] (
 .ite ((r21.1:Int) != 7) (
 .out 1 [.bool ((r21.1:Int) != 8)]) (
 .out 1 [.bool false])) fun x22 =>
 .join 1 [] (
 .ite x22.1 (
 .op (aa cy #[.pointer (some a0_p)]) tU fun _ =>
 .out 1 []) (
 .out 1 [])) fun x24 =>
 .op (aa bZ #[.pointer (some a0_p)]) (.c (.agg [.int .i64,.str,.int .i64,.int .i64])) fun r25 =>
 .op (aW ae (.pointer (some r2)) (.agg #[.int .i64 r25.1,.string r25.2.1,.int .i64 r25.2.2.1,.int .i64 r25.2.2.2.1])) tU fun _ =>
 .draw <|
 .opq (bV (.pointer r9)) tA fun r27 =>
 .opq (ai ad (.pointer (some ⟨r27.block,r27.off+5,none⟩))) ah fun r28 =>
 .opq (ai aF (.pointer (some ⟨r2.block,r2.off+1,none⟩))) tS fun r29 =>
 .opq (ai ak (.pointer (some ⟨r2.block,r2.off+2,none⟩))) tI fun r30 =>
 .opl (aa am #[.int .i64 11,.string r29,.int .i64 0,.int .i64 r30,.slice none 0 0]) tP fun r31 =>
 .opl (ar ad 1 #[(0,.pointer r31)]) ah fun r32 =>
 .opl (dg #[ad,ad] ad #[.slice r28.1 r28.2.1 r28.2.2,.slice r32.1 r32.2.1 r32.2.2]) ah fun r33 =>
 .opq (bV (.pointer r9)) tA fun r34 =>
 .op (aW ad (.pointer (some ⟨r34.block,r34.off+5,none⟩)) (.slice r33.1 r33.2.1 r33.2.2)) tU fun _ =>
 .out 0 []) (
 .ret #[.v (.pointer r9)])
theorem tu (a0_p:Addr):bh Tryz.prog Tryz.f263 rO [.pointer (some a0_p)]=iS a0_p:=by kernel_rfl
theorem tf {ε σ β:Type} {I:av ε σ} {t:Ty} {s:Sp ε σ β} {Rel:β→t.den→al→Fact} {Γ:List Fact} (a0_p:Addr) (h:Sim Tryz.prog I t Rel noLabel none (iS a0_p) s [] Γ):MeetsO Tryz.prog I (aa iR #[.pointer (some a0_p)]) t s Rel Γ :=
 aj (args:=[.pointer (some a0_p)]) Tryz.func263 rfl rfl (Nat.le_of_ble_eq_true rfl) (by rw [tu]; exact h)
def uI:An :=
 .s (.r [none]) (.b (.s (.r [none,some (.c (.agg [.int .i64,.str,.int .i64,.int .i64])),none,some tP,none]) (.s (.r [none,some tU]) (.s (.x) (.s (.j [] (.b (.l [] (.s (.s (.r [none,some tB,none]) (.c (.x) (.x))) (.b (.s (.r [none,some (.c (.agg [.int .i64,.str,.int .i64,.int .i64])),none,none]) (.s (.r [none,some tS,none]) (.s (.r [none,none,some tP,none]) (.s (.s (.r [none,some tB]) (.j [(6,.b .ptr)] (.c (.r [none,some tP,none]) (.x)))) (.s (.d (.q 0 none (.q 1 none (.q 2 (some tA) (.q 3 none (.q 4 (some ah) (.q 5 none (.q 6 none (.q 7 none (.l 8 (some ah) (.l 9 (some tP) (.l 10 (some ah) (.l 11 (some ah) (.q 12 (some tA) (.q 13 none (.l 14 (some tU) (.e))))))))))))))))) (.s (.r [none,some tB,none]) (.c (.x) (.x))))))))))))) (.s (.r [none,some tU]) (.s (.r [none,none]) (.x))))))))
def jL (a0_p:Addr):T :=
 .op (aa aH #[.pointer (some a0_p)]) (.c (.agg [.int .i64,.str,.int .i64,.int .i64])) fun r1 =>
 .op (aa am #[.int .i64 20,.string kE,.int .i64 0,.int .i64 r1.2.2.1,.slice none 0 0]) tP fun r2 =>
 .op (aa aB #[.pointer (some a0_p),.string k_lc]) tU fun _ =>
 .join 0 [] (
 .loop 1 [] [] fun x4 =>
 .op (aa bg #[.pointer (some a0_p),.string k_rc]) tB fun r5 =>
 .ite (!r5) (
 .op (aa aH #[.pointer (some a0_p)]) (.c (.agg [.int .i64,.str,.int .i64,.int .i64])) fun r6 =>
 .op (aa bu #[.pointer (some a0_p)]) tS fun r7 =>
 .op (aa am #[.int .i64 17,.string r7,.int .i64 0,.int .i64 r6.2.2.1,.slice none 0 0]) tP fun r8 =>
 .op (aa ax #[.pointer (some a0_p),.string gK]) tB fun r9 =>
 .join 2 [.b .ptr] (
 .ite r9 (
 .op (aa bL #[.pointer (some a0_p)]) tP fun r10 =>
 .out 2 [.pointer r10]) (
 .out 2 [.pointer r8])) fun x11 =>
 .draw <|
 .opq (bV (.pointer r2)) tA fun r12 =>
 .opq (ai ad (.pointer (some ⟨r12.block,r12.off+5,none⟩))) ah fun r13 =>
 .opl (ar ad 1 #[(0,.pointer x11.1)]) ah fun r14 =>
 .opl (aa am #[.int .i64 21,.string r7,.int .i64 0,.int .i64 r6.2.2.1,.slice r14.1 r14.2.1 r14.2.2]) tP fun r15 =>
 .opl (ar ad 1 #[(0,.pointer r15)]) ah fun r16 =>
 .opl (dg #[ad,ad] ad #[.slice r13.1 r13.2.1 r13.2.2,.slice r16.1 r16.2.1 r16.2.2]) ah fun r17 =>
 .opq (bV (.pointer r2)) tA fun r18 =>
 .op (aW ad (.pointer (some ⟨r18.block,r18.off+5,none⟩)) (.slice r17.1 r17.2.1 r17.2.2)) tU fun _ =>
 .op (aa ax #[.pointer (some a0_p),.string jB]) tB fun r20 =>
 .ite (!r20) (
 .out 0 []) (
 .out 1 [])) (
 .out 0 [])) fun x21 =>
 .op (aa aB #[.pointer (some a0_p),.string k_rc]) tU fun _ =>
 .ret #[.v (.pointer r2)]
theorem wu (a0_p:Addr):bh Tryz.prog Tryz.f265 uI [.pointer (some a0_p)]=jL a0_p:=by kernel_rfl
theorem vu {ε σ β:Type} {I:av ε σ} {t:Ty} {s:Sp ε σ β} {Rel:β→t.den→al→Fact} {Γ:List Fact} (a0_p:Addr) (h:Sim Tryz.prog I t Rel noLabel none (jL a0_p) s [] Γ):MeetsO Tryz.prog I (aa j6 #[.pointer (some a0_p)]) t s Rel Γ :=
 aj (args:=[.pointer (some a0_p)]) Tryz.func265 rfl rfl (Nat.le_of_ble_eq_true rfl) (by rw [wu]; exact h)
end
end Go.Proofs.YtjlgcpgjdgeejaaGreatDoor
end
