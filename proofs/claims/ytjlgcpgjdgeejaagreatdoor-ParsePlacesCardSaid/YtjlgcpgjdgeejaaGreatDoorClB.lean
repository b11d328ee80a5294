/- A part of the claim: general tools, trees of the program, and what its functions come to (PLeaf3 to AnyShort). Conditions: as its theorems say. -/
import Derived.Test.YtjlgcpgjdgeejaaGreatDoorClA
import Derived.BigFrame
import Derived.Defers
import Derived.Laws.RangeAny
import Derived.Laws.Runes
import Derived.RangeFuncLeaves
import Derived.Recover
import Derived.Shelf.Small.Utf8
import Derived.Shelf.Strings.IndexAnyAll
import Derived.WalkMore
import Derived.Test.YtjlgcpgjdgeejaaGreatDoorProg

section
namespace Go.Proofs.YtjlgcpgjdgeejaaGreatDoor
open Go
set_option linter.unusedSimpArgs false
set_option linter.unusedVariables false
set_option linter.constructorNameAsVariable false
set_option maxRecDepth 100000
abbrev nK (n:Nat):Array Value:=(Array.range (n * 1)).map ((Value.pointer none).cells[· % (Value.pointer none).cells.size]!)
theorem uT {n:Nat} {ps:Array (Nat × Value)} {l:List (Option Addr)} (hn:l.length=n) (h0:0 < n) (hsz:n≤1000)
  (hf:Instr.fill (fun i=>some (i * 1,1)) (nK n) ps.toList=some (l.map Value.pointer).toArray) (w:World) :
  (aG ae n ps).run PG w=.ok (.value (.slice (some ⟨w.heap.size,0,none⟩) n n)) (w.alloc (ap bl (l.map Value.pointer))):=by
 have:=k5 (P:=PG) (w:=w) (t:=ae) (e:=bl) (n:=n) (size:=1) (ps:=ps) (cells:=(l.map Value.pointer).toArray) (zero:=.pointer none) (by kernel_rfl) (by omega) (by kernel_rfl) hf (by omega)
 simpa using this
theorem Ce (l:List (Option Addr)):rows eo l=l.map Value.pointer:=by
 induction l with
 | nil=>rfl
 | cons x l ih=>rw [fF,ih]; rfl
theorem u0 {L:ak} {Γ:List Fact} {n:Nat} {ps:Array (Nat × Value)} (l:List (Option Addr)) (hn:l.length=n) (h0:0 < n) (hsz:n≤1000)
  (hf:Instr.fill (fun i=>some (i * 1,1)) (nK n) ps.toList=some (l.map Value.pointer).toArray) :
  Loc PG (aG ae n ps) ai L Γ fun y L' Γ'=>L'=L∧Γ'=Sl 1 eo y l::Γ :=
 Loc.val fun r w F H hF hsp=>⟨(some ⟨w.heap.size,0,none⟩,n,n),_,L,_,F.ins w.heap.size (ap bl (l.map Value.pointer)),.inl (uT hn h0 hsz hf w),hsp.new_le _,
  Holds.cons (A:=Sl 1 eo (some ⟨w.heap.size,0,none⟩,n,n) l) ⟨hn.symm,.inr ⟨⟨w.heap.size,0,none⟩,l.map Value.pointer,bl,rfl,rfl,by simp [Heap.ins],by rw [Ce]; show List.take (1 * l.length) (l.map Value.pointer)=_; rw [List.take_of_length_le (by simp)]⟩⟩ (hF.mono (hsp.new_le _)),hsp.newF _,rfl,rfl⟩
theorem rF {L:ak} {Γ:List Fact} {n:Nat} {ps:Array (Nat × Value)} (l:List (Option Addr)) (hn:l.length=n) (h0:0 < n) (hsz:n≤1000)
  (hf:Instr.fill (fun i=>some (i * 1,1)) (nK n) ps.toList=some (l.map Value.pointer).toArray) :
  Loc PG (aG ae n ps) ai L Γ fun y L' Γ'=>∃ K,L'=K++L∧Γ'=Γ∧Buf bl 1 y (l.map Value.pointer) K :=
 Loc.val fun r w F H hF hsp=>⟨(some ⟨w.heap.size,0,none⟩,n,n),_,_,Γ,F,.inl (uT hn h0 hsz hf w),Heap.le.refl F,hF,(hsp.new _).perm List.perm_middle,[_],rfl,rfl,
  .inr ⟨w.heap.size,_,rfl,rfl,by simp [hn],Nat.le_refl n,by show n≤maxLen; unfold maxLen; omega,by simp [hn],by
   show List.take (n * 1) (l.map Value.pointer)=_
   rw [List.take_of_length_le (by simp [hn])]⟩⟩
section
variable {ε σ β:Type} {I:aN ε σ} {t:Ty} {Rel:β→t.den→ak→Fact} {Δ:Labels ε σ β} {L:ak} {Γ:List Fact} {s:Sp ε σ β}
theorem Hr {q:Option Quiet} {kind num pos:Int} {text:ByteArray} {x:aV} {k:Option Addr→T} (ps:List (Option Addr)) (kids:List N)
  (h:∀ F,Holds Γ F→(Sl 1 eo x ps).p F∧NodesAt F ps kids) (hk:∀ y,Sim PG I t Rel Δ none (k y) s L (NodeF (aE kind text num pos kids) y::Γ)) :
  Sim PG I t Rel Δ q (.op (aa al #[.int .i64 kind,.string text,.int .i64 num,.int .i64 pos,.slice x.1 x.2.1 x.2.2]) tP k) s L Γ :=
 lI (BP I kind text num pos x ps kids h) (fun A hA=>hA) hk
theorem Fv {q:Quiet} {kind num pos:Int} {text:ByteArray} {x:aV} {k:Option Addr→T} (ps:List (Option Addr)) (kids:List N)
  (h:∀ F,Holds Γ F→(Sl 1 eo x ps).p F∧NodesAt F ps kids) (hk:∀ y,Sim PG I t Rel Δ (some q) (k y) s L (NodeF (aE kind text num pos kids) y::Γ)) :
  Sim PG I t Rel Δ (some q) (.opl (aa al #[.int .i64 kind,.string text,.int .i64 num,.int .i64 pos,.slice x.1 x.2.1 x.2.2]) tP k) s L Γ :=
 zo (BP I kind text num pos x ps kids h) (fun A hA=>hA) hk
theorem fO {q:Option Quiet} {kind num pos:Int} {text:ByteArray} {k:Option Addr→T} (hk:∀ y,Sim PG I t Rel Δ none (k y) s L (NodeF (aE kind text num pos []) y::Γ)) :
  Sim PG I t Rel Δ q (.op (aa al #[.int .i64 kind,.string text,.int .i64 num,.int .i64 pos,.slice none 0 0]) tP k) s L Γ :=
 lI (sI I kind text num pos) (fun _ h=>nomatch h) hk
theorem gJ {q:Quiet} {kind num pos:Int} {text:ByteArray} {k:Option Addr→T} (hk:∀ y,Sim PG I t Rel Δ (some q) (k y) s L (NodeF (aE kind text num pos []) y::Γ)) :
  Sim PG I t Rel Δ (some q) (.opl (aa al #[.int .i64 kind,.string text,.int .i64 num,.int .i64 pos,.slice none 0 0]) tP k) s L Γ :=
 zo (sI I kind text num pos) (fun _ h=>nomatch h) hk
theorem ca {q:Option Quiet} {n:Nat} {parts:Array (Nat × Value)} {kind num pos:Int} {text:ByteArray} {k:Option Addr→T} (ps:List (Option Addr)) (kids:List N) (hn:ps.length=n) (h0:0 < n) (hsz:n≤1000)
  (hf:Instr.fill (fun i=>some (i * 1,1)) (nK n) parts.toList=some (ps.map Value.pointer).toArray) (h:∀ F,Holds Γ F→NodesAt F ps kids)
  (hk:∀ y,Sim PG I t Rel Δ none (k y) s L (NodeF (aE kind text num pos kids) y::Γ)) :
  Sim PG I t Rel Δ q (.op (aG ae n parts) ai fun x=>.op (aa al #[.int .i64 kind,.string text,.int .i64 num,.int .i64 pos,.slice x.1 x.2.1 x.2.2]) tP k) s L Γ:=by
 refine aW (u0 ps hn h0 hsz hf) ?_
 rintro x _ _ ⟨rfl,rfl⟩
 refine Hr ps kids (fun F hF=>⟨hF _ (List.mem_cons_self ..),h F fun A hA=>hF A (List.mem_cons_of_mem _ hA)⟩) fun y=>?_
 exact (hk y).weak fun A hA=>by
  rcases List.mem_cons.1 hA with rfl | hA
  ·exact List.mem_cons_self ..
  ·exact List.mem_cons_of_mem _ (List.mem_cons_of_mem _ hA)
theorem e9 {q:Quiet} {n:Nat} {parts:Array (Nat × Value)} {kind num pos:Int} {text:ByteArray} {k:Option Addr→T} (ps:List (Option Addr)) (kids:List N) (hn:ps.length=n) (h0:0 < n) (hsz:n≤1000)
  (hf:Instr.fill (fun i=>some (i * 1,1)) (nK n) parts.toList=some (ps.map Value.pointer).toArray) (h:∀ F,Holds Γ F→NodesAt F ps kids) (hq:∀ p∈q.L,p∈L)
  (hk:∀ y,Sim PG I t Rel Δ (some q) (k y) s L (NodeF (aE kind text num pos kids) y::Γ)) :
  Sim PG I t Rel Δ (some q) (.opl (aG ae n parts) ai fun x=>.opl (aa al #[.int .i64 kind,.string text,.int .i64 num,.int .i64 pos,.slice x.1 x.2.1 x.2.2]) tP k) s L Γ:=by
 refine ed (u0 ps hn h0 hsz hf) ?_
 rintro x _ _ ⟨rfl,rfl⟩
 refine ⟨hq,?_⟩
 refine Fv ps kids (fun F hF=>⟨hF _ (List.mem_cons_self ..),h F fun A hA=>hF A (List.mem_cons_of_mem _ hA)⟩) fun y=>?_
 exact (hk y).weak fun A hA=>by
  rcases List.mem_cons.1 hA with rfl | hA
  ·exact List.mem_cons_self ..
  ·exact List.mem_cons_of_mem _ (List.mem_cons_of_mem _ hA)
end
end Go.Proofs.YtjlgcpgjdgeejaaGreatDoor
end

section
namespace Go.Proofs.YtjlgcpgjdgeejaaGreatDoor
open Go
set_option linter.unusedSimpArgs false
set_option linter.unusedVariables false
set_option linter.constructorNameAsVariable false
set_option maxRecDepth 100000
def N.text:N→ByteArray | .mk _ t _ _ _=>t
def N.pos:N→Int | .mk _ _ _ p _=>p
def N.push:N→N→N | .mk k t n p l,c=>.mk k t n p (l++[c])
theorem N.eta (n:N):n=.mk n.kind n.text n.num n.pos n.kids:=by cases n; rfl
theorem N.push_eq (n c:N):n.push c=.mk n.kind n.text n.num n.pos (n.kids++[c]):=by cases n; rfl
theorem NodesAt.length {F:Heap}:∀ {ps:List (Option Addr)} {ns:List N},NodesAt F ps ns→ps.length=ns.length
 | _,_,.nil=>rfl
 | _,_,.cons p n ps ns _ h=>by simp [NodesAt.length h]
theorem NodesAt.snoc {F:Heap} {p:Option Addr} {n:N} (hn:NodeAt F p n):∀ {ps:List (Option Addr)} {ns:List N},NodesAt F ps ns→NodesAt F (ps++[p]) (ns++[n])
 | _,_,.nil=>.cons _ _ _ _ hn .nil
 | _,_,.cons p n ps ns h1 h2=>.cons _ _ _ _ h1 (NodesAt.snoc hn h2)
theorem NodesAt.one {F:Heap} {p:Option Addr} {n:N} (h:NodeAt F p n):NodesAt F [p] [n]:=.cons _ _ _ _ h .nil
def ct (b:Nat) (n:N) (sl:aV):Nat × Obj:=(b,ap bK (cL n.kind n.text n.num n.pos sl))
def dl (n:N) (x:Option Addr) (K:ak):Fact:=Fact.ex fun b:Nat=>Fact.ex fun sl:aV=>Fact.ex fun ps:List (Option Addr)=>Fact.ex fun K2:ak =>
 (Fact.prop (x=some ⟨b,0,none⟩∧K=ct b n sl::K2∧Buf bl 1 sl (ps.map Value.pointer) K2)).both (dc n.kids ps)
theorem Co {P:Program} (a:Addr) (w:World):(cg (.pointer (some a))).run P w=.ok (.value (.pointer (some a))) w:=by
 simp [cg,execOp]
theorem Jl {P:Program} {L:ak} {Γ:List Fact} (a:Addr):Loc P (cg (.pointer (some a))) tA L Γ fun y L' Γ'=>a=y∧L'=L∧Γ'=Γ:=eG (t1:=tA) a fun w=>Co a w
section
variable {ε σ β:Type} {I:aN ε σ} {t:Ty} {Rel:β→t.den→ak→Fact} {Δ:Labels ε σ β} {q:Option Quiet} {L:ak} {Γ:List Fact} {s:Sp ε σ β}
theorem ox {m:T} {n:N} {x:Option Addr} {K:ak}
  (h:∀ b sl ps K2,x=some ⟨b,0,none⟩→Buf bl 1 sl (ps.map Value.pointer) K2→Sim PG I t Rel Δ q m s (ct b n sl::(K2++L)) (dc n.kids ps::Γ)) :
  Sim PG I t Rel Δ q m s (K++L) (dl n x K::Γ):=by
 refine Sim.ex fun b=>Sim.ex fun sl=>Sim.ex fun ps=>Sim.ex fun K2=>Sim.both (Sim.prop fun ⟨h1,h2,h3⟩=>?_)
 subst h2
 exact h b sl ps K2 h1 h3
theorem Cn {m:T} (K:ak):∀ {Γ:List Fact},(Sim PG I t Rel Δ none m s L (K.map (fun p=>Fact.at p.1 p.2)++Γ))→Sim PG I t Rel Δ none m s (K++L) Γ:=by
 induction K with
 | nil=>exact fun h=>h
 | cons p K ih =>
  intro Γ h
  refine nC (ih (h.weak fun A hA=>?_))
  simp only [List.map_cons,List.cons_append,List.mem_cons,List.mem_append] at hA ⊢
  rcases hA with h | h | h
  ·exact .inr (.inl h)
  ·exact .inl h
  ·exact .inr (.inr h)
theorem De {m:T} {K:ak} (h:Sim PG I t Rel Δ none m s L (K.map (fun p=>Fact.at p.1 p.2)++Γ)):Sim PG I t Rel Δ q m s (K++L) Γ:=(Cn K h).lift
theorem Buf.nodes {F:Heap} {sl:aV} {ps:List (Option Addr)} {K2:ak} (h:Buf bl 1 sl (ps.map Value.pointer) K2) (hK:∀ p∈K2,F p.1=some p.2):(Sl 1 eo sl ps).p F :=
 h.sl (by omega) (Ce ps).symm wi hK
theorem HX {m:T} {n:N} {x:Option Addr} {K:ak} (h:Sim PG I t Rel Δ none m s L (NodeF n x::Γ)):Sim PG I t Rel Δ q m s (K++L) (dl n x K::Γ):=by
 refine Sim.ex fun b=>Sim.ex fun sl=>Sim.ex fun ps=>Sim.ex fun K2=>Sim.both (Sim.prop fun ⟨h1,h2,h3⟩=>?_)
 refine De (Sim.know (A:=NodeF n x) (fun F hF=>?_) (h.weak fun A hA=>?_))
 ·subst h1; subst h2
  have hn:NodesAt F ps n.kids:=hF (dc n.kids ps) (List.mem_append_right _ (List.mem_cons_self ..))
  have hat:∀ p∈(ct b n sl::K2),F p.1=some p.2:=fun p hp=>hF (Fact.at p.1 p.2) (List.mem_append_left _ (List.mem_map.2 ⟨p,hp,rfl⟩))
  show NodeAt F _ n
  rw [N.eta n]
  exact .mk b _ _ _ _ _ sl ps (hat _ (List.mem_cons_self ..)) (h3.nodes fun p hp=>hat p (List.mem_cons_of_mem _ hp)) hn
 ·rcases List.mem_cons.1 hA with rfl | hA
  ·exact List.mem_cons_self ..
  ·exact List.mem_cons_of_mem _ (List.mem_append_right _ (List.mem_cons_of_mem _ hA))
theorem gA {kind num pos:Int} {text:ByteArray} {k:Option Addr→T} (hk:∀ y K,Sim PG I t Rel Δ none (k y) s (K++L) (dl (aE kind text num pos []) y K::Γ)) :
  Sim PG I t Rel Δ q (.op (aa al #[.int .i64 kind,.string text,.int .i64 num,.int .i64 pos,.slice none 0 0]) tP k) s L Γ:=by
 refine aW (uM kind text num pos (none,0,0)) ?_
 rintro _ _ _ ⟨b,rfl,rfl,rfl⟩
 refine Sim.know (A:=dl (aE kind text num pos []) (some ⟨b,0,none⟩) [ct b (aE kind text num pos []) (none,0,0)]) (fun F hF=>?_) (hk _ [_])
 exact ⟨b,_,[],[],⟨rfl,rfl,Buf.nil ..⟩,NodesAt.nil⟩
theorem DR {n:Nat} {parts:Array (Nat × Value)} {kind num pos:Int} {text:ByteArray} {k:Option Addr→T} (ps:List (Option Addr)) (kids:List N) (hn:ps.length=n) (h0:0 < n) (hsz:n≤1000)
  (hf:Instr.fill (fun i=>some (i * 1,1)) (nK n) parts.toList=some (ps.map Value.pointer).toArray) (h:∀ F,Holds Γ F→NodesAt F ps kids)
  (hk:∀ y K,Sim PG I t Rel Δ none (k y) s (K++L) (dl (aE kind text num pos kids) y K::Γ)) :
  Sim PG I t Rel Δ q (.op (aG ae n parts) ai fun x=>.op (aa al #[.int .i64 kind,.string text,.int .i64 num,.int .i64 pos,.slice x.1 x.2.1 x.2.2]) tP k) s L Γ:=by
 refine aW (rF ps hn h0 hsz hf) ?_
 rintro x _ _ ⟨K2,rfl,rfl,hb⟩
 refine aW (uM kind text num pos x) ?_
 rintro _ _ _ ⟨b,rfl,rfl,rfl⟩
 refine Sim.know (A:=dl (aE kind text num pos kids) (some ⟨b,0,none⟩) (ct b (aE kind text num pos kids) x::K2)) (fun F hF=>?_) (hk _ (_::K2))
 exact ⟨b,x,ps,K2,⟨rfl,rfl,hb⟩,h F hF⟩
theorem oO {P:Program} {q:Quiet} (a:Addr):mK P q (cg (.pointer (some a))) (.pointer (some a)):=mf fun w=>Co a w
theorem BR {n:N} {x:Option Addr} {K:ak} {m:aV→T}
  (hk:∀ b sl ps K2,x=some ⟨b,0,none⟩→Buf bl 1 sl (ps.map Value.pointer) K2 →
   Sim PG I t Rel Δ (some ⟨dc n.kids ps::Γ,[ct b n sl]⟩) (m sl) s (ct b n sl::(K2++L)) (dc n.kids ps::Γ)) :
  Sim PG I t Rel Δ q (.draw<|.opq (cg (.pointer x)) tA fun r7=>.opq (am ae (.pointer (some ⟨r7.block,r7.off+5,none⟩))) ai m) s (K++L) (dl n x K::Γ):=by
 refine ox fun b sl ps K2 hx hb=>?_
 subst hx
 refine dD [ct b n sl] (fun p hp=>by simp at hp; simp [hp]) ?_
 refine dv (t1:=tA) ⟨b,0,none⟩ (oO _) ?_
 refine dv (t1:=ai) sl (cf (QRd.own (List.mem_cons_self ..)) (by kernel_rfl) rfl rfl) ?_
 exact hk b sl ps K2 rfl hb
theorem yw {L:ak} {Γ:List Fact} {y:Option Addr}:Loc PG (aG ae 1 #[(0,.pointer y)]) ai L Γ fun x L' Γ'=>∃ b,x=(some ⟨b,0,none⟩,1,1)∧L'=L∧Γ'=Fact.at b (ap bl [.pointer y])::Γ :=
 Loc.val fun r w F H hF hsp=>⟨(some ⟨w.heap.size,0,none⟩,1,1),_,L,_,F.ins w.heap.size (ap bl [.pointer y]),.inl (uT (n:=1) (l:=[y]) rfl (by decide) (by decide) (by kernel_rfl) w),hsp.new_le _,
  Holds.cons (by simp [Fact.at,Heap.ins]) (hF.mono (hsp.new_le _)),hsp.newF _,w.heap.size,rfl,rfl,rfl⟩
theorem gD {Γq:List Fact} {b:Nat} {sl:aV} {ps:List (Option Addr)} {K2:ak} {y:Option Addr} {n c:N} {k:T} (hb:Buf bl 1 sl (ps.map Value.pointer) K2) (hps:dc n.kids ps∈Γ) (hc:NodeF c y∈Γ) (hlen:n.kids.length≤4398046511104)
  (hk:∀ K,Sim PG I t Rel Δ none k s (K++L) (dl (n.push c) (some ⟨b,0,none⟩) K::Γ)) :
  Sim PG I t Rel Δ (some ⟨Γq,[ct b n sl]⟩) (.opl (aG ae 1 #[(0,.pointer y)]) ai fun r10=>.opl (cW #[ae,ae] ae #[.slice sl.1 sl.2.1 sl.2.2,.slice r10.1 r10.2.1 r10.2.2]) ai fun r11 =>
   .opq (cg (.pointer (some ⟨b,0,none⟩))) tA fun r12=>.op (a7 ae (.pointer (some ⟨r12.block,r12.off+5,none⟩)) (.slice r11.1 r11.2.1 r11.2.2)) tU fun _=>k) s (ct b n sl::(K2++L)) Γ:=by
 refine Sim.note (φ:=ps.length=n.kids.length) (fun F hF=>NodesAt.length (hF _ hps)) fun hl=>?_
 refine ed yw ?_
 rintro _ _ _ ⟨bn,rfl,rfl,rfl⟩
 refine ⟨fun p hp=>by simp at hp; simp [hp],?_⟩
 have hsl:sl.2.1=ps.length:=by have:=hb.len; simp at this; omega
 refine o3 (L':=K2++(ct b n sl::L)) List.perm_middle ?_
 refine ed (eZ (L0:=ct b n sl::L) (K:=K2) (size:=1) (bytes:=8) (e:=bl) (m:=1) (news:=[.pointer y]) (by kernel_rfl) rfl hb (Rd.at (List.mem_cons_self ..)) rfl rfl rfl (by decide) (by simp [Value.oneCell']) (by omega) (by omega)) ?_
 rintro x _ _ ⟨K',rfl,rfl,hx,hb'⟩
 refine ⟨fun p hp=>by simp at hp; simp [hp],?_⟩
 refine dv (t1:=tA) ⟨b,0,none⟩ (oO _) ?_
 refine aW (br (L1:=K') (L2:=L) (l:=cL n.kind n.text n.num n.pos sl) (T:=ae) (T0:=bK) (c:=false) rfl (by kernel_rfl) rfl (Nat.le_of_ble_eq_true rfl) (by simp [Value.cells,Value.oneCell'])) ?_
 rintro _ _ _ ⟨rfl,rfl⟩
 refine lw (L':=(b,ap bK (bW (cL n.kind n.text n.num n.pos sl) 5 [.slice x.1 x.2.1 x.2.2]))::(K'++L)) List.perm_middle.symm ?_
 rw [show (b,ap bK (bW (cL n.kind n.text n.num n.pos sl) 5 [.slice x.1 x.2.1 x.2.2]))=ct b (n.push c) x by cases n; rfl]
 refine Sim.know (A:=dl (n.push c) (some ⟨b,0,none⟩) (ct b (n.push c) x::K')) (fun F hF=>?_) ((hk (ct b (n.push c) x::K')).weak fun A hA=>?_)
 ·refine ⟨b,x,ps++[y],K',⟨rfl,rfl,by simpa using hb'⟩,?_⟩
  rw [N.push_eq]
  exact NodesAt.snoc (hF _ (List.mem_cons_of_mem _ hc)) (hF _ (List.mem_cons_of_mem _ hps))
 ·rcases List.mem_cons.1 hA with rfl | hA
  ·exact List.mem_cons_self ..
  ·exact List.mem_cons_of_mem _ (List.mem_cons_of_mem _ hA)
theorem Gp (Le:ak) (hLe:∀ p∈Le,p∈L) {n:N} {x:Option Addr} {K:ak} {m:aV→T}
  (hk:∀ b sl ps K2,x=some ⟨b,0,none⟩→Buf bl 1 sl (ps.map Value.pointer) K2 →
   Sim PG I t Rel Δ (some ⟨dc n.kids ps::Γ,ct b n sl::Le⟩) (m sl) s (ct b n sl::(K2++L)) (dc n.kids ps::Γ)) :
  Sim PG I t Rel Δ q (.draw<|.opq (cg (.pointer x)) tA fun r7=>.opq (am ae (.pointer (some ⟨r7.block,r7.off+5,none⟩))) ai m) s (K++L) (dl n x K::Γ):=by
 refine ox fun b sl ps K2 hx hb=>?_
 subst hx
 refine dD (ct b n sl::Le) (fun p hp=>by rcases List.mem_cons.1 hp with rfl | hp<;>simp [*]) ?_
 refine dv (t1:=tA) ⟨b,0,none⟩ (oO _) ?_
 refine dv (t1:=ai) sl (cf (QRd.own (List.mem_cons_self ..)) (by kernel_rfl) rfl rfl) ?_
 exact hk b sl ps K2 rfl hb
theorem zk {Le:ak} (hLe:∀ p∈Le,p∈L) {Γq:List Fact} {b:Nat} {sl:aV} {ps:List (Option Addr)} {K2:ak} {y:Option Addr} {n c:N} {k:T} (hb:Buf bl 1 sl (ps.map Value.pointer) K2) (hps:dc n.kids ps∈Γ) (hc:NodeF c y∈Γ) (hlen:n.kids.length≤4398046511104)
  (hk:∀ K,Sim PG I t Rel Δ none k s (K++L) (dl (n.push c) (some ⟨b,0,none⟩) K::Γ)) :
  Sim PG I t Rel Δ (some ⟨Γq,ct b n sl::Le⟩) (.opl (aG ae 1 #[(0,.pointer y)]) ai fun r10=>.opl (cW #[ae,ae] ae #[.slice sl.1 sl.2.1 sl.2.2,.slice r10.1 r10.2.1 r10.2.2]) ai fun r11 =>
   .opq (cg (.pointer (some ⟨b,0,none⟩))) tA fun r12=>.op (a7 ae (.pointer (some ⟨r12.block,r12.off+5,none⟩)) (.slice r11.1 r11.2.1 r11.2.2)) tU fun _=>k) s (ct b n sl::(K2++L)) Γ:=by
 refine Sim.note (φ:=ps.length=n.kids.length) (fun F hF=>NodesAt.length (hF _ hps)) fun hl=>?_
 refine ed yw ?_
 rintro _ _ _ ⟨bn,rfl,rfl,rfl⟩
 refine ⟨fun p hp=>by rcases List.mem_cons.1 hp with rfl | hp<;>simp [*],?_⟩
 have hsl:sl.2.1=ps.length:=by have:=hb.len; simp at this; omega
 refine o3 (L':=K2++(ct b n sl::L)) List.perm_middle ?_
 refine ed (eZ (L0:=ct b n sl::L) (K:=K2) (size:=1) (bytes:=8) (e:=bl) (m:=1) (news:=[.pointer y]) (by kernel_rfl) rfl hb (Rd.at (List.mem_cons_self ..)) rfl rfl rfl (by decide) (by simp [Value.oneCell']) (by omega) (by omega)) ?_
 rintro x _ _ ⟨K',rfl,rfl,hx,hb'⟩
 refine ⟨fun p hp=>by rcases List.mem_cons.1 hp with rfl | hp<;>simp [*],?_⟩
 refine dv (t1:=tA) ⟨b,0,none⟩ (oO _) ?_
 refine aW (br (L1:=K') (L2:=L) (l:=cL n.kind n.text n.num n.pos sl) (T:=ae) (T0:=bK) (c:=false) rfl (by kernel_rfl) rfl (Nat.le_of_ble_eq_true rfl) (by simp [Value.cells,Value.oneCell'])) ?_
 rintro _ _ _ ⟨rfl,rfl⟩
 refine lw (L':=(b,ap bK (bW (cL n.kind n.text n.num n.pos sl) 5 [.slice x.1 x.2.1 x.2.2]))::(K'++L)) List.perm_middle.symm ?_
 rw [show (b,ap bK (bW (cL n.kind n.text n.num n.pos sl) 5 [.slice x.1 x.2.1 x.2.2]))=ct b (n.push c) x by cases n; rfl]
 refine Sim.know (A:=dl (n.push c) (some ⟨b,0,none⟩) (ct b (n.push c) x::K')) (fun F hF=>?_) ((hk (ct b (n.push c) x::K')).weak fun A hA=>?_)
 ·refine ⟨b,x,ps++[y],K',⟨rfl,rfl,by simpa using hb'⟩,?_⟩
  rw [N.push_eq]
  exact NodesAt.snoc (hF _ (List.mem_cons_of_mem _ hc)) (hF _ (List.mem_cons_of_mem _ hps))
 ·rcases List.mem_cons.1 hA with rfl | hA
  ·exact List.mem_cons_self ..
  ·exact List.mem_cons_of_mem _ (List.mem_cons_of_mem _ hA)
end
def sQ (one:PM N):Nat→N→PM N
 | 0,_=>Sp.stop
 | k+1,n=>do
  let b ← aX gd
  cond b (do let c ← one; sQ one k (n.push c)) (pure n)
def mb (k:Nat) (one:PM N):PM N:=do
 let t ← cj
 let c ← one
 sQ one k (aE 2 kE 0 t.pos [c])
theorem qA {ε σ β:Type} {P:Program} {I:aN ε σ} {t:Ty} {Rel:β→t.den→ak→Fact} {Δ:Labels ε σ β} {q:Option Quiet} {L:ak} {Γ:List Fact} {b:Bool} {x y:T} {s1 s2:Sp ε σ β}
  (h1:b=true→Sim P I t Rel Δ q x s1 L Γ) (h2:b=false→Sim P I t Rel Δ q y s2 L Γ):Sim P I t Rel Δ q (.ite b x y) (cond b s1 s2) L Γ:=by
 cases b with
 | true=>exact qE (fun h=>h1 h) (fun h=>by cases h)
 | false=>exact qE (fun h=>by cases h) (fun h=>h2 h)
theorem N.push_len (n c:N):(n.push c).kids.length=n.kids.length+1:=by cases n; simp [N.push,N.kids]
theorem gO (pb:Nat) (one:Value) (oneS:PM N) (k:Nat) (hk:k≤1099511627776) {Γ:List Fact} (h1:Meets PG (PI pb) (dE one #[]) tP oneS NodeF Γ) :
  MeetsO PG (PI pb) (aa ei #[.pointer (some (aR pb)),one]) tP (mb k oneS) dl Γ:=by
 refine AY (aR pb) one ?_
 unfold m9 mb
 refine ag (bk pb) (fun _ h=>nomatch h) fun x b=>Sim.prop fun h=>?_
 subst h
 refine ag h1 (fun A hA=>hA) fun y c=>?_
 refine DR [y] [c] rfl (by decide) (by decide) (by kernel_rfl) (fun F hF=>NodesAt.one (hF _ (List.mem_cons_self ..))) fun p K=>?_
 refine gH (x:={ ι:=Nat × N,sp:=fun i=>sQ oneS i.1 i.2,J:=fun i vs L'=>Fact.ex fun K:ak=>(Fact.prop (vs=[]∧L'=K++[]∧i.2.kids.length+i.1≤2199023255552)).both (dl i.2 p K) }) (fun i=>i.1) (k,aE 2 kE 0 (Tok.pos x) [c]) rfl ?_ ?_ ?_
 ·exact fun F hF=>⟨K,⟨rfl,rfl,by show 1+k≤_; omega⟩,hF _ (List.mem_cons_self ..)⟩
 ·rintro i vs L' F ⟨K,⟨rfl,_⟩,_⟩; exact ⟨(),rfl⟩
 ·rintro ⟨k,n⟩ L' y'
  refine Sim.ex fun K=>Sim.both (Sim.prop fun ⟨_,hL,hn⟩=>?_)
  subst hL
  cases k with
  | zero=>intro r w F H st res S hs; cases hs
  | succ k =>
   refine ag (az pb _) (fun _ h=>nomatch h) fun x b=>Sim.prop fun h=>?_
   subst h
   refine qA (fun _=>?_) (fun _=>?_)
   ·refine BR fun b sl ps K2 hx hb=>?_
    refine ef h1 (fun A hA=>by simp [hA]) fun y c=>?_
    subst hx
    refine gD hb (List.mem_cons_of_mem _ (List.mem_cons_self ..)) (List.mem_cons_self ..) (by simp at hn; omega) fun K=>?_
    refine Ee ⟨(k,n.push c),Nat.lt_succ_self k⟩ rfl fun F hF=>⟨K,⟨rfl,rfl,by rw [N.push_len]; simp at hn ⊢; omega⟩,hF _ (List.mem_cons_self ..)⟩
   ·exact rZ K (List.sublist_append_left ..) p rfl fun F hF=>hF _ (List.mem_cons_self ..)
end Go.Proofs.YtjlgcpgjdgeejaaGreatDoor
end

section
namespace Go.Proofs.YtjlgcpgjdgeejaaGreatDoor
open Go
set_option linter.unusedSimpArgs false
set_option linter.unusedVariables false
set_option linter.constructorNameAsVariable false
set_option maxRecDepth 100000
section
variable {ε σ α β:Type} {P:Program} {I:aN ε σ} {t:Ty} {Rel:β→t.den→ak→Fact} {Δ:Labels ε σ β} {q:Option Quiet} {L:ak} {Γ:List Fact} {s:Sp ε σ β}
theorem sB {m:T} {a:α} {k:α→Sp ε σ β} (h:Sim P I t Rel Δ q m (k a) L Γ):Sim P I t Rel Δ q m ((Pure.pure a:Sp ε σ α)>>=k) L Γ:=h
theorem q4 {z v:List Value} (h:v.length=z.length):bW z 0 v=v:=by simp [bW,h]
theorem gB {T1:TypeId} {v:Value} {z:List Value} {c:Bool} {k:Addr→T} (hz:oX P T1=some z) (hs:cK P T1=some (c,v.cells.toList.length)) (hl:v.cells.toList.length=z.length) (h1:∀ x∈v.cells.toList,x.oneCell'=true)
  (hk:∀ b,Sim P I t Rel Δ none (k ⟨b,0,none⟩) s L (Fact.at b (ap T1 v.cells.toList)::Γ)):Sim P I t Rel Δ q (.op (bD T1) tA fun r=>.op (a7 T1 (.pointer (some r)) v) tU fun _=>k r) s L Γ:=by
 refine aW (bT hz) ?_
 rintro _ _ _ ⟨b,rfl,rfl,rfl⟩
 refine aW (br (L1:=[]) (T:=T1) (c:=c) rfl hs rfl (by simp [hl]) h1) ?_
 rintro _ _ _ ⟨rfl,rfl⟩
 rw [q4 hl]
 exact nC (hk b)
theorem jP {T1:TypeId} {v:Value} {k:Addr→T} (hk:∀ b,Sim P I t Rel Δ none (k ⟨b,0,none⟩) s L (Fact.at b (ap T1 v.cells.toList)::Γ)):Sim P I t Rel Δ q (.op (iK T1 v) tA k) s L Γ:=by
 refine aW (nV v) ?_
 rintro _ _ _ ⟨b,rfl,rfl,rfl⟩
 exact nC (hk b)
theorem aS {T1 T0:TypeId} {a:Addr} {b1:B} {l:List Value} {k:b1.den→T} (x:b1.den) (hr:Fact.at a.block (ap T0 l)∈Γ) (hs:d5 P T1=some true) (ha:a.spot=none) (hv:l[a.off]? = some (b1.enc x))
  (hk:Sim P I t Rel Δ none (k x) s L Γ):Sim P I t Rel Δ q (.op (am T1 (.pointer (some a))) (.c (.b b1)) k) s L Γ:=by
 refine aW (dt x (Rd.at hr) hs ha hv) ?_
 rintro _ _ _ ⟨rfl,rfl,rfl⟩
 exact hk
theorem ow {T1 T0:TypeId} {a:Addr} {bs:List B} {l:List Value} {k:HB bs→T} (x:HB bs) (hr:Fact.at a.block (ap T0 l)∈Γ) (hs:cK P T1=some (true,(HB.enc bs x).length)) (ha:a.spot=none) (hv:(l.drop a.off).take (HB.enc bs x).length=HB.enc bs x)
  (hk:Sim P I t Rel Δ none (k x) s L Γ):Sim P I t Rel Δ q (.op (am T1 (.pointer (some a))) (.c (.agg bs)) k) s L Γ:=by
 refine aW (f5 x (Rd.at hr) hs ha hv) ?_
 rintro _ _ _ ⟨rfl,rfl,rfl⟩
 exact hk
theorem df {q:Quiet} {T1 T0:TypeId} {a:Addr} {b1:B} {l:List Value} {k:b1.den→T} (x:b1.den) (hr:Fact.at a.block (ap T0 l)∈q.Γ) (hs:d5 P T1=some true) (ha:a.spot=none) (hv:l[a.off]? = some (b1.enc x))
  (hk:Sim P I t Rel Δ (some q) (k x) s L Γ):Sim P I t Rel Δ (some q) (.opq (am T1 (.pointer (some a))) (.c (.b b1)) k) s L Γ :=
 dv (t1:=.c (.b b1)) x (cf (QRd.of fun F hF=>hF _ hr) hs ha hv) hk
theorem HW {q:Quiet} {a:Addr} {k:Addr→T} (hk:Sim P I t Rel Δ (some q) (k a) s L Γ):Sim P I t Rel Δ (some q) (.opq (cg (.pointer (some a))) tA k) s L Γ:=dv (t1:=tA) a (oO a) hk
theorem iY {a:Addr} {k:Addr→T} (hk:Sim P I t Rel Δ none (k a) s L Γ):Sim P I t Rel Δ q (.op (cg (.pointer (some a))) tA k) s L Γ:=by
 refine aW (Jl a) ?_
 rintro _ _ _ ⟨rfl,rfl,rfl⟩
 exact hk
theorem xJ {t1:TypeId} {a b:Int} {k:Int→T} (hk:Sim P I t Rel Δ none (k (fW a b)) s L Γ):Sim P I t Rel Δ q (.op (cU .or t1 (.int .i64 a) (.int .i64 b)) tI k) s L Γ:=by
 refine aW (eG (t1:=tI) (fW a b) fun w=>JV a b) ?_
 rintro _ _ _ ⟨rfl,rfl,rfl⟩
 exact hk
theorem DV {t1:TypeId} {a b:ByteArray} {k:ByteArray→T} (h:a.size+b.size≤9223372036854775807) (hk:Sim P I t Rel Δ none (k (a++b)) s L Γ):Sim P I t Rel Δ q (.op (cU .add t1 (.string a) (.string b)) tS k) s L Γ:=by
 refine aW (eG (t1:=tS) (a++b) fun w=>pO a b h) ?_
 rintro _ _ _ ⟨rfl,rfl,rfl⟩
 exact hk
def Mz {δ:Type} (sp:Nat→δ→Sp ε σ β) (J:Nat→δ→List Value→ak→Fact) (k:Nat):Label ε σ β:={ ι:={ j:Nat × δ // j.1 < k },sp:=fun j=>sp j.1.1 j.1.2,J:=fun j vs L=>J j.1.1 j.1.2 vs L }
theorem oK {δ:Type} {l:Nat} {ts:List C} {vs:List Value} {body:HC ts→T} (sp:Nat→δ→Sp ε σ β) (J:Nat→δ→List Value→ak→Fact) (k0:Nat) (d0:δ) (hz:∀ d,sp 0 d=Sp.stop)
  (hs:s=sp k0 d0) (h0:∀ F,Holds Γ F→(J k0 d0 vs L).p F) (hJ:∀ k d vs L' F,(J k d vs L').p F→∃ y,vs=HC.enc ts y)
  (hb:∀ k d L' y,Sim P I t Rel (Δ.set l (Mz sp J (k+1))) none (body y) (sp (k+1) d) L' (J (k+1) d (HC.enc ts y) L'::Γ)) :
  Sim P I t Rel Δ q (.loop l ts vs body) s L Γ:=by
 refine gH (x:={ ι:=Nat × δ,sp:=fun j=>sp j.1 j.2,J:=fun j vs L=>J j.1 j.2 vs L }) (fun j=>j.1) (k0,d0) hs h0 (fun j vs L' F h=>hJ j.1 j.2 vs L' F h) ?_
 rintro ⟨k,d⟩ L' y
 cases k with
 | zero =>
  intro r w F H st res S hst
  have h1:sp 0 d st=some res:=hst
  rw [hz d] at h1; cases h1
 | succ k=>exact hb k d L' y
theorem MeetsO.congr {s0 s0':Sem Next} (h:∀ w,s0.run P w=s0'.run P w) (hm:MeetsO P I s0' t s Rel Γ):MeetsO P I s0 t s Rel Γ:=fun r w F H st res hs hF hi hsp=>by
 rw [h]; exact hm r w F H st res hs hF hi hsp
theorem pi (f:FuncId) (first cap args:Array Value) (w:World):(dE (.func (.func f) first cap) args).run P w=(aa f (first++args++cap)).run P w:=by
 simp [dE,aa,Deferred.ofValue,invoke]
theorem MeetsO.weak {s0:Sem Next} {Γ':List Fact} (hm:MeetsO P I s0 t s Rel Γ) (h:∀ A∈Γ,A∈Γ'):MeetsO P I s0 t s Rel Γ':=fun r w F H st res hs hF hi hsp=>hm r w F H st res hs (fun A hA=>hF A (h A hA)) hi hsp
end
section
variable {ε σ α β:Type} {I:aN ε σ} {t:Ty} {Rel:β→t.den→ak→Fact} {Δ:Labels ε σ β} {q:Option Quiet} {L:ak} {Γ:List Fact} {s:Sp ε σ β}
theorem jS {m:T} {A:Fact} (hA:A∈Γ) (h:Sim PG I t Rel Δ q m s L (A::Γ)):Sim PG I t Rel Δ q m s L Γ:=Sim.know (fun F hF=>hF A hA) h
theorem qL {n:N} {x:Option Addr} {K:ak} {pos:Int} {k:T} (hn:dl n x K∈Γ) (hk:∀ K,Sim PG I t Rel Δ none k s (K++L) (dl (n.setPos pos) x K::Γ)) :
  Sim PG I t Rel Δ q (.op (cg (.pointer x)) tA fun r=>.op (a7 ar (.pointer (some ⟨r.block,r.off+4,none⟩)) (.int .i64 pos)) tU fun _=>k) s (K++L) Γ:=by
 refine jS hn (ox fun b sl ps K2 hx hb=>?_)
 subst hx
 refine iY ?_
 refine aW (br (L1:=[]) (L2:=K2++L) (l:=cL n.kind n.text n.num n.pos sl) (T:=ar) (T0:=bK) (c:=false) rfl (by kernel_rfl) rfl (Nat.le_of_ble_eq_true rfl) (by simp [Value.cells,Value.oneCell'])) ?_
 rintro _ _ _ ⟨rfl,rfl⟩
 show Sim PG I t Rel Δ none k s ((b,ap bK (bW (cL n.kind n.text n.num n.pos sl) 4 [.int .i64 pos]))::(K2++L)) _
 rw [show (b,ap bK (bW (cL n.kind n.text n.num n.pos sl) 4 [.int .i64 pos]))=ct b (n.setPos pos) sl by cases n; rfl]
 refine Sim.know (A:=dl (n.setPos pos) (some ⟨b,0,none⟩) (ct b (n.setPos pos) sl::K2)) (fun F hF=>?_) ((hk (ct b (n.setPos pos) sl::K2)).weak fun A hA=>?_)
 ·exact ⟨b,sl,ps,K2,⟨rfl,rfl,hb⟩,by have:=hF _ (List.mem_cons_self ..); cases n; exact this⟩
 ·rcases List.mem_cons.1 hA with rfl | hA
  ·exact List.mem_cons_self ..
  ·exact List.mem_cons_of_mem _ (List.mem_cons_of_mem _ hA)
theorem dC {m:T} {n:N} {x:Option Addr} {K:ak} (hn:dl n x K∈Γ) (h:Sim PG I t Rel Δ none m s L (NodeF n x::Γ)):Sim PG I t Rel Δ q m s (K++L) Γ:=jS hn (HX (h.weak fun A hA=>hA))
theorem NodeF.cells {n:N} {x:Option Addr} {F:Heap} (h:(NodeF n x).p F):∃ b sl,x=some ⟨b,0,none⟩∧F b=some (ap bK (cL n.kind n.text n.num n.pos sl)):=by
 have h:NodeAt F x n:=h
 cases h with
 | mk b kind text num pos kids sl ps h1 h2 h3=>exact ⟨b,sl,rfl,h1⟩
theorem jG {m:T} {n:N} {x:Option Addr} (hn:NodeF n x∈Γ) (h:∀ b sl,x=some ⟨b,0,none⟩→Sim PG I t Rel Δ q m s L (Fact.at b (ap bK (cL n.kind n.text n.num n.pos sl))::Γ)):Sim PG I t Rel Δ q m s L Γ:=by
 intro r w F H st res S hs hF hi hsp hq
 obtain ⟨b,sl,hx,hb⟩:=NodeF.cells (hF _ hn)
 exact h b sl hx r w F H st res S hs (Holds.cons hb hF) hi hsp hq
theorem jY {n:N} {x:Option Addr} {k:Int→T} (hn:NodeF n x∈Γ) (hk:Sim PG I t Rel Δ none (k n.kind) s L Γ) :
  Sim PG I t Rel Δ q (.op (cg (.pointer x)) tA fun r=>.op (am ar (.pointer (some r))) tI k) s L Γ:=by
 refine jG hn fun b sl hx=>?_
 subst hx
 refine iY (aS (b1:=.int .i64) n.kind (List.mem_cons_self ..) (by kernel_rfl) rfl rfl (hk.weak fun A hA=>List.mem_cons_of_mem _ hA))
theorem JF {n:N} {x:Option Addr} {k:Int→T} (hn:NodeF n x∈Γ) (hk:Sim PG I t Rel Δ none (k n.num) s L Γ) :
  Sim PG I t Rel Δ q (.op (cg (.pointer x)) tA fun r=>.op (am ar (.pointer (some ⟨r.block,r.off+2,none⟩))) tI k) s L Γ:=by
 refine jG hn fun b sl hx=>?_
 subst hx
 refine iY (aS (b1:=.int .i64) n.num (List.mem_cons_self ..) (by kernel_rfl) rfl rfl (hk.weak fun A hA=>List.mem_cons_of_mem _ hA))
theorem rf {n:N} {x:Option Addr} {K:ak} {sl:aV} {ps:List (Option Addr)} {kids:List N} {k:T} (hn:dl n x K∈Γ) (hs:∀ F,Holds Γ F→(Sl 1 eo sl ps).p F∧NodesAt F ps kids)
  (hk:Sim PG I t Rel Δ none k s L (NodeF (n.setKids kids) x::Γ)) :
  Sim PG I t Rel Δ q (.op (cg (.pointer x)) tA fun r=>.op (a7 ae (.pointer (some ⟨r.block,r.off+5,none⟩)) (.slice sl.1 sl.2.1 sl.2.2)) tU fun _=>k) s (K++L) Γ:=by
 refine jS hn (ox fun b sl0 ps0 K2 hx hb=>?_)
 subst hx
 refine iY ?_
 refine aW (br (L1:=[]) (L2:=K2++L) (l:=cL n.kind n.text n.num n.pos sl0) (T:=ae) (T0:=bK) (c:=false) rfl (by kernel_rfl) rfl (Nat.le_of_ble_eq_true rfl) (by simp [Value.cells,Value.oneCell'])) ?_
 rintro _ _ _ ⟨rfl,rfl⟩
 show Sim PG I t Rel Δ none k s ((b,ap bK (bW (cL n.kind n.text n.num n.pos sl0) 5 [.slice sl.1 sl.2.1 sl.2.2]))::(K2++L)) _
 refine nC (up (List.sublist_append_right K2 L) ?_)
 refine Sim.know (A:=NodeF (n.setKids kids) (some ⟨b,0,none⟩)) (fun F hF=>?_) (hk.weak fun A hA=>?_)
 ·obtain ⟨h1,h2⟩:=hs F fun A hA=>hF A (List.mem_cons_of_mem _ (List.mem_cons_of_mem _ hA))
  have hb':=hF _ (List.mem_cons_self ..)
  cases n
  exact .mk b _ _ _ _ _ sl ps hb' h1 h2
 ·rcases List.mem_cons.1 hA with rfl | hA
  ·exact List.mem_cons_self ..
  ·exact List.mem_cons_of_mem _ (List.mem_cons_of_mem _ (List.mem_cons_of_mem _ hA))
theorem NodeF.kidsAt {n:N} {x:Option Addr} {F:Heap} (h:(NodeF n x).p F):∃ b sl ps,x=some ⟨b,0,none⟩∧F b=some (ap bK (cL n.kind n.text n.num n.pos sl))∧(Sl 1 eo sl ps).p F∧NodesAt F ps n.kids:=by
 have h:NodeAt F x n:=h
 cases h with
 | mk b kind text num pos kids sl ps h1 h2 h3=>exact ⟨b,sl,ps,rfl,h1,h2,h3⟩
theorem nb {m:T} {n:N} {x:Option Addr} (hn:NodeF n x∈Γ) (h:∀ b sl ps,x=some ⟨b,0,none⟩→Sim PG I t Rel Δ q m s L (Fact.at b (ap bK (cL n.kind n.text n.num n.pos sl))::Sl 1 eo sl ps::dc n.kids ps::Γ)):Sim PG I t Rel Δ q m s L Γ:=by
 intro r w F H st res S hs hF hi hsp hq
 obtain ⟨b,sl,ps,hx,hb,h1,h2⟩:=NodeF.kidsAt (hF _ hn)
 exact h b sl ps hx r w F H st res S hs (Holds.cons hb (Holds.cons h1 (Holds.cons (A:=dc n.kids ps) h2 hF))) hi hsp hq
theorem BK {n c:N} {x y:Option Addr} {K:ak} {k:T} (hn:dl n x K∈Γ) (hc:NodeF c y∈Γ) (hk:Sim PG I t Rel Δ none k s L (NodeF (n.setKids c.kids) x::Γ)) :
  Sim PG I t Rel Δ q (.op (cg (.pointer y)) tA fun r=>.op (am ae (.pointer (some ⟨r.block,r.off+5,none⟩))) ai fun sl=>.op (cg (.pointer x)) tA fun r=>.op (a7 ae (.pointer (some ⟨r.block,r.off+5,none⟩)) (.slice sl.1 sl.2.1 sl.2.2)) tU fun _=>k) s (K++L) Γ:=by
 refine nb hc fun b sl ps hx=>?_
 subst hx
 refine iY ?_
 refine aS (b1:=.slice) sl (List.mem_cons_self ..) (by kernel_rfl) rfl rfl ?_
 refine rf (ps:=ps) (List.mem_cons_of_mem _ (List.mem_cons_of_mem _ (List.mem_cons_of_mem _ hn))) (fun F hF=>⟨hF _ (by repeat (first | exact mz | apply ms)),hF (dc c.kids ps) (by repeat (first | exact mz | apply ms))⟩) (hk.weak fun A hA=>?_)
 rcases List.mem_cons.1 hA with rfl | hA
 ·exact List.mem_cons_self ..
 ·exact List.mem_cons_of_mem _ (List.mem_cons_of_mem _ (List.mem_cons_of_mem _ (List.mem_cons_of_mem _ hA)))
theorem gr {n:N} {x:Option Addr} {K:ak} {m:aV→T} (hn:dl n x K∈Γ)
  (hk:∀ b sl ps K2,x=some ⟨b,0,none⟩→Buf bl 1 sl (ps.map Value.pointer) K2 →
   Sim PG I t Rel Δ (some ⟨dc n.kids ps::Γ,[ct b n sl]⟩) (m sl) s (ct b n sl::(K2++L)) (dc n.kids ps::Γ)) :
  Sim PG I t Rel Δ q (.draw<|.opq (cg (.pointer x)) tA fun r7=>.opq (am ae (.pointer (some ⟨r7.block,r7.off+5,none⟩))) ai m) s (K++L) Γ:=by
 refine jS hn (BR fun b sl ps K2 hx hb=>?_)
 exact hk b sl ps K2 hx hb
def Iq (sp:Nat→N→Sp ε σ β) (r:Option Addr) (L:ak) (k:Nat):Label ε σ β :=
 {ι:={ j:Nat × N // j.1 < k },sp:=fun j=>sp j.1.1 j.1.2,J:=fun j vs L'=>Fact.ex fun K:ak=>(Fact.prop (vs=[]∧L'=K++L∧j.1.2.kids.length+2 * j.1.1≤2199023255552)).both (dl j.1.2 r K) }
theorem im {l:Nat} {body:HC []→T} {K0:ak} {r:Option Addr} (sp:Nat→N→Sp ε σ β) (k0:Nat) (n0:N) (hz:∀ d,sp 0 d=Sp.stop) (hs:s=sp k0 n0) (hn:n0.kids.length+2 * k0≤2199023255552) (h0:dl n0 r K0∈Γ)
  (hb:∀ k n K,n.kids.length+2 * (k+1)≤2199023255552→Sim PG I t Rel (Δ.set l (Iq sp r L (k+1))) none (body ()) (sp (k+1) n) (K++L) (dl n r K::Γ)):Sim PG I t Rel Δ q (.loop l [] [] body) s (K0++L) Γ:=by
 refine oK (δ:=N) sp (fun k n vs L'=>Fact.ex fun K:ak=>(Fact.prop (vs=[]∧L'=K++L∧n.kids.length+2 * k≤2199023255552)).both (dl n r K)) k0 n0 hz hs (fun F hF=>⟨K0,⟨rfl,rfl,hn⟩,hF _ h0⟩) ?_ ?_
 ·rintro k n vs L' F ⟨K,⟨rfl,_⟩,_⟩; exact ⟨(),rfl⟩
 ·rintro k n L' ⟨⟩
  refine Sim.ex fun K=>Sim.both (Sim.prop fun ⟨_,hL,hn⟩=>?_)
  subst hL
  exact hb k n K hn
theorem oA {l k:Nat} {K:ak} {r:Option Addr} {sp:Nat→N→Sp ε σ β} (n:N) (hx:Δ l=Iq sp r L (k+1)) (hs:s=sp k n) (hn:n.kids.length+2 * k≤2199023255552) (h:dl n r K∈Γ):Sim PG I t Rel Δ q (.out l []) s (K++L) Γ :=
 cQ hx ⟨(k,n),Nat.lt_succ_self k⟩ hs fun F hF=>⟨K,⟨rfl,rfl,hn⟩,hF _ h⟩
def H4 (sp:N→Sp ε σ β) (r:Option Addr) (L:ak):Label ε σ β:={ ι:=N,sp:=sp,J:=fun n vs L'=>Fact.ex fun K:ak=>(Fact.prop (vs=[]∧L'=K++L)).both (dl n r K) }
theorem mr {l:Nat} {m:T} {k:HC []→T} {L0:ak} (sp:N→Sp ε σ β) (r:Option Addr) (L:ak) (hm:Sim PG I t Rel (Δ.set l (H4 sp r L)) q m s L0 Γ)
  (hk:∀ n K,Sim PG I t Rel Δ none (k ()) (sp n) (K++L) (dl n r K::Γ)):Sim PG I t Rel Δ q (.join l [] m k) s L0 Γ:=by
 refine eu (H4 sp r L) hm fun n vs L'=>⟨?_,?_⟩
 ·rintro F ⟨K,⟨rfl,_⟩,_⟩; exact ⟨(),rfl⟩
 ·rintro ⟨⟩
  refine Sim.ex fun K=>Sim.both (Sim.prop fun ⟨_,hL⟩=>?_)
  subst hL
  exact hk n K
theorem gu {l:Nat} {K:ak} {r:Option Addr} {sp:N→Sp ε σ β} (n:N) (hx:Δ l=H4 sp r L) (hs:s=sp n) (h:dl n r K∈Γ):Sim PG I t Rel Δ q (.out l []) s (K++L) Γ :=
 cQ hx n hs fun F hF=>⟨K,⟨rfl,rfl⟩,hF _ h⟩
def Ix (sp:Nat→N→Sp ε σ β) (L:ak) (k:Nat):Label ε σ β :=
 {ι:={ j:Nat × N // j.1 < k },sp:=fun j=>sp j.1.1 j.1.2,J:=fun j vs L'=>Fact.ex fun p:Option Addr=>(Fact.prop (vs=[.pointer p]∧L'=L)).both (NodeF j.1.2 p) }
theorem sg {l:Nat} {body:HC [.b .ptr]→T} {p0:Option Addr} (sp:Nat→N→Sp ε σ β) (k0:Nat) (n0:N) (hz:∀ d,sp 0 d=Sp.stop) (hs:s=sp k0 n0) (h0:NodeF n0 p0∈Γ)
  (hb:∀ k n p,Sim PG I t Rel (Δ.set l (Ix sp L (k+1))) none (body (p,())) (sp (k+1) n) L (NodeF n p::Γ)):Sim PG I t Rel Δ q (.loop l [.b .ptr] [.pointer p0] body) s L Γ:=by
 refine oK (δ:=N) sp (fun k n vs L'=>Fact.ex fun p:Option Addr=>(Fact.prop (vs=[.pointer p]∧L'=L)).both (NodeF n p)) k0 n0 hz hs (fun F hF=>⟨p0,⟨rfl,rfl⟩,hF _ h0⟩) ?_ ?_
 ·rintro k n vs L' F ⟨p,⟨rfl,_⟩,_⟩; exact ⟨(p,()),rfl⟩
 ·rintro k n L' ⟨y,⟨⟩⟩
  refine Sim.ex fun p=>Sim.both (Sim.prop fun ⟨h1,hL⟩=>?_)
  subst hL
  have h3:y=p:=by
   have:=(List.cons.inj h1).1
   cases this; rfl
  subst h3
  exact hb k n y
theorem uO {l k:Nat} {p:Option Addr} {sp:Nat→N→Sp ε σ β} (n:N) (hx:Δ l=Ix sp L (k+1)) (hs:s=sp k n) (h:NodeF n p∈Γ):Sim PG I t Rel Δ q (.out l [.pointer p]) s L Γ :=
 cQ hx ⟨(k,n),Nat.lt_succ_self k⟩ hs fun F hF=>⟨p,⟨rfl,rfl⟩,hF _ h⟩
theorem kw {Rel:β→t.den→ak→Fact} {Δ:Labels Int PSt β} {I:aN Int PSt} {l:Nat} {m:T} {k:HC []→T} {c:Bool} {rest:PM β} (hm:Sim PG I t Rel (Δ.set l (FY rest L)) q m (cond c cz rest) L Γ)
  (hk:Sim PG I t Rel Δ none (k ()) rest L Γ):Sim PG I t Rel Δ q (.join l [] m k) (cond c cz rest) L Γ:=fI rest hm hk
theorem dU {l:Nat} {m:T} {k:HC [.b .bool]→T} {c:Bool} {s1 s2:Sp ε σ β} (hm:Sim PG I t Rel (Δ.set l (Ft (fun c=>cond c s1 s2) L)) q m (cond c s1 s2) L Γ)
  (hk:∀ c,Sim PG I t Rel Δ none (k (c,())) (cond c s1 s2) L Γ):Sim PG I t Rel Δ q (.join l [.b .bool] m k) (cond c s1 s2) L Γ:=km (fun c=>cond c s1 s2) hm hk
theorem mn {l k:Nat} {p:Option Addr} {sp:Nat→N→Sp ε σ β} (n:N) (hs:s=sp k n) (h:NodeF n p∈Γ):Sim PG I t Rel (Δ.set l (Ix sp L (k+1))) q (.out l [.pointer p]) s L Γ:=uO n (by simp [Labels.set]) hs h
theorem mt {l l' k:Nat} {p:Option Addr} {x:Label ε σ β} {sp:Nat→N→Sp ε σ β} (n:N) (hl:l≠l') (hs:s=sp k n) (h:NodeF n p∈Γ):Sim PG I t Rel ((Δ.set l (Ix sp L (k+1))).set l' x) q (.out l [.pointer p]) s L Γ:=uO n (by simp [Labels.set,hl]) hs h
theorem kh {l k:Nat} {K:ak} {r:Option Addr} {sp:Nat→N→Sp ε σ β} (n:N) (hs:s=sp k n) (hn:n.kids.length+2 * k≤2199023255552) (h:dl n r K∈Γ):Sim PG I t Rel (Δ.set l (Iq sp r L (k+1))) q (.out l []) s (K++L) Γ:=oA n (by simp [Labels.set]) hs hn h
theorem kb {l l' k:Nat} {K:ak} {r:Option Addr} {x:Label ε σ β} {sp:Nat→N→Sp ε σ β} (n:N) (hl:l≠l') (hs:s=sp k n) (hn:n.kids.length+2 * k≤2199023255552) (h:dl n r K∈Γ):Sim PG I t Rel ((Δ.set l (Iq sp r L (k+1))).set l' x) q (.out l []) s (K++L) Γ:=oA n (by simp [Labels.set,hl]) hs hn h
def EP (s':N × N→Sp ε σ β):Label ε σ β :=
 {ι:=N × N,sp:=s',J:=fun c vs L'=>Fact.ex fun p1:Option Addr=>Fact.ex fun p2:Option Addr=>(Fact.prop (vs=[.pointer p1,.pointer p2]∧L'=[])).both ((NodeF c.1 p1).both (NodeF c.2 p2)) }
theorem Dw {l:Nat} {m:T} {k:HC [.b .ptr,.b .ptr]→T} {a:Sp ε σ (N × N)} {s':N × N→Sp ε σ β} (hm:Sim PG I t Rel (Δ.set l (EP s')) q m (a>>=s') L Γ)
  (hk:∀ n1 n2 p1 p2,Sim PG I t Rel Δ none (k (p1,p2,())) (s' (n1,n2)) [] (NodeF n1 p1::NodeF n2 p2::Γ)):Sim PG I t Rel Δ q (.join l [.b .ptr,.b .ptr] m k) (a>>=s') L Γ:=by
 refine eu (EP s') hm fun c vs L'=>⟨?_,?_⟩
 ·rintro F ⟨p1,p2,⟨rfl,_⟩,_⟩; exact ⟨(p1,p2,()),rfl⟩
 ·rintro ⟨y1,y2,⟨⟩⟩
  refine Sim.ex fun p1=>Sim.ex fun p2=>Sim.both (Sim.prop fun ⟨h1,h2⟩=>Sim.both ?_)
  subst h2
  have e1:y1=p1:=by
   have:=(List.cons.inj h1).1
   cases this; rfl
  have e2:y2=p2:=by
   have:=(List.cons.inj (List.cons.inj h1).2).1
   cases this; rfl
  subst e1; subst e2
  exact hk c.1 c.2 _ _
theorem zI {l:Nat} {p1 p2:Option Addr} {s':N × N→Sp ε σ β} (c:N × N) (hs:s=s' c) (h1:NodeF c.1 p1∈Γ) (h2:NodeF c.2 p2∈Γ):Sim PG I t Rel (Δ.set l (EP s')) q (.out l [.pointer p1,.pointer p2]) s L Γ:=by
 refine (up (List.nil_sublist L) ?_).lift
 exact cQ (x:=EP s') (by simp [Labels.set]) c hs fun F hF=>⟨p1,p2,⟨rfl,rfl⟩,hF _ h1,hF _ h2⟩
theorem GG {n c:N} {x y:Option Addr} {K:ak} {k:T} (hn:dl n x K∈Γ) (hc:NodeF c y∈Γ) (hlen:n.kids.length≤4398046511104)
  (hk:∀ K,Sim PG I t Rel Δ none k s (K++L) (dl (n.push c) x K::Γ)) :
  Sim PG I t Rel Δ q (.op (cg (.pointer x)) tA fun r7=>.op (am ae (.pointer (some ⟨r7.block,r7.off+5,none⟩))) ai fun sl=>.op (aG ae 1 #[(0,.pointer y)]) ai fun r10=>.op (cW #[ae,ae] ae #[.slice sl.1 sl.2.1 sl.2.2,.slice r10.1 r10.2.1 r10.2.2]) ai fun r11 =>
   .op (cg (.pointer x)) tA fun r12=>.op (a7 ae (.pointer (some ⟨r12.block,r12.off+5,none⟩)) (.slice r11.1 r11.2.1 r11.2.2)) tU fun _=>k) s (K++L) Γ:=by
 refine jS hn (ox fun b sl ps K2 hx hb=>?_)
 subst hx
 refine Sim.note (φ:=ps.length=n.kids.length) (fun F hF=>NodesAt.length (hF (dc n.kids ps) (List.mem_cons_self ..))) fun hl=>?_
 refine iY ?_
 refine aW (dt (b1:=.slice) (x:=sl) (Rd.own (List.mem_cons_self ..)) (by kernel_rfl) rfl rfl) ?_
 rintro _ _ _ ⟨rfl,rfl,rfl⟩
 refine aW yw ?_
 rintro _ _ _ ⟨bn,rfl,rfl,rfl⟩
 have hsl:sl.2.1=ps.length:=by have:=hb.len; simp at this; omega
 refine lw (L':=K2++(ct b n sl::L)) List.perm_middle ?_
 refine aW (eZ (L0:=ct b n sl::L) (K:=K2) (size:=1) (bytes:=8) (e:=bl) (m:=1) (news:=[.pointer y]) (by kernel_rfl) rfl hb (Rd.at (List.mem_cons_self ..)) rfl rfl rfl (by decide) (by simp [Value.oneCell']) (by omega) (by omega)) ?_
 rintro x _ _ ⟨K',rfl,rfl,hx,hb'⟩
 refine iY ?_
 refine aW (br (L1:=K') (L2:=L) (l:=cL n.kind n.text n.num n.pos sl) (T:=ae) (T0:=bK) (c:=false) rfl (by kernel_rfl) rfl (Nat.le_of_ble_eq_true rfl) (by simp [Value.cells,Value.oneCell'])) ?_
 rintro _ _ _ ⟨rfl,rfl⟩
 refine lw (L':=(b,ap bK (bW (cL n.kind n.text n.num n.pos sl) 5 [.slice x.1 x.2.1 x.2.2]))::(K'++L)) List.perm_middle.symm ?_
 rw [show (b,ap bK (bW (cL n.kind n.text n.num n.pos sl) 5 [.slice x.1 x.2.1 x.2.2]))=ct b (n.push c) x by cases n; rfl]
 refine Sim.know (A:=dl (n.push c) (some ⟨b,0,none⟩) (ct b (n.push c) x::K')) (fun F hF=>?_) ((hk (ct b (n.push c) x::K')).weak fun A hA=>?_)
 ·refine ⟨b,x,ps++[y],K',⟨rfl,rfl,by simpa using hb'⟩,?_⟩
  rw [N.push_eq]
  exact NodesAt.snoc (hF _ (List.mem_cons_of_mem _ (List.mem_cons_of_mem _ hc))) (hF (dc n.kids ps) (List.mem_cons_of_mem _ (List.mem_cons_self ..)))
 ·rcases List.mem_cons.1 hA with rfl | hA
  ·exact List.mem_cons_self ..
  ·exact List.mem_cons_of_mem _ (List.mem_cons_of_mem _ (List.mem_cons_of_mem _ hA))
def ta (P:Program) (t:TypeId):Bool:=match P.underlying t with
 | some (.pointer _)=>true
 | _=>false
theorem ws {P:Program} {t:TypeId} (h:ta P t=true):∃ e,P.underlying t=some (.pointer e):=by
 unfold ta at h
 split at h
 ·exact ⟨_,by assumption⟩
 ·cases h
theorem Ge {P:Program} {t:TypeId} (ht:ta P t=true) (p:Option Addr) (w:World):(cU .eql t (.pointer p) (.pointer none)).run P w=.ok (.value (.bool p.isNone)) w:=by
 obtain ⟨e,hu⟩:=ws ht
 have h:(Op.equal t (.pointer p) (.pointer none)).run P w=.ok p.isNone w:=by
  unfold Op.equal
  rw [show Op.maxDepth=9999+1 from rfl,Op.equalIn]
  rw [Sem.run_bind,run_underlying hu,Result.andThen_ok]
  cases p<;>rfl
 simp [cU,cG,eqGuard,binOp,h]
theorem GE {P:Program} {t:TypeId} (ht:ta P t=true) (p:Option Addr) (w:World):(cU .neq t (.pointer p) (.pointer none)).run P w=.ok (.value (.bool !p.isNone)) w:=by
 obtain ⟨e,hu⟩:=ws ht
 have h:(Op.equal t (.pointer p) (.pointer none)).run P w=.ok p.isNone w:=by
  unfold Op.equal
  rw [show Op.maxDepth=9999+1 from rfl,Op.equalIn]
  rw [Sem.run_bind,run_underlying hu,Result.andThen_ok]
  cases p<;>rfl
 simp [cU,cG,eqGuard,binOp,h]
theorem zB {t1:TypeId} {p:Option Addr} {k:Bool→T} (ht:ta PG t1=true) (hk:Sim PG I t Rel Δ none (k p.isNone) s L Γ):Sim PG I t Rel Δ q (.op (cU .eql t1 (.pointer p) (.pointer none)) tB k) s L Γ:=by
 refine aW (eG (t1:=tB) p.isNone fun w=>Ge ht p w) ?_
 rintro _ _ _ ⟨rfl,rfl,rfl⟩
 exact hk
theorem zL {t1:TypeId} {p:Option Addr} {k:Bool→T} (ht:ta PG t1=true) (hk:Sim PG I t Rel Δ none (k !p.isNone) s L Γ):Sim PG I t Rel Δ q (.op (cU .neq t1 (.pointer p) (.pointer none)) tB k) s L Γ:=by
 refine aW (eG (t1:=tB) (!p.isNone) fun w=>GE ht p w) ?_
 rintro _ _ _ ⟨rfl,rfl,rfl⟩
 exact hk
theorem B3 {m:T}:Sim PG I t Rel Δ q m (Sp.stop:Sp ε σ β) L Γ:=fun r w F H st res S hs=>by cases hs
theorem wk (f:FuncId) (a p:Value) (w:World):(dE (.func (.func f) #[] #[p]) #[a]).run PG w=(aa f #[a,p]).run PG w:=by rw [pi]; rfl
theorem fP (f:FuncId) (p:Value) (w:World):(dE (.func (.func f) #[p] #[]) #[]).run PG w=(aa f #[p]).run PG w:=by rw [pi]; rfl
theorem wS (f:FuncId) (p:Value) (w:World):(dE (.func (.func f) #[] #[p]) #[]).run PG w=(aa f #[p]).run PG w:=by rw [pi]; rfl
theorem wu (f:FuncId) (p u:Value) (w:World):(dE (.func (.func f) #[] #[p,u]) #[]).run PG w=(aa f #[p,u]).run PG w:=by rw [pi]; rfl
theorem ez {α γ:Type} (k:γ→PM α) (st:PSt):∃ y,(cz:PM Unit) st=some (.err y)∧((cz:PM γ)>>=k) st=some (.err y):=⟨_,rfl,rfl⟩
theorem vW (Le:ak) (hLe:∀ p∈Le,p∈L) {n:N} {x:Option Addr} {K:ak} {m:aV→T} (hn:dl n x K∈Γ)
  (hk:∀ b sl ps K2,x=some ⟨b,0,none⟩→Buf bl 1 sl (ps.map Value.pointer) K2 →
   Sim PG I t Rel Δ (some ⟨dc n.kids ps::Γ,ct b n sl::Le⟩) (m sl) s (ct b n sl::(K2++L)) (dc n.kids ps::Γ)) :
  Sim PG I t Rel Δ q (.draw<|.opq (cg (.pointer x)) tA fun r7=>.opq (am ae (.pointer (some ⟨r7.block,r7.off+5,none⟩))) ai m) s (K++L) Γ:=by
 refine jS hn (Gp Le hLe fun b sl ps K2 hx hb=>?_)
 exact hk b sl ps K2 hx hb
end
end Go.Proofs.YtjlgcpgjdgeejaaGreatDoor
end

section
namespace Go.Proofs.YtjlgcpgjdgeejaaGreatDoor
open Go
set_option linter.unusedSimpArgs false
set_option linter.unusedVariables false
set_option maxRecDepth 100000
structure a6 where
 fuel:Nat
 expr:PM N
 typed:PM N
 block:PM N
 unary:PM N
 branch:PM N
 statement:PM N
 declaration:Tok→PM (Option N)
def IG:a6:=⟨0,Sp.stop,Sp.stop,Sp.stop,Sp.stop,Sp.stop,Sp.stop,fun _=>Sp.stop⟩
abbrev oz (x y:PM Bool):PM Bool:=do let b ← x; cond b (pure true) y
abbrev u4 (x y:PM Bool):PM Bool:=do let b ← x; cond b y (pure false)
def bP (pos:Int) (l:List N):N:=aE 2 kE 0 pos l
def cy (t:Tok):Int :=
 if t.kind==6 then 1 else if t.kind==8 then -1 else if t.kind==9 then
  if t.text.toList==k_lp.toList||t.text.toList==k_lb.toList||t.text.toList==k_lc.toList then 1
  else if t.text.toList==k_rp.toList||t.text.toList==k_rb.toList||t.text.toList==k_rc.toList then -1 else 0
 else 0
def nS (l:List Tok):Nat→Nat→Int→Tok
 | 0,_,_=>l.getD (l.length - 1) bt
 | k+1,i,n=>let n:=n+cy (l.getD i bt)
  if n==0 then l.getD (min (i+1) (l.length - 1)) bt else nS l k (i+1) n
def qe:PM Tok:=fun s=>some (.ok (nS s.l (s.l.length - s.i) s.i 0) s)
def ep (t:Tok):Bool:=t.kind==9&&decide (2≤t.text.size)&&aY t.text 0==62
def dk (t:Tok):Tok:=⟨t.kind,t.text.extract 1 t.text.size,IntKind.i64.wrap (t.pos+1),t.fin,()⟩
def kT (t:Tok):HC [.agg el,.b .bool]:=if ep t then (dk t,true,()) else (bt,false,())
def oM:PM Unit:=do
 let b ← aX uI
 cond b (pure ()) do
  let t ← cj
  cond (ep t) (fun s=>some (.ok () { s with left:=dk t,split:=true })) cz
def lp (s:ByteArray):Int:=(Lib.atoi s.data.toList).getD 0
def eY (R:a6):PM N:=do
 let t ← cj
 let b ← aX jU
 cond b (do
  let l ← mb R.fuel R.typed
  oM
  pure (l.setPos t.pos)) d4
def xY:PM N:=do
 let t ← cj
 let s ← cV
 pure (aE 67 s 0 t.pos [])
def je (R:a6):PM N:=do
 let t ← cj
 let b ← aX jU
 cond b (do
  let l ← mb R.fuel xY
  oM
  pure (l.setPos t.pos)) d4
def o9:Nat→ByteArray→PM ByteArray
 | 0,_=>Sp.stop
 | k+1,s=>do
  let b ← aX k_dot
  cond b (do let x ← cV; o9 k (s++(k_dot++x))) (pure s)
def rU (R:a6):PM N:=do
 let t ← cj
 let b ← oz (aX knull) (oz (aX kundefined) (oz (aX ktrue) (aX kfalse)))
 cond b (do let e ← d4; pure (aE 80 t.text 0 t.pos [e])) do
  let s ← cV
  let s ← o9 R.fuel s
  let a ← eY R
  pure (aE 80 s 0 t.pos [a])
def nH (R:a6) (word:ByteArray):PM N:=do
 let t ← cj
 let b ← aX word
 cond b (do let l ← mb R.fuel (rU R); pure (l.setPos t.pos)) d4
def dT (R:a6):PM N:=do
 let b ← aX gc
 cond b R.typed eD
def qc (R:a6) (marks:Bool):PM N:=do
 let t ← cj
 let b ← cond marks (aX DH) (pure false)
 let n ← cond b (pure (fW 0 2)) (pure 0)
 let b ← cond marks (aX j8) (pure false)
 let n ← cond b (pure (fW n 4)) (pure n)
 let s ← cV
 let b ← aX ka
 let n ← cond b (pure (fW n 1)) (pure n)
 let o ← dT R
 pure (aE 66 s n t.pos [o])
def gX (R:a6) (marks:Bool):PM N:=do
 let b ← dS k_rp
 cond b d4 (mb R.fuel (qc R marks))
def qz (R:a6):PM N:=do
 let t ← cj
 let s ← cV
 let b ← dS k_lp
 cond b (do
  let o ← cj
  a8 k_lp
  let l ← gX R false
  a8 k_rp
  a8 gc
  let x ← R.typed
  pure (aE 85 s 0 t.pos [aE 86 kE 0 o.pos [l,x]])) do
  let q ← aX ka
  let n ← cond q (pure 1) (pure 0)
  a8 gc
  let x ← R.typed
  pure (aE 85 s n t.pos [x])
def lV (R:a6):Nat→N→PM N
 | 0,_=>Sp.stop
 | k+1,n=>do
  let b ← dS k_rc
  cond b (do a8 k_rc; pure n) do
   let x ← qz R
   let b ← oz (aX cw) (aX gd)
   cond b (lV R k (n.push x)) (do a8 k_rc; pure (n.push x))
def ew (R:a6):PM N:=do
 let t ← cj
 a8 k_lc
 lV R R.fuel (aE 84 kE 0 t.pos [])
def iV (R:a6):PM N:=do
 let t ← cj
 a8 k_lp
 let l ← gX R false
 a8 k_rp
 a8 gW
 let x ← R.typed
 pure (aE 86 kE 0 t.pos [l,x])
def qs (R:a6):PM N:=do
 let t ← cj
 let b ← u4 (dS k_lp) (do let c ← qe; pure (cB c gW))
 cond b (iV R) do
  let b ← aX k_lp
  cond b (do let x ← R.typed; a8 k_rp; pure x) <|
   cond (t.kind==3) (do let _ ← dm; pure (aE 81 kE (lp t.text) t.pos [])) do
    let b ← aX g9
    cond b (do
     let u ← cj
     cond (u.kind != 3) cz (do let v ← dm; pure (aE 81 kE (IntKind.i64.wrap (0 - lp v.text)) t.pos []))) <|
     cond (t.kind==4) (do let _ ← dm; pure (aE 82 t.text 0 t.pos [])) do
      let b ← dS k_lc
      cond b (ew R) (rU R)
def lK (pos:Int):Nat→N→PM N
 | 0,_=>Sp.stop
 | k+1,n=>do
  let b ← u4 (dS k_lb) (do let t ← iX 1; pure (cB t k_rb))
  cond b (do let _ ← dm; let _ ← dm; lK pos k (aE 83 kE 0 pos [n])) (pure n)
def l9 (R:a6):PM N:=do
 let t ← cj
 let x ← qs R
 lK t.pos R.fuel x
def k7 (R:a6):Nat→N→PM N
 | 0,_=>Sp.stop
 | k+1,n=>do
  let b ← aX hZ
  cond b (do let x ← l9 R; k7 R k (n.push x)) (pure n)
def pR (R:a6):PM N:=do
 let t ← cj
 let _ ← aX hZ
 let x ← l9 R
 let b ← dS hZ
 cond b (k7 R R.fuel (aE 87 kE 0 t.pos [x])) (pure x)
def jH (R:a6):PM Bool:=fun s=>match (do let _ ← eY R; dS k_lp:PM Bool) s with
 | none=>none
 | some (.err _)=>some (.ok false s)
 | some (.ok b _)=>some (.ok b s)
def qr:PM Bool:=do
 let t ← cj
 cond (t.kind==1) (do let u ← iX 1; pure (cB u gW)) do
  let b ← dS k_lp
  cond b (do let u ← qe; pure (cB u gW)) (dS jU)
def lr (R:a6) (pos:Int):PM N:=do
 let e1 ← d4
 let e2 ← d4
 let t ← cj
 let vp ← cond (t.kind==1) (do
   let s ← cV
   let o ← eD
   pure (e1,e2.setKids [aE 66 s 0 pos [o]])) (do
   let v ← je R
   a8 k_lp
   let p ← gX R false
   a8 k_rp
   pure (v,p):PM (N × N))
 a8 gW
 let b ← dS k_lc
 let x ← cond b R.block R.expr
 pure (aE 22 kE 0 pos [vp.1,vp.2,x])
def tf (R:a6) (l4:PM N):PM N:=do
 let t ← cj
 let a ← qr
 cond a (lr R t.pos) do
  let x ← l4
  let u ← cj
  let b ← oz (aX lc) (oz (aX zn) (oz (aX vr) (oz (aX zr) (aX Cj))))
  cond b (cond (x.kind != 17&&x.kind != 29&&x.kind != 30) cz (do
   let y ← R.expr
   pure (aE 26 u.text 0 t.pos [x,y]))) (pure x)
def jA (R:a6):PM N:=do
 a8 k_lp
 let e ← d4
 let b ← dS k_rp
 let l ← cond b (pure e) (mb R.fuel R.expr)
 a8 k_rp
 pure l
def od (R:a6):Nat→N→PM N
 | 0,_=>Sp.stop
 | k+1,n=>do
  let b ← dS k_rc
  cond b (do a8 k_rc; pure n) do
   let t ← cj
   let s ← cV
   let c ← aX gc
   let x ← cond c R.expr (pure (aE 17 s 0 t.pos []))
   let b ← aX gd
   let n:=n.push (aE 21 s 0 t.pos [x])
   cond b (od R k n) (do a8 k_rc; pure n)
def nR (R:a6):PM N:=do
 let t ← cj
 a8 k_lc
 od R R.fuel (aE 20 kE 0 t.pos [])
def iF (R:a6):Nat→Tok→N→PM N
 | 0,_,_=>Sp.stop
 | k+1,t,n=>cond (t.kind != 5&&t.kind != 8) (do
   let x ← R.expr
   let u ← cj
   cond (u.kind != 7&&u.kind != 8) cz do
    let v ← dm
    iF R k v ((n.push x).push (aE 11 v.text 0 v.pos []))) (pure n)
def ke (R:a6):PM N:=do
 let t ← dm
 iF R R.fuel t (aE 12 kE 0 t.pos [aE 11 t.text 0 t.pos []])
def dP (s:ByteArray):Int :=
 if s.toList==ktrue.toList then 13 else if s.toList==kfalse.toList then 14 else if s.toList==knull.toList then 15
 else if s.toList==kundefined.toList then 16 else if s.toList==kthis.toList then 18 else 0
def membersS (pos:Int):Nat→N→PM N
 | 0,_=>Sp.stop
 | k+1,x=>do
  let b ← aX k_dot
  cond b (do let s ← cV; membersS pos k (aE 29 s 0 pos [x])) (pure x)
def nU (R:a6) (t:Tok):PM N :=
 cond (dP t.text != 0) (do let _ ← dm; pure (aE (dP t.text) kE 0 t.pos [])) do
  let b ← aX J4
  cond b (do
   let f ← cj
   let s ← cV
   let x ← membersS f.pos R.fuel (aE 17 s 0 f.pos [])
   let a ← eY R
   let g ← jA R
   pure (aE 28 kE 0 t.pos [x,a,g])) do
    let b ← aX GA
    cond b (do
     let d ← aX k_dot
     cond d (do let s ← cV; pure (aE 32 s 0 t.pos [])) (do let g ← jA R; pure (aE 31 kE 0 t.pos [g]))) cz
def la (R:a6):PM N:=do
 let t ← cj
 cond (t.kind==3) (do let _ ← dm; pure (aE 10 kE (lp t.text) t.pos [])) <|
  cond (t.kind==4) (do let _ ← dm; pure (aE 11 t.text 0 t.pos [])) <|
  cond (t.kind==5||t.kind==6) (ke R) <|
  cond (t.kind==1) (do let _ ← dm; pure (aE 17 t.text 0 t.pos [])) <|
  cond (t.kind==2) (nU R t) do
   let b ← aX k_lp
   cond b (do let x ← R.expr; a8 k_rp; pure x) do
    let b ← aX k_lb
    cond b (do
     let e ← dS k_rb
     let l ← cond e (pure (bP t.pos [])) (mb R.fuel R.expr)
     a8 k_rb
     pure (aE 19 kE 0 t.pos l.kids)) (nR R)
def gT (R:a6) (pos:Int):Nat→N→PM N
 | 0,_=>Sp.stop
 | k+1,x=>do
  let b ← aX k_dot
  cond b (do let s ← cV; gT R pos k (aE 29 s 0 pos [x])) do
   let b ← aX k_lb
   cond b (do let y ← R.expr; a8 k_rb; gT R pos k (aE 30 kE 0 pos [x,y])) do
    let b ← oz (dS k_lp) (u4 (dS jU) (jH R))
    cond b (do let a ← eY R; let g ← jA R; gT R pos k (aE 27 kE 0 pos [x,a,g])) do
     let b ← aX rO
     cond b (gT R pos k (aE 34 kE 0 pos [x])) (pure x)
def li (R:a6):PM N:=do
 let t ← cj
 let x ← la R
 gT R t.pos R.fuel x
def ol (R:a6):PM N:=do
 let t ← cj
 let b ← oz (aX rO) (oz (aX g9) (oz (aX DZ) (aX El)))
 cond b (do let x ← R.unary; pure (aE 23 t.text 0 t.pos [x])) (li R)
def iu (n:Nat):List ByteArray :=
 match n with
 | 0=>[mp] | 1=>[mo] | 2=>[hZ] | 3=>[pY] | 4=>[u6] | 5=>[kV,iM]
 | 6=>[jU,p7,uI,qf,GS,kas] | 7=>[qg,qo,kD] | 8=>[sa,g9] | 9=>[su,vT] | _=>[]
def jz:List ByteArray→PM (Option ByteArray)
 | []=>pure none
 | s::l=>do
  let b ← aX s
  cond b (pure (some s)) (jz l)
def f6 (R:a6) (ss:List ByteArray) (pos:Int) (below:PM N):Nat→N→PM N
 | 0,_=>Sp.stop
 | k+1,x=>jz ss>>=fun o=>match o with
  | none=>pure x
  | some s=>cond (s.toList==kas.toList) (do let y ← R.typed; f6 R ss pos below k (aE 33 kE 0 pos [x,y])) (do let y ← below; f6 R ss pos below k (aE 24 s 0 pos [x,y]))
def gV (R:a6):Nat→PM N
 | 0=>ol R
 | m+1=>do
  let t ← cj
  let x ← gV R m
  f6 R (iu (9 - m)) t.pos (gV R m) R.fuel x
def l4 (R:a6):PM N:=do
 let t ← cj
 let x ← gV R 10
 let b ← aX ka
 cond b (do
  let y ← R.expr
  a8 gc
  let z ← R.expr
  pure (aE 25 kE 0 t.pos [x,y,z])) (pure x)
def pU (R:a6):Nat→N→PM N
 | 0,_=>Sp.stop
 | k+1,n=>do
  let b ← dS k_rc
  cond b (do a8 k_rc; pure n) (do let x ← R.statement; pU R k (n.push x))
def qt (R:a6):PM N:=do
 let t ← cj
 a8 k_lc
 pU R R.fuel (aE 63 kE 0 t.pos [])
def oU (R:a6):PM N:=do
 a8 k_lp
 let x ← R.expr
 a8 k_rp
 pure x
def mh (R:a6) (kind pos:Int) (may:Bool):PM N:=do
 let n ← eD
 let c ← cond (!may) (pure true) (do let b ← dS cw; pure (!b))
 let x ← cond c R.expr (pure n)
 a8 cw
 pure (aE kind kE 0 pos [x])
def eA (R:a6) (n pos:Int):PM N:=do
 let s ← cV
 let t ← dT R
 a8 lc
 let x ← R.expr
 pure (aE 40 s n pos [t,x])
def fC (R:a6) (kind pos:Int):PM N:=do
 let s ← cV
 let v ← je R
 a8 k_lp
 let l ← gX R false
 a8 k_rp
 let t ← dT R
 let b ← R.block
 pure (aE kind s 0 pos [v,l,t,b])
def oe (R:a6) (e:ByteArray):PM N:=do
 let n ← eD
 let b ← dS e
 let x ← cond b (pure n) R.expr
 a8 e
 pure x
def sU (R:a6) (pos:Int):PM N:=do
 a8 k_lp
 let b ← u4 (oz (dS kW) (dS kconst)) (u4 (do let t ← iX 1; pure (t.kind==1)) (do let t ← iX 2; pure (cB t Eo)))
 cond b (do
  let t ← dm
  let n ← cond (t.text.toList==kconst.toList) (pure 1) (pure 0)
  let s ← cV
  a8 Eo
  let x ← R.expr
  a8 k_rp
  let y ← R.block
  pure (aE 56 s n pos [x,y])) do
   let n ← eD
   let t ← cj
   let b ← aX kW
   let f ← cond b (eA R 0 t.pos) (pure n)
   a8 cw
   let c ← oe R cw
   let d ← oe R k_rp
   let y ← R.block
   pure (aE 55 kE 0 pos [f,c,d,y])
def yp (R:a6) (pos:Int):PM N:=do
 let x ← R.block
 let n ← eD
 let t ← cj
 let b ← aX GK
 let y ← cond b (do
  a8 k_lp
  let s ← cV
  a8 k_rp
  let z ← R.block
  pure (aE 62 s 0 t.pos [z])) (pure n)
 let n ← eD
 let b ← aX ue
 let z ← cond b R.block (pure n)
 cond (y.kind==1&&z.kind==1) cz (pure (aE 61 kE 0 pos [x,y,z]))
def lD (R:a6):PM N:=do
 let t ← cj
 a8 DU
 let x ← oU R
 let y ← R.block
 let n ← eD
 let b ← aX ID
 let z ← cond b (do let c ← dS DU; cond c R.branch R.block) (pure n)
 pure (aE 53 kE 0 t.pos [x,y,z])
def tj (R:a6):PM N:=do
 let t ← cj
 let b ← aX so
 cond b (do
  a8 k_lp
  let l ← gX R true
  a8 k_rp
  let y ← R.block
  pure (aE 46 kE 0 t.pos [l,y])) do
   let u ← iX 1
   let c ← (do let v ← cj; cond (v.kind==1) (cond (cB u k_lp) (pure true) (pure (cB u jU))) (pure false):PM Bool)
   cond c (fC R 45 t.pos) do
    let r ← aX j8
    let m ← cond r (pure 4) (pure 0)
    let s ← cV
    let o ← dT R
    let n ← eD
    let b ← aX lc
    let x ← cond b R.expr (pure n)
    a8 cw
    pure (aE 44 s m t.pos [o,x])
def membersCS (R:a6):Nat→Int→N→PM (Int × N)
 | 0,_,_=>Sp.stop
 | k+1,c,n=>do
  let b ← dS k_rc
  cond b (pure (c,n)) (do let x ← tj R; membersCS R k (if x.kind==46 then c+1 else c) (n.push x))
def og (R:a6) (pos:Int):PM N:=do
 let s ← cV
 let v ← je R
 let n ← eD
 let t ← cj
 let b ← aX oy
 let base ← cond b (do
  let m ← cV
  let a ← eY R
  pure (aE 43 m 0 t.pos [a])) (pure n)
 let impl ← nH R pM
 a8 k_lc
 let e ← d4
 let cp ← membersCS R R.fuel 0 e
 cond (decide (cp.1 > 1)) cz do
  a8 k_rc
  pure (aE 42 s 0 pos [v,base,impl,cp.2])
def oV (R:a6):Nat→N→PM N
 | 0,_=>Sp.stop
 | k+1,n=>do
  let b ← dS k_rc
  cond b (do a8 k_rc; pure n) do
   let t ← cj
   let s ← cV
   let z ← eD
   let c ← aX lc
   let x ← cond c R.expr (pure z)
   let b ← aX gd
   let n:=n.push (aE 48 s 0 t.pos [x])
   cond b (oV R k n) (do a8 k_rc; pure n)
def po (R:a6) (n pos:Int):PM N:=do
 a8 qH
 let s ← cV
 a8 k_lc
 oV R R.fuel (aE 47 s n pos [])
def jC (R:a6):Nat→N→PM N
 | 0,_=>Sp.stop
 | k+1,n=>do
  let b ← dS k_rc
  cond b (do a8 k_rc; pure n) do
   let t ← cj
   let b ← aX Ea
   cond b (do
    let c ← oz (dS kW) (do let u ← cj; pure (u.kind != 2))
    cond c cz do
     let u ← cj
     let x ← R.declaration u
     match x with
     | none=>cz
     | some x=>cond (x.kind==47&&x.num==1) cz (jC R k (n.push (aE 50 kE 0 t.pos [x])))) (do
    let x ← R.statement
    jC R k (n.push x))
def gx (R:a6) (pos:Int):PM N:=do
 let s ← cV
 a8 k_lc
 jC R R.fuel (aE 49 s 0 pos [])
def fs (R:a6) (t:Tok):PM (Option N):=do
 let b ← u4 (dS kconst) (do let u ← iX 1; pure (cB u qH))
 cond b (do let _ ← dm; let x ← po R 1 t.pos; pure (some x)) do
  let b ← aX kW
  cond b (do let x ← eA R 0 t.pos; a8 cw; pure (some x)) do
   let b ← aX kconst
   cond b (do let x ← eA R 1 t.pos; a8 cw; pure (some x)) do
    let b ← aX rK
    cond b (do let x ← fC R 41 t.pos; pure (some x)) do
     let b ← aX B4
     cond b (do let x ← og R t.pos; pure (some x)) do
      let b ← dS qH
      cond b (do let x ← po R 0 t.pos; pure (some x)) do
       let b ← aX qP
       cond b (do let x ← gx R t.pos; pure (some x)) do
        let b ← aX q0
        cond b (do
         let s ← cV
         let v ← je R
         let l ← nH R oy
         let o ← ew R
         pure (some (aE 51 s 0 t.pos [v,l,o]))) do
          let b ← aX E4
          cond b (do
           let s ← cV
           let v ← je R
           a8 lc
           let x ← R.typed
           a8 cw
           pure (some (aE 52 s 0 t.pos [v,x]))) (pure none)
def fT (R:a6) (t:Tok):PM N:=do
 let b ← dS k_lc
 cond b R.block do
  let b ← aX cw
  cond b (pure (aE 65 kE 0 t.pos [])) do
   let b ← dS DU
   cond b (lD R) do
    let b ← aX Gv
    cond b (do let x ← oU R; let y ← R.block; pure (aE 54 kE 0 t.pos [x,y])) do
     let b ← aX J3
     cond b (sU R t.pos) do
      let b ← aX DX
      cond b (mh R 57 t.pos true) do
       let b ← aX F8
       cond b (mh R 60 t.pos false) do
        let b ← aX FZ
        cond b (do a8 cw; pure (aE 58 kE 0 t.pos [])) do
         let b ← aX ze
         cond b (do a8 cw; pure (aE 59 kE 0 t.pos [])) do
          let b ← aX Kt
          cond b (yp R t.pos) (mh R 64 t.pos false)
def iP (R:a6):PM N:=do
 let t ← cj
 cond (t.kind==2) (do
  let x ← fs R t
  match x with
  | some x=>pure x
  | none=>fT R t) (fT R t)
def Li (R:a6):a6 :=
 {fuel:=R.fuel+1,expr:=tf R (l4 R),typed:=pR R,block:=qt R,unary:=ol R,branch:=lD R,statement:=iP R,declaration:=fs R }
def de:Nat→a6
 | 0=>IG
 | n+1=>Li (de n)
end Go.Proofs.YtjlgcpgjdgeejaaGreatDoor
end

section
namespace Go.Proofs.YtjlgcpgjdgeejaaGreatDoor
open Go
set_option linter.unusedSimpArgs false
set_option linter.unusedVariables false
set_option linter.constructorNameAsVariable false
set_option maxRecDepth 100000
theorem E6 {ε σ β:Type} {P:Program} {I:aN ε σ} {t:Ty} {Rel:β→t.den→ak→Fact} {Δ:Labels ε σ β} {q:Quiet} {L:ak} {Γ:List Fact} {s:Sp ε σ β} {T1 T0:TypeId} {a:Addr} {b1:B} {l:List Value} {k:b1.den→T} (x:b1.den)
  (hr:(a.block,ap T0 l)∈L) (hs:d5 P T1=some true) (ha:a.spot=none) (hv:l[a.off]? = some (b1.enc x)) (hq:q.L=[]) (hk:Sim P I t Rel Δ (some q) (k x) s L Γ):Sim P I t Rel Δ (some q) (.opl (am T1 (.pointer (some a))) (.c (.b b1)) k) s L Γ:=by
 refine ed (dt x (Rd.own hr) hs ha hv) ?_
 rintro _ _ _ ⟨rfl,rfl,rfl⟩
 exact ⟨by simp [hq],hk⟩
theorem II {ε σ:Type} (I:aN ε σ) (t:Tok):Meets PG I (aa px #[.agg #[.int .i64 t.1,.string t.2.1,.int .i64 t.2.2.1,.int .i64 t.2.2.2.1]]) (.tup [.agg el,.b .bool]) (Pure.pure (kT t)) bm []:=by
 refine Dt t ?_
 unfold pG
 refine aW (nV _) ?_
 rintro _ _ _ ⟨b1,rfl,rfl,rfl⟩
 refine aW (bT (z:=[.int .i64 0,.string kE,.int .i64 0,.int .i64 0]) (by kernel_rfl)) ?_
 rintro _ _ _ ⟨b2,rfl,rfl,rfl⟩
 refine eu (x:={ ι:=Unit,sp:=fun _=>Pure.pure (kT t),J:=fun _ vs L'=>Fact.prop (vs=[.bool (!ep t)]∧L'=(b2,ap ad [.int .i64 0,.string kE,.int .i64 0,.int .i64 0])::(b1,ap ad (aP t))::[]) }) ?_ ?_
 ·refine aW (dt (b1:=.int .i64) (x:=t.1) (Rd.own (List.mem_cons_of_mem _ (List.mem_cons_self ..))) (by kernel_rfl) rfl rfl) ?_
  rintro _ _ _ ⟨rfl,rfl,rfl⟩
  refine qE (fun h=>?_) (fun h=>?_)
  ·exact cQ rfl () rfl fun F hF=>⟨by simp [ep,Tok.kind]; simp at h; simp [h],rfl⟩
  ·refine aW (dt (b1:=.str) (x:=t.2.1) (Rd.own (List.mem_cons_of_mem _ (List.mem_cons_self ..))) (by kernel_rfl) rfl rfl) ?_
   rintro _ _ _ ⟨rfl,rfl,rfl⟩
   refine qE (fun h2=>?_) (fun h2=>?_)
   ·exact cQ rfl () rfl fun F hF=>⟨by
     simp at h2
     have:¬ 2≤(Tok.text t).size:=by unfold Tok.text; omega
     simp [ep,this],rfl⟩
   ·refine aW (dt (b1:=.str) (x:=t.2.1) (Rd.own (List.mem_cons_of_mem _ (List.mem_cons_self ..))) (by kernel_rfl) rfl rfl) ?_
    rintro _ _ _ ⟨rfl,rfl,rfl⟩
    simp only [decide_eq_false_iff_not,Int.not_lt] at h2
    refine aW (eG (t1:=cR) (aY t.2.1 0) (fun w=>Fd (by kernel_rfl) (by decide) (by omega))) ?_
    rintro _ _ _ ⟨rfl,rfl,rfl⟩
    refine cQ rfl () rfl fun F hF=>⟨?_,rfl⟩
    have h3:decide (2≤(Tok.text t).size)=true:=decide_eq_true (by unfold Tok.text; omega)
    have h4:(Tok.kind t==9)=true:=by simpa [Tok.kind] using h
    simp only [ep,h3,h4,Bool.true_and]; rfl
 ·rintro ⟨⟩ vs L'
  refine ⟨fun F hF=>⟨(_,()),hF.1⟩,?_⟩
  rintro ⟨c,⟨⟩⟩
  refine Sim.prop fun ⟨h1,h2⟩=>?_
  subst h2
  obtain rfl:c=!ep t:=by
   have:=(List.cons.inj h1).1
   cases this; rfl
  refine qE (fun h=>?_) (fun h=>?_)
  ·refine aW (br (L1:=[]) (T:=ad) (c:=true) rfl (by kernel_rfl) rfl (Nat.le_of_ble_eq_true rfl) (by simp [Value.cells,Value.oneCell'])) ?_
   rintro _ _ _ ⟨rfl,rfl⟩
   exact nO (t:=.tup [.agg el,.b .bool]) (bt,false,()) (fun r w F H hF hsp=>l5 (vs:=aP bt) (by kernel_rfl) (hsp.own _ _ (List.mem_append_right _ (List.mem_cons_self ..))) rfl rfl) (fun F _=>by
    have h5:ep t=false:=by simpa using h
    simp [bm,Fact.prop,kT,h5])
  ·have h5:ep t=true:=by simpa using h
   have h6:2≤(Tok.text t).size:=by simp [ep] at h5; exact h5.1.2
   have hq:mK PG ⟨[],[]⟩ (fV aK (.string t.2.1) (some (.int .i64 1)) none none) (.string (t.2.1.extract 1 t.2.1.size)) :=
    mf fun w=>CR (by kernel_rfl) (by decide) (by unfold Tok.text at h6; omega)
   have fin:∀ q,Sim PG I (.tup [.agg el,.b .bool]) (pl bm) noLabel q (.op (am ad (.pointer (some ⟨b1,0,none⟩))) (.c (.agg [.int .i64,.str,.int .i64,.int .i64])) fun r14 =>
     .op (a7 ad (.pointer (some ⟨b2,0,none⟩)) (.agg #[.int .i64 r14.1,.string r14.2.1,.int .i64 r14.2.2.1,.int .i64 r14.2.2.2.1])) tU fun _=>.ret #[.c (.pointer (some ⟨b2,0,none⟩)) ad,.v (.bool true)]) (Pure.pure (kT t))
     [(b2,ap ad [.int .i64 0,.string kE,.int .i64 0,.int .i64 0]),(b1,ap ad (aP (dk t)))] []:=by
    intro q
    refine aW (f5 (bs:=el) (x:=dk t) (Rd.own (List.mem_cons_of_mem _ (List.mem_cons_self ..))) (by kernel_rfl) rfl rfl) ?_
    rintro _ _ _ ⟨rfl,rfl,rfl⟩
    refine aW (br (L1:=[]) (T:=ad) (c:=true) rfl (by kernel_rfl) rfl (Nat.le_of_ble_eq_true rfl) (by simp [Value.cells,Value.oneCell'])) ?_
    rintro _ _ _ ⟨rfl,rfl⟩
    exact nO (t:=.tup [.agg el,.b .bool]) (dk t,true,()) (fun r w F H hF hsp=>l5 (vs:=aP (dk t)) (by kernel_rfl) (hsp.own _ _ (List.mem_append_right _ (List.mem_cons_self ..))) rfl rfl) (fun F _=>by
     simp [bm,Fact.prop,kT,h5])
   refine dD [] (by simp) (Hd ?_ ?_)
   ·refine E6 (b1:=.str) (t.2.1) (List.mem_cons_of_mem _ (List.mem_cons_self ..)) (by kernel_rfl) rfl rfl rfl ?_
    refine dv (t1:=tS) _ hq ?_
    refine E6 (b1:=.int .i64) (t.2.2.1) (List.mem_cons_of_mem _ (List.mem_cons_self ..)) (by kernel_rfl) rfl rfl rfl ?_
    refine ed (br (L1:=[_]) (T:=aK) (c:=false) rfl (by kernel_rfl) rfl (Nat.le_of_ble_eq_true rfl) (by simp [Value.cells,Value.oneCell'])) ?_
    rintro _ _ _ ⟨rfl,rfl⟩
    refine ⟨by simp,?_⟩
    refine aW (br (L1:=[_]) (T:=ar) (c:=false) rfl (by kernel_rfl) rfl (Nat.le_of_ble_eq_true rfl) (by simp [Value.cells,Value.oneCell'])) ?_
    rintro _ _ _ ⟨rfl,rfl⟩
    exact fin none
   ·refine E6 (b1:=.int .i64) (t.2.2.1) (List.mem_cons_of_mem _ (List.mem_cons_self ..)) (by kernel_rfl) rfl rfl rfl ?_
    refine E6 (b1:=.str) (t.2.1) (List.mem_cons_of_mem _ (List.mem_cons_self ..)) (by kernel_rfl) rfl rfl rfl ?_
    refine dv (t1:=tS) _ hq ?_
    refine ed (br (L1:=[_]) (T:=aK) (c:=false) rfl (by kernel_rfl) rfl (Nat.le_of_ble_eq_true rfl) (by simp [Value.cells,Value.oneCell'])) ?_
    rintro _ _ _ ⟨rfl,rfl⟩
    refine ⟨by simp,?_⟩
    refine aW (br (L1:=[_]) (T:=ar) (c:=false) rfl (by kernel_rfl) rfl (Nat.le_of_ble_eq_true rfl) (by simp [Value.cells,Value.oneCell'])) ?_
    rintro _ _ _ ⟨rfl,rfl⟩
    exact fin none
theorem Gd {ε σ:Type} (I:aN ε σ) (t:Tok):Meets PG I (aa lZ #[.agg #[.int .i64 t.1,.string t.2.1,.int .i64 t.2.2.1,.int .i64 t.2.2.2.1]]) tI (Pure.pure (cy t)) bm []:=by
 refine CU t ?_
 unfold pz
 refine jP fun b1=>?_
 refine aS (b1:=.int .i64) t.1 (by repeat (first | exact mz | apply ms)) (by kernel_rfl) rfl rfl ?_
 have fin:∀ (q:Option Quiet) (c:Int),c=cy t→∀ Γ,Sim PG I tI (pl bm) noLabel q (.ret #[.v (.int .i64 c)]) (Pure.pure (cy t)) [] Γ:=fun q c hc Γ =>
  av (t:=tI) c rfl (fun F _=>hc)
 refine qE (fun h=>?_) (fun h=>?_)
 ·exact fin _ _ (by unfold cy Tok.kind; rw [h]; rfl) _
 refine qE (fun h2=>?_) (fun h2=>?_)
 ·exact fin _ _ (by unfold cy Tok.kind; rw [h,h2]; rfl) _
 refine qE (fun h3=>?_) (fun h3=>?_)
 ·refine aS (b1:=.str) t.2.1 (by repeat (first | exact mz | apply ms)) (by kernel_rfl) rfl rfl ?_
  refine km (fun c=>(fun st=>if c=(t.2.1.toList==k_lp.toList||t.2.1.toList==k_lb.toList||t.2.1.toList==k_lc.toList) then some (.ok (cy t) st) else none)) ?_ fun c=>?_
  ·refine qE (fun h4=>?_) (fun h4=>?_)
   ·exact ba true rfl (by funext st; rw [if_pos (by rw [h4]; rfl)]; rfl)
   refine qE (fun h5=>?_) (fun h5=>?_)
   ·exact ba true rfl (by funext st; rw [if_pos (by rw [h5,Bool.or_true]; rfl)]; rfl)
   ·exact ba _ rfl (by funext st; rw [h4,h5]; exact (if_pos rfl).symm)
  ·by_cases hc:c=(t.2.1.toList==k_lp.toList||t.2.1.toList==k_lb.toList||t.2.1.toList==k_lc.toList)
   ·refine Sim.spec (s':=Pure.pure (cy t)) (by funext st; rw [if_pos hc]; rfl) ?_
    refine qE (fun h4=>?_) (fun h4=>?_)
    ·exact fin _ _ (by unfold cy Tok.kind Tok.text; rw [h,h2,h3,show (t.2.1.toList==k_lp.toList||t.2.1.toList==k_lb.toList||t.2.1.toList==k_lc.toList)=true from hc▸h4]; rfl) _
    have h4':(t.2.1.toList==k_lp.toList||t.2.1.toList==k_lb.toList||t.2.1.toList==k_lc.toList)=false:=hc▸h4
    refine qE (fun h5=>?_) (fun h5=>?_)
    ·exact fin _ _ (by unfold cy Tok.kind Tok.text; rw [h,h2,h3,h4',h5]; rfl) _
    refine qE (fun h6=>?_) (fun h6=>?_)
    ·exact fin _ _ (by unfold cy Tok.kind Tok.text; rw [h,h2,h3,h4',h5,h6]; rfl) _
    refine qE (fun h7=>?_) (fun h7=>?_)
    ·exact fin _ _ (by unfold cy Tok.kind Tok.text; rw [h,h2,h3,h4',h5,h6,h7]; rfl) _
    ·exact fin _ _ (by unfold cy Tok.kind Tok.text; rw [h,h2,h3,h4',h5,h6,h7]; rfl) _
   ·intro r w F H st res S hst
    simp only [if_neg hc] at hst; cases hst
 ·exact fin _ _ (by unfold cy Tok.kind; rw [h,h2,h3]; rfl) _
theorem Hc {α:Type} {l:List α} {i:Nat} {d:α} (h:i < l.length):l.getD i d∈l:=by
 have h1:=getD_some (d:=d) h
 exact List.mem_of_getElem? h1
theorem PSt.at_ok {st:PSt} (h:st.ok) (k:Nat):o8 (st.at k):=h.2.2.2 _ (Hc (by have:=h.1; omega))
theorem PSt.now_ok {st:PSt} (h:st.ok):o8 st.now:=by
 unfold PSt.now; split
 ·exact h.2.2.1
 ·exact PSt.at_ok h _
theorem Io {pb:Nat} {st:PSt} {H:ak} {F:Heap} (h:((PI pb).inv st H).p F):st.ok:=by
 obtain ⟨sl,T0,⟨_,h⟩,_⟩:=h; exact h
theorem Ed {st st':PSt} {b:Tok} (h:cj st=some (.ok b st')):b=st.now∧st'=st:=by
 unfold cj at h; cases h; exact ⟨rfl,rfl⟩
theorem HE {st st':PSt} {b:Tok} (h:dm st=some (.ok b st')):b=st.now:=by
 have:dm st=some (.ok st.now { st with split:=false,i:=min (st.i+1) (st.l.length - 1) }):=rfl
 rw [this] at h; cases h; rfl
theorem xg (pb:Nat):Meets PG (PI pb) (aa aL #[.pointer (some (aR pb))]) ek cj (fun b x=>(Fact.prop (o8 b)).both (bm b x)) [] :=
 (bk pb).strong fun st H F b st' hi h=>by rw [(Ed h).1]; exact PSt.now_ok (Io hi)
theorem s8 (pb:Nat):Meets PG (PI pb) (aa jg #[.pointer (some (aR pb))]) tU oM (fun _ _=>Fact.prop True) []:=by
 refine yo (aR pb) ?_
 unfold ll oM
 refine ag (az _ _) (fun _ h=>nomatch h) fun x b=>Sim.prop fun h=>?_
 subst h
 (first | refine qA (fun h=>?_) fun h=>?_ | refine qB (fun h=>?_) fun h=>?_ | refine qC (fun h=>?_) fun h=>?_ | refine qD (fun h=>?_) fun h=>?_ | refine qE (fun h=>?_) fun h=>?_)
 ·exact nO (t:=tU) () (fun r w F H _ _=>iH w) (fun F _=>trivial)
 refine ag (xg _) (fun _ h=>nomatch h) fun t b=>Sim.both (Sim.prop fun hnum=>Sim.prop fun h=>?_)
 subst h
 refine fA (II _ t) (fun _ h=>nomatch h) ?_
 refine gB (c:=true) (z:=[.int .i64 0,.string kE,.int .i64 0,.int .i64 0]) (by kernel_rfl) (by kernel_rfl) rfl (by simp [Value.cells,Value.oneCell']) fun b2=>?_
 refine fI (fun s=>if ep t then some (.ok () { s with left:=dk t,split:=true }) else none) ?_ ?_
 ·by_cases hs:ep t
  ·refine qE (fun h=>?_) (fun h=>?_)
   ·simp [kT,hs] at h
   ·exact gI rfl (by funext st; simp [hs]; rfl)
  ·refine qE (fun h=>?_) (fun h=>?_)
   ·refine Sim.spec (s':=cz) (by simp [hs]; rfl) ?_
    exact ej (β1:=Unit) (Rel1:=fun _ _ _=>Fact.prop True) (gl _) (fun _ h=>nomatch h) (by first | exact eh | exact ez _)
   ·simp [kT,hs] at h
 ·by_cases hs:ep t
  ·have ht:kT t=(dk t,true,()):=by simp [kT,hs]
   rw [ht]
   refine ow (bs:=el) (dk t) (by repeat (first | exact mz | apply ms)) (by kernel_rfl) rfl rfl ?_
   refine nI fun st sl T0 a hok ha hl=>?_
   refine bA (br (L1:=[]) (T:=ad) (c:=true) rfl (by kernel_rfl) rfl (Nat.le_of_ble_eq_true rfl) (by simp [Value.cells,Value.oneCell'])) ?_
   rintro _ _ _ ⟨rfl,rfl⟩
   refine bA (br (L1:=[]) (T:=bE) (c:=false) rfl (by kernel_rfl) rfl (Nat.le_of_ble_eq_true rfl) (by simp [Value.cells,Value.oneCell'])) ?_
   rintro _ _ _ ⟨rfl,rfl⟩
   refine qd (b:=()) (st:={ st with left:=dk t,split:=true }) (H:=[(pb,ap T0 (bF sl { st with left:=dk t,split:=true }))]) (x:=()) ?_ (by simp [bF,bW,Value.cells,aP,HB.enc,B.enc]) ?_ ?_ ?_
   ·simp [hs]
   ·refine fun F hF=>lF (st:={ st with left:=dk t,split:=true }) ⟨hok.1,hok.2.1,?_,hok.2.2.2⟩ (hF (Sl 4 aP sl st.l) (by repeat (first | exact mz | apply ms)))
    have h9:Tok.kind t=9:=by simp [ep] at hs; exact hs.1.1
    refine ⟨fun hk=>?_,?_⟩
    ·simp [dk,Tok.kind] at hk h9; omega
    ·have:=hnum.2; simp only [dk,Tok.text,ByteArray.size_extract] at this ⊢; omega
   ·exact fun r w F hF hsp=>iH w
   ·exact fun F _=>trivial
  ·intro r w F H st res S hst
   simp [hs] at hst
theorem H9 (t:Tok):-1≤cy t∧cy t≤1:=by
 unfold cy; split<;>(try split)<;>(try split)<;>(try split)<;>(try split)<;>simp
theorem C7 (l:List Tok) (k i:Nat) (n:Int) (h:l.length≤i) (hk:k=l.length - i):nS l k i n=l.getD (l.length - 1) bt:=by
 have:k=0:=by omega
 subst this; rfl
def eK (i:Nat) (n:Int):PM Tok:=fun s=>some (.ok (nS s.l (s.l.length - i) i n) s)
def Iw:PM Tok:=fun s=>some (.ok (s.l.getD (s.l.length - 1) bt) s)
theorem qK (pb:Nat):Meets PG (PI pb) (aa hY #[.pointer (some (aR pb))]) ek qe bm []:=by
 refine wa (aR pb) ?_
 unfold kx
 refine aW (bT (z:=[.int .i64 0,.string kE,.int .i64 0,.int .i64 0]) (by kernel_rfl)) ?_
 rintro _ _ _ ⟨b,rfl,rfl,rfl⟩
 have fin:∀ {pb:Nat} {L:ak} {st:PSt} {sl:aV} {T0:TypeId} {a:Addr} {Δ:Labels Int PSt Tok} {i:Int} (k:Nat) (_:L=[(b,ap ad [.int .i64 0,.string kE,.int .i64 0,.int .i64 0])]) (_:st.ok) (_:sl.1=some a) (_:i=k) (_:k < st.l.length)
   (q:Option Quiet) (_:(pb,ap T0 (bF sl st))∈(pb,ap T0 (bF sl st))::L),SimAt PG (PI pb) ek (pl bm) Δ (some ⟨[Sl 4 aP sl st.l],[(pb,ap T0 (bF sl st))]⟩) (.opq (bQ aw (.slice sl.1 sl.2.1 sl.2.2) (.int .i64 i)) tA fun r11 =>
     .opq (am ad (.pointer (some r11))) (.c (.agg [.int .i64,.str,.int .i64,.int .i64])) fun r12 =>
     .op (a7 ad (.pointer (some ⟨b,0,none⟩)) (.agg #[.int .i64 r12.1,.string r12.2.1,.int .i64 r12.2.2.1,.int .i64 r12.2.2.2.1])) tU fun _ =>
     .ret #[.c (.pointer (some ⟨b,0,none⟩)) ad]) (some (.ok (st.l.getD k bt) st)) ((pb,ap T0 (bF sl st))::L) [Sl 4 aP sl st.l]:=by
  intro pb L st sl T0 a Δ i k hL hok ha hi hk q _
  subst hL
  refine c8 (t1:=tA) _ (Fo dW ha (fun F hF=>hF _ (List.mem_cons_self ..)) (by kernel_rfl) _ hi hk) ?_
  refine c8 (t1:=ek) (st.l.getD k bt) (Fi dW ha (fun F hF=>hF _ (List.mem_cons_self ..)) (getD_some hk) (by kernel_rfl)) ?_
  refine xk ?_
  refine bA (br (L1:=[_]) (T:=ad) (c:=true) rfl (by kernel_rfl) rfl (Nat.le_of_ble_eq_true rfl) (by simp [Value.cells,Value.oneCell'])) ?_
  rintro _ _ _ ⟨rfl,rfl⟩
  refine qd (b:=st.l.getD k bt) (st:=st) (H:=[(pb,ap T0 (bF sl st))]) (x:=st.l.getD k bt) rfl (by simp) ?_ ?_ ?_
  ·exact fun F hF=>lF hok (hF _ (List.mem_cons_self ..))
  ·exact fun r w F hF hsp=>eX (vs:=aP (st.l.getD k bt)) (by kernel_rfl) (hsp.own _ _ (by repeat (first | exact mz | apply ms))) rfl rfl
  ·exact fun F _=>rfl
 refine nI fun st sl T0 a hok ha hl=>?_
 refine bA (dt (b1:=.int .i64) (x:=(st.i:Int)) (Rd.own (by repeat (first | exact mz | apply ms))) (by kernel_rfl) rfl rfl) ?_
 rintro _ _ _ ⟨rfl,rfl,rfl⟩
 have hi0:st.i≤1099511627776:=by have:=hok.1; have:=hok.2.1; omega
 show SimAt PG (PI pb) ek (pl bm) noLabel none _ (eK st.i 0 st) ([(pb,ap T0 (bF sl st))]++[_]) _
 refine SimAt.shut (s:=eK st.i 0) ?_ (fun F hF=>lF hok (hF _ (by repeat (first | exact mz | apply ms)))) rfl
 refine Sim.weak (Γ':=[]) ?_ (fun _ h=>nomatch h)
 generalize st.i=i0 at hi0
 clear hok ha hl
 refine fI Iw ?_ ?_
 ·refine gH (x:={ ι:=Nat × Int,sp:=fun j=>eK j.1 j.2,J:=fun j vs L'=>Fact.prop (vs=[.int .i64 j.2,.int .i64 j.1]∧L'=[(b,ap ad [.int .i64 0,.string kE,.int .i64 0,.int .i64 0])]∧j.1≤1099511627776∧-(j.1:Int)≤j.2∧j.2≤j.1) }) (fun j=>1099511627777 - j.1) (i0,0) rfl ?_ ?_ ?_
  ·exact fun F hF=>⟨rfl,rfl,hi0,by simp,by simp⟩
  ·rintro ⟨i,n⟩ vs L' F ⟨rfl,_⟩; exact ⟨(n,(i:Int),()),rfl⟩
  ·rintro ⟨i,n⟩ L' ⟨n',i',⟨⟩⟩
   refine Sim.prop fun ⟨hv,hL,hi,hn1,hn2⟩=>?_
   subst hL
   have h1:=(List.cons.inj hv).1
   have h2:=(List.cons.inj (List.cons.inj hv).2).1
   obtain rfl:n'=n:=by cases h1; rfl
   obtain rfl:i'=(i:Int):=by cases h2; rfl
   simp only at hi hn1 hn2
   refine Sim.weak (Γ':=[]) ?_ (fun _ h=>nomatch h)
   refine nI fun st sl T0 a hok ha hl=>?_
   refine bA (dt (b1:=.slice) (x:=sl) (Rd.own (by repeat (first | exact mz | apply ms))) (by kernel_rfl) rfl rfl) ?_
   rintro _ _ _ ⟨rfl,rfl,rfl⟩
   refine kZ (fun hlt=>?_) (fun hge=>?_)
   ·have hlt':i < st.l.length:=by simp at hlt; omega
    refine bA (dt (b1:=.slice) (x:=sl) (Rd.own (by repeat (first | exact mz | apply ms))) (by kernel_rfl) rfl rfl) ?_
    rintro _ _ _ ⟨rfl,rfl,rfl⟩
    refine bA (p3 ha (fun F hF=>hF _ (List.mem_cons_self ..)) (by kernel_rfl) i rfl hlt') ?_
    rintro _ _ _ ⟨rfl,rfl,rfl⟩
    refine bA (zJ (bs:=el) dW ha (fun F hF=>hF _ (List.mem_cons_self ..)) (getD_some hlt') (by kernel_rfl) (st.l.getD i bt) rfl) ?_
    rintro _ _ _ ⟨rfl,rfl,rfl⟩
    refine J1 (Gd _ _) ?_
    have hT:=H9 (st.l.getD i bt)
    have hw:IntKind.i64.wrap (n'+cy (st.l.getD i bt))=n'+cy (st.l.getD i bt):=bg (by omega) (by omega)
    have hw2:IntKind.i64.wrap ((i:Int)+1)=((i+1:Nat):Int):=by rw [bg (by omega) (by omega)]; simp
    have hk:st.l.length - i=(st.l.length - (i+1))+1:=by omega
    have hok2:=hok.2.1
    refine kZ (fun hz=>?_) (fun hz=>?_)
    ·rw [hw] at hz
     refine iR [(pb,ap T0 (bF sl st))] (fun p hp=>by simp at hp; simp [hp]) ?_
     refine c8 (t1:=ai) sl (cf (QRd.own (List.mem_cons_self ..)) (by kernel_rfl) rfl rfl) ?_
     refine c8 (t1:=ai) sl (cf (QRd.own (List.mem_cons_self ..)) (by kernel_rfl) rfl rfl) ?_
     have hrun:eK i n' st=some (.ok (st.l.getD (min (i+1) (st.l.length - 1)) bt) st):=by
      unfold eK; rw [hk]; unfold nS; simp only [hz,if_true]
     show SimAt PG (PI pb) ek (pl bm) _ _ _ (eK i n' st) _ _
     rw [hrun]
     refine fin (min (i+1) (st.l.length - 1)) rfl hok ha ?_ (by omega) none (List.mem_cons_self ..)
     dsimp only
     rw [hw2,bg (by omega) (by omega)]
     split<;>omega
    ·rw [hw] at hz
     have hrun:eK i n' st=eK (i+1) (n'+cy (st.l.getD i bt)) st:=by
      unfold eK; rw [hk]; conv=>lhs; unfold nS
      simp only [hz]; rfl
     rw [hw,hw2]
     show SimAt PG (PI pb) ek (pl bm) _ _ _ (eK i n' st) ([(pb,ap T0 (bF sl st))]++[_]) _
     rw [hrun]
     refine rW rfl ⟨(i+1,n'+cy (st.l.getD i bt)),?_⟩ rfl (fun F hF=>⟨rfl,rfl,?_,?_,?_⟩) (fun F hF=>lF hok (hF _ (List.mem_cons_self ..)))
     ·show 1099511627777 - (i+1) < 1099511627777 - i; clear hw hw2 hT hz hrun; omega
     ·show i+1≤_; omega
     ·show -((i+1:Nat):Int)≤n'+cy (st.l.getD i bt); omega
     ·exact (Int.add_le_add hn2 hT.2:n'+cy (st.l.getD i bt)≤(i:Int)+1)
   ·have hge':st.l.length≤i:=by simp at hge; omega
    show SimAt PG (PI pb) ek (pl bm) _ _ _ (eK i n' st) ([(pb,ap T0 (bF sl st))]++[_]) _
    refine rW (x:=FY Iw _) rfl () ?_ (fun F hF=>⟨rfl,rfl⟩) (fun F hF=>lF hok (hF _ (List.mem_cons_self ..)))
    unfold eK; rw [C7 _ _ _ _ hge' rfl]; rfl
 ·refine nI fun st sl T0 a hok ha hl=>?_
  refine iR [(pb,ap T0 (bF sl st))] (fun p hp=>by simp at hp; simp [hp]) ?_
  refine c8 (t1:=ai) sl (cf (QRd.own (List.mem_cons_self ..)) (by kernel_rfl) rfl rfl) ?_
  refine c8 (t1:=ai) sl (cf (QRd.own (List.mem_cons_self ..)) (by kernel_rfl) rfl rfl) ?_
  obtain ⟨hok1,hok2,hok3⟩:=id hok
  exact fin (st.l.length - 1) rfl hok ha (by rw [bg (by omega) (by omega)]; omega) (by omega) none (List.mem_cons_self ..)
end Go.Proofs.YtjlgcpgjdgeejaaGreatDoor
end

section
namespace Go.Proofs.YtjlgcpgjdgeejaaGreatDoor
open Go
set_option linter.unusedSimpArgs false
set_option linter.unusedVariables false
set_option linter.constructorNameAsVariable false
set_option maxRecDepth 100000
def Kw:Option N→Option Addr→Fact
 | none,p=>Fact.prop (p=none)
 | some n,p=>NodeF n p
def Fh:Prop:=∀ {ε σ:Type} (I:aN ε σ) (s:ByteArray),s.size≤18→(Lib.atoi s.data.toList).isSome=true→Meets PG I (aa fD #[.string s]) tI (Pure.pure (lp s)) bm []
structure cJ (R:a6):Prop where
 fuel:R.fuel≤549755813888
 num:Fh
 expr:∀ pb,Meets PG (PI pb) (aa bS #[.pointer (some (aR pb))]) tP R.expr NodeF []
 typed:∀ pb,Meets PG (PI pb) (aa cI #[.pointer (some (aR pb))]) tP R.typed NodeF []
 block:∀ pb,Meets PG (PI pb) (aa cH #[.pointer (some (aR pb))]) tP R.block NodeF []
 unary:∀ pb,Meets PG (PI pb) (aa ga #[.pointer (some (aR pb))]) tP R.unary NodeF []
 branch:∀ pb,Meets PG (PI pb) (aa fE #[.pointer (some (aR pb))]) tP R.branch NodeF []
 statement:∀ pb,Meets PG (PI pb) (aa dI #[.pointer (some (aR pb))]) tP R.statement NodeF []
 declaration:∀ pb (t:Tok),Meets PG (PI pb) (aa ea #[.pointer (some (aR pb)),.agg #[.int .i64 t.1,.string t.2.1,.int .i64 t.2.2.1,.int .i64 t.2.2.2.1]]) tP (R.declaration t) Kw []
section
variable {ε σ β β1:Type} {P:Program} {I:aN ε σ} {t:Ty} {Rel:β→t.den→ak→Fact} {Δ:Labels ε σ β} {q:Option Quiet} {L:ak} {Γ:List Fact} {s:Sp ε σ β}
noncomputable def kJ (φ:σ→Prop) (s:Sp ε σ β):Sp ε σ β:=fun st=>@ite _ (φ st) (Classical.propDecidable _) (s st) none
theorem tM {φ:σ→Prop} {s:Sp ε σ β} {st:σ} {res:Res ε σ β} (h:kJ φ s st=some res):φ st∧s st=some res:=by
 unfold kJ at h; split at h
 ·exact ⟨by assumption,h⟩
 ·cases h
theorem GI {φ:σ→Prop} {s:Sp ε σ β} {st:σ} (h:φ st):kJ φ s st=s st:=by unfold kJ; rw [if_pos h]
theorem Sim.unguard {φ:σ→Prop} {m:T} (h:Sim P I t Rel Δ q m s L Γ):Sim P I t Rel Δ q m (kJ φ s) L Γ:=fun r w F H st res S hs=>h r w F H st res S (tM hs).2
theorem Jh {t1:Ty} {s0:Sem Next} {k:t1.den→T} {s1:Sp ε σ β1} {s2:β1→Sp ε σ β} {Rel1:β1→t1.den→Fact} {Γ1:List Fact} (φ:β1→σ→Prop) (hm:Meets P I s0 t1 s1 Rel1 Γ1)
  (hΓ1:∀ A∈Γ1,A∈Γ) (hφ:∀ st b st',s1 st=some (.ok b st')→φ b st') (hk:∀ x b,Sim P I t Rel Δ none (k x) (kJ (φ b) (s2 b)) L (Rel1 b x::Γ)):Sim P I t Rel Δ q (.op s0 t1 k) (s1>>=s2) L Γ:=by
 intro r w F H st res S hs hΓ hi hsp hq
 simp only [T.wp]
 refine l8 hm hΓ1 hs hΓ hi hsp ?_ ?_
 ·rintro b x F' H' K1 st' w' h1 h2 hle ⟨rfl,hR⟩ hinv hS
  exact ⟨x,rfl,d7 hle (hk x b r w' F' H' st' res S (by rw [GI (hφ st b st' h1)]; exact h2) (Holds.cons hR (hΓ.mono hle)) hinv hS trivial)⟩
 ·rintro y c F' w' rfl hle he hS
  exact ⟨F',hle,c,rfl,he,hS⟩
theorem Hy {q:Quiet} {t1:Ty} {s0:Sem Next} {k:t1.den→T} {s1:Sp ε σ β1} {s2:β1→Sp ε σ β} {Rel1:β1→t1.den→Fact} {Γ1:List Fact} {φ:σ→Prop} (ψ:β1→Prop) (hm:Meets P I s0 t1 s1 Rel1 Γ1)
  (hΓ1:∀ A∈Γ1,A∈Γ) (hφ:∀ st b st',φ st→s1 st=some (.ok b st')→ψ b) (hk:∀ x b,ψ b→Sim P I t Rel Δ (some q) (k x) (s2 b) L (Rel1 b x::Γ)):Sim P I t Rel Δ (some q) (.opl s0 t1 k) (kJ φ (s1>>=s2)) L Γ:=by
 intro r w F H st res S hs hΓ hi hsp hq
 obtain ⟨hst,hs⟩:=tM hs
 simp only [T.wp]
 refine l8 hm hΓ1 hs hΓ hi hsp ?_ ?_
 ·rintro b x F' H' K1 st' w' h1 h2 hle ⟨rfl,hR⟩ hinv hS
  obtain ⟨hw,hq'⟩:=Stab.keep hq hle hS hq.1
  exact ⟨hw,x,rfl,d7 hle (hk x b (hφ st b st' hst h1) r w' F' H' st' res S h2 (Holds.cons hR (hΓ.mono hle)) hinv hS hq')⟩
 ·rintro y c F' w' rfl hle he hS
  exact ⟨F',hle,c,rfl,he,hS⟩
end
theorem HZ {st st':PSt} {b:ByteArray} (h:cV st=some (.ok b st')):b=st.now.text:=by
 have e:cV st=if st.now.kind != 1 then some (.err st.now.pos) else some (.ok st.now.text { st with split:=false,i:=min (st.i+1) (st.l.length - 1) }):=by
  show (if st.now.kind != 1 then cz else _) st=_
  split<;>rfl
 rw [e] at h
 split at h
 ·cases h
 ·cases h; rfl
theorem D7 (pb:Nat):Meets PG (PI pb) (aa bG #[.pointer (some (aR pb))]) tS cV (fun b x=>(Fact.prop (b.size≤4194304)).both (bm b x)) [] :=
 (ch pb).strong fun st H F b st' hi h=>by rw [HZ h]; exact (PSt.now_ok (Io hi)).2
end Go.Proofs.YtjlgcpgjdgeejaaGreatDoor
end

section
namespace Go.Proofs.YtjlgcpgjdgeejaaGreatDoor
open Go
set_option linter.unusedVariables false
set_option maxRecDepth 100000
noncomputable section
def wG:An :=
 .s (.r [none]) (.s (.r [none,some (.c (.agg [.int .i64,.str,.int .i64,.int .i64])),none,none]) (.s (.r [none,some tB]) (.s (.r [none,some tP,none]) (.s (.s (.r [none,some tB,none]) (.c (.s (.r [none,none]) (.x)) (.x))) (.s (.r [none,none,some ai,some tP,none]) (.s (.b (.l [] (.s (.s (.r [none,some tB]) (.c (.x) (.x))) (.b (.d (.q 0 none (.q 1 none (.q 2 (some tA) (.q 3 none (.q 4 (some ai) (.q 5 none (.l 6 (some tP) (.l 7 (some ai) (.l 8 (some ai) (.q 9 (some tA) (.q 10 none (.l 11 (some tU) (.e)))))))))))))))))) (.s (.r [none,none]) (.x))))))))
def lN (a0_p:Addr):T :=
 .op (aa aL #[.pointer (some a0_p)]) (.c (.agg [.int .i64,.str,.int .i64,.int .i64])) fun r1 =>
 .op (aa au #[.pointer (some a0_p),.string hZ]) tB fun r2 =>
 .op (aa jI #[.pointer (some a0_p)]) tP fun r3 =>
 .op (aa bw #[.pointer (some a0_p),.string hZ]) tB fun r4 =>
 .ite (!r4) (
 .ret #[.v (.pointer r3)]) (
 .op (aG ae 1 #[(0,.pointer r3)]) ai fun r5 =>
 .op (aa al #[.int .i64 87,.string kE,.int .i64 0,.int .i64 r1.2.2.1,.slice r5.1 r5.2.1 r5.2.2]) tP fun r6 =>
 .loop 0 [] [] fun x7 =>
 .op (aa au #[.pointer (some a0_p),.string hZ]) tB fun r8 =>
 .ite r8 (
 .draw <|
 .opq (cg (.pointer r6)) tA fun r9 =>
 .opq (am ae (.pointer (some ⟨r9.block,r9.off+5,none⟩))) ai fun r10 =>
 .opl (aa jI #[.pointer (some a0_p)]) tP fun r11 =>
 .opl (aG ae 1 #[(0,.pointer r11)]) ai fun r12 =>
 .opl (cW #[ae,ae] ae #[.slice r10.1 r10.2.1 r10.2.2,.slice r12.1 r12.2.1 r12.2.2]) ai fun r13 =>
 .opq (cg (.pointer r6)) tA fun r14 =>
 .op (a7 ae (.pointer (some ⟨r14.block,r14.off+5,none⟩)) (.slice r13.1 r13.2.1 r13.2.2)) tU fun _ =>
 .out 0 []) (
 .ret #[.v (.pointer r6)]))
theorem yh (a0_p:Addr):cc Tryz.prog Tryz.f88 wG [.pointer (some a0_p)]=lN a0_p:=by kernel_rfl
theorem y5 {ε σ β:Type} {I:aN ε σ} {t:Ty} {s:Sp ε σ β} {Rel:β→t.den→ak→Fact} {Γ:List Fact} (a0_p:Addr) (h:Sim Tryz.prog I t Rel noLabel none (lN a0_p) s [] Γ):MeetsO Tryz.prog I (aa cI #[.pointer (some a0_p)]) t s Rel Γ :=
 aq (args:=[.pointer (some a0_p)]) Tryz.func88 rfl rfl (Nat.le_of_ble_eq_true rfl) (by rw [yh]; exact h)
def yB:An :=
 .s (.r [none]) (.s (.r [none,some (.c (.agg [.int .i64,.str,.int .i64,.int .i64])),none,none]) (.s (.r [none,some tP,none]) (.s (.b (.l [(4,.b .ptr)] (.s (.s (.j [(16,.b .bool)] (.r [none,some tB,none,none,some (.c (.agg [.int .i64,.str,.int .i64,.int .i64])),some tB,none])) (.c (.x) (.x))) (.b (.s (.r [none,some (.c (.agg [.int .i64,.str,.int .i64,.int .i64]))]) (.s (.r [none,some (.c (.agg [.int .i64,.str,.int .i64,.int .i64]))]) (.r [none,none,some ai,some tP,none]))))))) (.s (.r [none,none]) (.x)))))
def mL (a0_p:Addr):T :=
 .op (aa aL #[.pointer (some a0_p)]) (.c (.agg [.int .i64,.str,.int .i64,.int .i64])) fun r1 =>
 .op (aa lB #[.pointer (some a0_p)]) tP fun r2 =>
 .loop 0 [.b .ptr] [.pointer r2] fun x3 =>
 .join 1 [.b .bool] (
 .op (aa bw #[.pointer (some a0_p),.string k_lb]) tB fun r4 =>
 .ite r4 (
 .op (aa dJ #[.pointer (some a0_p),.int .i64 1]) (.c (.agg [.int .i64,.str,.int .i64,.int .i64])) fun r5 =>
 .op (aa di #[.agg #[.int .i64 r5.1,.string r5.2.1,.int .i64 r5.2.2.1,.int .i64 r5.2.2.2.1],.string k_rb]) tB fun r6 =>
 .out 1 [.bool r6]) (
 .out 1 [.bool false])) fun x7 =>
 .ite x7.1 (
 .op (aa cl #[.pointer (some a0_p)]) (.c (.agg [.int .i64,.str,.int .i64,.int .i64])) fun r8 =>
 .op (aa cl #[.pointer (some a0_p)]) (.c (.agg [.int .i64,.str,.int .i64,.int .i64])) fun r9 =>
 .op (aG ae 1 #[(0,.pointer x3.1)]) ai fun r10 =>
 .op (aa al #[.int .i64 83,.string kE,.int .i64 0,.int .i64 r1.2.2.1,.slice r10.1 r10.2.1 r10.2.2]) tP fun r11 =>
 .out 0 [.pointer r11]) (
 .ret #[.v (.pointer x3.1)])
theorem AA (a0_p:Addr):cc Tryz.prog Tryz.f144 yB [.pointer (some a0_p)]=mL a0_p:=by kernel_rfl
theorem AV {ε σ β:Type} {I:aN ε σ} {t:Ty} {s:Sp ε σ β} {Rel:β→t.den→ak→Fact} {Γ:List Fact} (a0_p:Addr) (h:Sim Tryz.prog I t Rel noLabel none (mL a0_p) s [] Γ):MeetsO Tryz.prog I (aa jI #[.pointer (some a0_p)]) t s Rel Γ :=
 aq (args:=[.pointer (some a0_p)]) Tryz.func144 rfl rfl (Nat.le_of_ble_eq_true rfl) (by rw [AA]; exact h)
def uC:An :=
 .s (.r [none]) (.s (.r [none,some (.tup [.b (.int .i64),.b .val]),none,none,none,none,none]) (.s (.r [none,none]) (.x)))
def kB (a0_s:ByteArray):T :=
 .op (aa pX #[.string a0_s]) (.tup [.b (.int .i64),.b .val]) fun r1 =>
 .ret #[.v (.int .i64 r1.1)]
theorem vJ (a0_s:ByteArray):cc Tryz.prog Tryz.f226 uC [.string a0_s]=kB a0_s:=by kernel_rfl
theorem wl {ε σ β:Type} {I:aN ε σ} {t:Ty} {s:Sp ε σ β} {Rel:β→t.den→ak→Fact} {Γ:List Fact} (a0_s:ByteArray) (h:Sim Tryz.prog I t Rel noLabel none (kB a0_s) s [] Γ):MeetsO Tryz.prog I (aa fD #[.string a0_s]) t s Rel Γ :=
 aq (args:=[.string a0_s]) Tryz.func226 rfl rfl (Nat.le_of_ble_eq_true rfl) (by rw [vJ]; exact h)
def u7:An :=
 .s (.r [none]) (.s (.r [none,some (.c (.agg [.int .i64,.str,.int .i64,.int .i64])),some tA,some tU]) (.s (.b (.s (.j [(7,.b .bool)] (.r [none,some tB,none,none,some (.c (.agg [.int .i64,.str,.int .i64,.int .i64])),some tB,none,none])) (.c (.s (.r [none,some tP,none]) (.x)) (.s (.r [none,some tB,none]) (.c (.s (.r [none,some tP,none]) (.s (.r [none,some tU]) (.s (.r [none,none]) (.x)))) (.s (.r [none,some tI,none,none]) (.c (.s (.r [none,some (.c (.agg [.int .i64,.str,.int .i64,.int .i64]))]) (.s (.d (.q 0 none (.q 1 (some tS) (.q 3 none (.q 4 (some tI) (.l 2 (some tI) (.l 5 (some tP) (.q 6 none (.e))))))))) (.x))) (.s (.r [none,some tB,none]) (.c (.s (.s (.r [none,some (.c (.agg [.int .i64,.str,.int .i64,.int .i64])),none,none]) (.j [] (.c (.r [none,some tU]) (.x)))) (.s (.d (.q 0 none (.q 5 none (.q 6 (some tI) (.l 1 (some (.c (.agg [.int .i64,.str,.int .i64,.int .i64]))) (.q 2 none (.l 3 (some tI) (.q 4 none (.l 7 (some tP) (.q 8 none (.e))))))))))) (.x))) (.s (.r [none,some tI,none,none]) (.c (.s (.r [none,some (.c (.agg [.int .i64,.str,.int .i64,.int .i64]))]) (.s (.r [none,some tS,none,some tI,some tP,none]) (.x))) (.s (.r [none,some tB,none]) (.c (.s (.r [none,some tP,none]) (.x)) (.x)))))))))))))) (.s (.r [none,some tP,none]) (.x))))
def lX (a0_a0:Addr):T :=
 .op (aa aL #[.pointer (some a0_a0)]) (.c (.agg [.int .i64,.str,.int .i64,.int .i64])) fun r1 =>
 .op (bD ad) tA fun r2 =>
 .op (a7 ad (.pointer (some r2)) (.agg #[.int .i64 r1.1,.string r1.2.1,.int .i64 r1.2.2.1,.int .i64 r1.2.2.2.1])) tU fun _ =>
 .join 0 [.b .bool] (
 .op (aa bw #[.pointer (some a0_a0),.string k_lp]) tB fun r4 =>
 .ite r4 (
 .op (aa hY #[.pointer (some a0_a0)]) (.c (.agg [.int .i64,.str,.int .i64,.int .i64])) fun r5 =>
 .op (aa di #[.agg #[.int .i64 r5.1,.string r5.2.1,.int .i64 r5.2.2.1,.int .i64 r5.2.2.2.1],.string gW]) tB fun r6 =>
 .out 0 [.bool r6]) (
 .out 0 [.bool false])) fun x7 =>
 .ite x7.1 (
 .op (aa iO #[.pointer (some a0_a0)]) tP fun r8 =>
 .ret #[.v (.pointer r8)]) (
 .op (aa au #[.pointer (some a0_a0),.string k_lp]) tB fun r9 =>
 .ite r9 (
 .op (aa cI #[.pointer (some a0_a0)]) tP fun r10 =>
 .op (aa aA #[.pointer (some a0_a0),.string k_rp]) tU fun _ =>
 .ret #[.v (.pointer r10)]) (
 .op (am ar (.pointer (some r2))) tI fun r12 =>
 .ite ((r12:Int)==3) (
 .op (aa cl #[.pointer (some a0_a0)]) (.c (.agg [.int .i64,.str,.int .i64,.int .i64])) fun r13 =>
 .draw <|
 .opq (am aK (.pointer (some ⟨r2.block,r2.off+1,none⟩))) tS fun r14 =>
 .opq (am ar (.pointer (some ⟨r2.block,r2.off+2,none⟩))) tI fun r15 =>
 .opl (aa fD #[.string r14]) tI fun r16 =>
 .opl (aa al #[.int .i64 81,.string kE,.int .i64 r16,.int .i64 r15,.slice none 0 0]) tP fun r17 =>
 .ret #[.v (.pointer r17)]) (
 .op (aa au #[.pointer (some a0_a0),.string g9]) tB fun r18 =>
 .ite r18 (
 .op (aa aL #[.pointer (some a0_a0)]) (.c (.agg [.int .i64,.str,.int .i64,.int .i64])) fun r19 =>
 .join 0 [] (
 .ite ((r19.1:Int) != 3) (
 .op (aa cY #[.pointer (some a0_a0)]) tU fun _ =>
 .out 0 []) (
 .out 0 [])) fun x21 =>
 .draw <|
 .opq (am ar (.pointer (some ⟨r2.block,r2.off+2,none⟩))) tI fun r22 =>
 .opl (aa cl #[.pointer (some a0_a0)]) (.c (.agg [.int .i64,.str,.int .i64,.int .i64])) fun r23 =>
 .opl (aa fD #[.string r23.2.1]) tI fun r24 =>
 .opl (aa al #[.int .i64 81,.string kE,.int .i64 (IntKind.i64.wrap (0 - r24)),.int .i64 r22,.slice none 0 0]) tP fun r25 =>
 .ret #[.v (.pointer r25)]) (
 .op (am ar (.pointer (some r2))) tI fun r26 =>
 .ite ((r26:Int)==4) (
 .op (aa cl #[.pointer (some a0_a0)]) (.c (.agg [.int .i64,.str,.int .i64,.int .i64])) fun r27 =>
 .op (am aK (.pointer (some ⟨r2.block,r2.off+1,none⟩))) tS fun r28 =>
 .op (am ar (.pointer (some ⟨r2.block,r2.off+2,none⟩))) tI fun r29 =>
 .op (aa al #[.int .i64 82,.string r28,.int .i64 0,.int .i64 r29,.slice none 0 0]) tP fun r30 =>
 .ret #[.v (.pointer r30)]) (
 .op (aa bw #[.pointer (some a0_a0),.string k_lc]) tB fun r31 =>
 .ite r31 (
 .op (aa fw #[.pointer (some a0_a0)]) tP fun r32 =>
 .ret #[.v (.pointer r32)]) (
 .op (aa ku #[.pointer (some a0_a0)]) tP fun r33 =>
 .ret #[.v (.pointer r33)]))))))
theorem xw (a0_a0:Addr):cc Tryz.prog Tryz.f194 u7 [.pointer (some a0_a0)]=lX a0_a0:=by kernel_rfl
theorem yQ {ε σ β:Type} {I:aN ε σ} {t:Ty} {s:Sp ε σ β} {Rel:β→t.den→ak→Fact} {Γ:List Fact} (a0_a0:Addr) (h:Sim Tryz.prog I t Rel noLabel none (lX a0_a0) s [] Γ):MeetsO Tryz.prog I (aa lB #[.pointer (some a0_a0)]) t s Rel Γ :=
 aq (args:=[.pointer (some a0_a0)]) Tryz.func194 rfl rfl (Nat.le_of_ble_eq_true rfl) (by rw [xw]; exact h)
def rp:An :=
 .s (.r [none]) (.s (.r [none,some (.c (.agg [.int .i64,.str,.int .i64,.int .i64])),none,none]) (.s (.r [none,some tU]) (.s (.r [none,some tP,none]) (.s (.r [none,some tU]) (.s (.r [none,some tU]) (.s (.r [none,none,none,some tP,some ai,some tP,none]) (.x)))))))
def iJ (a0_p:Addr):T :=
 .op (aa aL #[.pointer (some a0_p)]) (.c (.agg [.int .i64,.str,.int .i64,.int .i64])) fun r1 =>
 .op (aa aA #[.pointer (some a0_p),.string k_lp]) tU fun _ =>
 .op (aa d8 #[.pointer (some a0_p),.bool false]) tP fun r3 =>
 .op (aa aA #[.pointer (some a0_p),.string k_rp]) tU fun _ =>
 .op (aa aA #[.pointer (some a0_p),.string gW]) tU fun _ =>
 .op (aa cI #[.pointer (some a0_p)]) tP fun r6 =>
 .op (aG ae 2 #[(0,.pointer r3),(1,.pointer r6)]) ai fun r7 =>
 .op (aa al #[.int .i64 86,.string kE,.int .i64 0,.int .i64 r1.2.2.1,.slice r7.1 r7.2.1 r7.2.2]) tP fun r8 =>
 .ret #[.v (.pointer r8)]
theorem se (a0_p:Addr):cc Tryz.prog Tryz.f225 rp [.pointer (some a0_p)]=iJ a0_p:=by kernel_rfl
theorem rJ {ε σ β:Type} {I:aN ε σ} {t:Ty} {s:Sp ε σ β} {Rel:β→t.den→ak→Fact} {Γ:List Fact} (a0_p:Addr) (h:Sim Tryz.prog I t Rel noLabel none (iJ a0_p) s [] Γ):MeetsO Tryz.prog I (aa iO #[.pointer (some a0_p)]) t s Rel Γ :=
 aq (args:=[.pointer (some a0_p)]) Tryz.func225 rfl rfl (Nat.le_of_ble_eq_true rfl) (by rw [se]; exact h)
def A0:An :=
 .s (.r [none]) (.s (.r [none,some (.c (.agg [.int .i64,.str,.int .i64,.int .i64])),some tA,some tU]) (.s (.b (.s (.s (.r [none,some tB,none]) (.j [(7,.b .bool)] (.c (.x) (.s (.r [none,some tB,none]) (.c (.x) (.s (.r [none,some tB,none]) (.c (.x) (.r [none,some tB,none])))))))) (.c (.s (.d (.q 0 none (.q 1 (some tS) (.q 2 none (.q 3 (some tI) (.q 4 none (.l 5 (some tP) (.l 6 (some ai) (.l 7 (some tP) (.q 8 none (.e))))))))))) (.x)) (.x)))) (.s (.r [none,some tS,none]) (.s (.j [(4,.b .str)] (.b (.l [(4,.b .str)] (.s (.s (.r [none,some tB]) (.c (.x) (.x))) (.b (.r [none,none,some tS,some tS,some tS,none])))))) (.s (.d (.q 0 none (.q 1 none (.q 2 (some tI) (.q 3 none (.l 4 (some tP) (.l 5 (some ai) (.l 6 (some tP) (.q 7 none (.e)))))))))) (.x))))))
def oY (a0_p:Addr):T :=
 .op (aa aL #[.pointer (some a0_p)]) (.c (.agg [.int .i64,.str,.int .i64,.int .i64])) fun r1 =>
 .op (bD ad) tA fun r2 =>
 .op (a7 ad (.pointer (some r2)) (.agg #[.int .i64 r1.1,.string r1.2.1,.int .i64 r1.2.2.1,.int .i64 r1.2.2.2.1])) tU fun _ =>
 .op (aa au #[.pointer (some a0_p),.string knull]) tB fun r4 =>
 .join 0 [.b .bool] (
 .ite r4 (
 .out 0 [.bool true]) (
 .op (aa au #[.pointer (some a0_p),.string kundefined]) tB fun r5 =>
 .ite r5 (
 .out 0 [.bool true]) (
 .op (aa au #[.pointer (some a0_p),.string ktrue]) tB fun r6 =>
 .ite r6 (
 .out 0 [.bool true]) (
 .op (aa au #[.pointer (some a0_p),.string kfalse]) tB fun r7 =>
 .out 0 [.bool r7])))) fun x8 =>
 .ite x8.1 (
 .draw <|
 .opq (am aK (.pointer (some ⟨r2.block,r2.off+1,none⟩))) tS fun r9 =>
 .opq (am ar (.pointer (some ⟨r2.block,r2.off+2,none⟩))) tI fun r10 =>
 .opl (aa cX #[.pointer (some a0_p)]) tP fun r11 =>
 .opl (aG ae 1 #[(0,.pointer r11)]) ai fun r12 =>
 .opl (aa al #[.int .i64 80,.string r9,.int .i64 0,.int .i64 r10,.slice r12.1 r12.2.1 r12.2.2]) tP fun r13 =>
 .ret #[.v (.pointer r13)]) (
 .op (aa bG #[.pointer (some a0_p)]) tS fun r14 =>
 .join 0 [.b .str] (
 .loop 1 [.b .str] [.string r14] fun x15 =>
 .op (aa au #[.pointer (some a0_p),.string k_dot]) tB fun r16 =>
 .ite r16 (
 .op (aa bG #[.pointer (some a0_p)]) tS fun r17 =>
 .op (cU .add aK (.string k_dot) (.string r17)) tS fun r18 =>
 .op (cU .add aK (.string x15.1) (.string r18)) tS fun r19 =>
 .out 1 [.string r19]) (
 .out 0 [.string x15.1])) fun x20 =>
 .draw <|
 .opq (am ar (.pointer (some ⟨r2.block,r2.off+2,none⟩))) tI fun r21 =>
 .opl (aa eH #[.pointer (some a0_p)]) tP fun r22 =>
 .opl (aG ae 1 #[(0,.pointer r22)]) ai fun r23 =>
 .opl (aa al #[.int .i64 80,.string x20.1,.int .i64 0,.int .i64 r21,.slice r23.1 r23.2.1 r23.2.2]) tP fun r24 =>
 .ret #[.v (.pointer r24)])
theorem Bn (a0_p:Addr):cc Tryz.prog Tryz.f220 A0 [.pointer (some a0_p)]=oY a0_p:=by kernel_rfl
theorem Bt {ε σ β:Type} {I:aN ε σ} {t:Ty} {s:Sp ε σ β} {Rel:β→t.den→ak→Fact} {Γ:List Fact} (a0_p:Addr) (h:Sim Tryz.prog I t Rel noLabel none (oY a0_p) s [] Γ):MeetsO Tryz.prog I (aa ku #[.pointer (some a0_p)]) t s Rel Γ :=
 aq (args:=[.pointer (some a0_p)]) Tryz.func220 rfl rfl (Nat.le_of_ble_eq_true rfl) (by rw [Bn]; exact h)
def yC:An :=
 .s (.r [none]) (.s (.r [none,some (.c (.agg [.int .i64,.str,.int .i64,.int .i64])),none,none]) (.s (.s (.r [none,none,some tB,none]) (.c (.s (.r [none,some tP,none]) (.x)) (.x))) (.s (.r [none,none,none,some tP,none]) (.s (.r [none,none,some tA,none,none,some tU]) (.s (.r [none,none]) (.x))))))
def nf (a0_p:Addr) (a1_word:ByteArray):T :=
 .op (aa aL #[.pointer (some a0_p)]) (.c (.agg [.int .i64,.str,.int .i64,.int .i64])) fun r1 =>
 .op (aa au #[.pointer (some a0_p),.string a1_word]) tB fun r2 =>
 .ite (!r2) (
 .op (aa cX #[.pointer (some a0_p)]) tP fun r3 =>
 .ret #[.v (.pointer r3)]) (
 .op (aa ei #[.pointer (some a0_p),.func (.func ku) #[.pointer (some a0_p)] #[]]) tP fun r4 =>
 .op (cg (.pointer r4)) tA fun r5 =>
 .op (a7 ar (.pointer (some ⟨r5.block,r5.off+4,none⟩)) (.int .i64 r1.2.2.1)) tU fun _ =>
 .ret #[.v (.pointer r4)])
theorem AT (a0_p:Addr) (a1_word:ByteArray):cc Tryz.prog Tryz.f186 yC [.pointer (some a0_p),.string a1_word]=nf a0_p a1_word:=by kernel_rfl
theorem Ar {ε σ β:Type} {I:aN ε σ} {t:Ty} {s:Sp ε σ β} {Rel:β→t.den→ak→Fact} {Γ:List Fact} (a0_p:Addr) (a1_word:ByteArray) (h:Sim Tryz.prog I t Rel noLabel none (nf a0_p a1_word) s [] Γ):MeetsO Tryz.prog I (aa jL #[.pointer (some a0_p),.string a1_word]) t s Rel Γ :=
 aq (args:=[.pointer (some a0_p),.string a1_word]) Tryz.func186 rfl rfl (Nat.le_of_ble_eq_true rfl) (by rw [AT]; exact h)
def xL:An :=
 .s (.r [none]) (.s (.r [none,some (.c (.agg [.int .i64,.str,.int .i64,.int .i64])),none,none]) (.s (.s (.r [none,some tB,none]) (.c (.s (.r [none,some tP,none]) (.x)) (.x))) (.s (.r [none,none,none,some tP,none]) (.s (.r [none,none,some tA,none,none,some tU]) (.s (.r [none,some tU]) (.s (.r [none,none]) (.x)))))))
def mS (a0_p:Addr):T :=
 .op (aa aL #[.pointer (some a0_p)]) (.c (.agg [.int .i64,.str,.int .i64,.int .i64])) fun r1 =>
 .op (aa au #[.pointer (some a0_p),.string jU]) tB fun r2 =>
 .ite (!r2) (
 .op (aa cX #[.pointer (some a0_p)]) tP fun r3 =>
 .ret #[.v (.pointer r3)]) (
 .op (aa ei #[.pointer (some a0_p),.func (.func cI) #[.pointer (some a0_p)] #[]]) tP fun r4 =>
 .op (cg (.pointer r4)) tA fun r5 =>
 .op (a7 ar (.pointer (some ⟨r5.block,r5.off+4,none⟩)) (.int .i64 r1.2.2.1)) tU fun _ =>
 .op (aa jg #[.pointer (some a0_p)]) tU fun _ =>
 .ret #[.v (.pointer r4)])
theorem Aq (a0_p:Addr):cc Tryz.prog Tryz.f215 xL [.pointer (some a0_p)]=mS a0_p:=by kernel_rfl
theorem AI {ε σ β:Type} {I:aN ε σ} {t:Ty} {s:Sp ε σ β} {Rel:β→t.den→ak→Fact} {Γ:List Fact} (a0_p:Addr) (h:Sim Tryz.prog I t Rel noLabel none (mS a0_p) s [] Γ):MeetsO Tryz.prog I (aa eH #[.pointer (some a0_p)]) t s Rel Γ :=
 aq (args:=[.pointer (some a0_p)]) Tryz.func215 rfl rfl (Nat.le_of_ble_eq_true rfl) (by rw [Aq]; exact h)
def xI:An :=
 .s (.r [some tA,none]) (.s (.r [some tP,some (.c (.agg [.int .i64,.str,.int .i64,.int .i64])),none,none]) (.s (.s (.r [some tP,some tB,none]) (.c (.s (.r [some tP,some tP,none]) (.x)) (.x))) (.s (.r [some tP,none,some tP,none]) (.s (.r [none,none,some tA,none,none,some tU]) (.s (.r [some tP,some tU]) (.s (.r [none,none]) (.x)))))))
def nh (a0_p:Addr):T :=
 .op (iK aD (.pointer (some a0_p))) tA fun r1 =>
 .op (am aD (.pointer (some r1))) tP fun r2 =>
 .op (aa aL #[.pointer r2]) (.c (.agg [.int .i64,.str,.int .i64,.int .i64])) fun r3 =>
 .op (am aD (.pointer (some r1))) tP fun r4 =>
 .op (aa au #[.pointer r4,.string jU]) tB fun r5 =>
 .ite (!r5) (
 .op (am aD (.pointer (some r1))) tP fun r6 =>
 .op (aa cX #[.pointer r6]) tP fun r7 =>
 .ret #[.v (.pointer r7)]) (
 .op (am aD (.pointer (some r1))) tP fun r8 =>
 .op (aa ei #[.pointer r8,.func (.func kG) #[] #[.pointer (some r1)]]) tP fun r9 =>
 .op (cg (.pointer r9)) tA fun r10 =>
 .op (a7 ar (.pointer (some ⟨r10.block,r10.off+4,none⟩)) (.int .i64 r3.2.2.1)) tU fun _ =>
 .op (am aD (.pointer (some r1))) tP fun r12 =>
 .op (aa jg #[.pointer r12]) tU fun _ =>
 .ret #[.v (.pointer r9)])
theorem AW (a0_p:Addr):cc Tryz.prog Tryz.f185 xI [.pointer (some a0_p)]=nh a0_p:=by kernel_rfl
theorem AU {ε σ β:Type} {I:aN ε σ} {t:Ty} {s:Sp ε σ β} {Rel:β→t.den→ak→Fact} {Γ:List Fact} (a0_p:Addr) (h:Sim Tryz.prog I t Rel noLabel none (nh a0_p) s [] Γ):MeetsO Tryz.prog I (aa eJ #[.pointer (some a0_p)]) t s Rel Γ :=
 aq (args:=[.pointer (some a0_p)]) Tryz.func185 rfl rfl (Nat.le_of_ble_eq_true rfl) (by rw [AW]; exact h)
def uv:An :=
 .s (.r [none]) (.s (.r [some tP,some (.c (.agg [.int .i64,.str,.int .i64,.int .i64])),none,none]) (.s (.r [some tP,some tS,none,some tP,none]) (.x)))
def kz (a0_a0:Addr):T :=
 .op (am aD (.pointer (some a0_a0))) tP fun r1 =>
 .op (aa aL #[.pointer r1]) (.c (.agg [.int .i64,.str,.int .i64,.int .i64])) fun r2 =>
 .op (am aD (.pointer (some a0_a0))) tP fun r3 =>
 .op (aa bG #[.pointer r3]) tS fun r4 =>
 .op (aa al #[.int .i64 67,.string r4,.int .i64 0,.int .i64 r2.2.2.1,.slice none 0 0]) tP fun r5 =>
 .ret #[.v (.pointer r5)]
theorem vl (a0_a0:Addr):cc Tryz.prog Tryz.f218 uv [.pointer (some a0_a0)]=kz a0_a0:=by kernel_rfl
theorem vP {ε σ β:Type} {I:aN ε σ} {t:Ty} {s:Sp ε σ β} {Rel:β→t.den→ak→Fact} {Γ:List Fact} (a0_a0:Addr) (h:Sim Tryz.prog I t Rel noLabel none (kz a0_a0) s [] Γ):MeetsO Tryz.prog I (aa kG #[.pointer (some a0_a0)]) t s Rel Γ :=
 aq (args:=[.pointer (some a0_a0)]) Tryz.func218 rfl rfl (Nat.le_of_ble_eq_true rfl) (by rw [vl]; exact h)
def rC:An :=
 .s (.r [none]) (.s (.s (.r [none,some tB]) (.c (.s (.r [none,some tP,none]) (.x)) (.x))) (.s (.r [none,some tP,none]) (.x)))
def jv (a0_p:Addr):T :=
 .op (aa au #[.pointer (some a0_p),.string gc]) tB fun r1 =>
 .ite r1 (
 .op (aa cI #[.pointer (some a0_p)]) tP fun r2 =>
 .ret #[.v (.pointer r2)]) (
 .op (aa da #[.pointer (some a0_p)]) tP fun r3 =>
 .ret #[.v (.pointer r3)])
theorem tv (a0_p:Addr):cc Tryz.prog Tryz.f214 rC [.pointer (some a0_p)]=jv a0_p:=by kernel_rfl
theorem tE {ε σ β:Type} {I:aN ε σ} {t:Ty} {s:Sp ε σ β} {Rel:β→t.den→ak→Fact} {Γ:List Fact} (a0_p:Addr) (h:Sim Tryz.prog I t Rel noLabel none (jv a0_p) s [] Γ):MeetsO Tryz.prog I (aa ee #[.pointer (some a0_p)]) t s Rel Γ :=
 aq (args:=[.pointer (some a0_p)]) Tryz.func214 rfl rfl (Nat.le_of_ble_eq_true rfl) (by rw [tv]; exact h)
def qQ:An :=
 .s (.r [none]) (.b (.s (.r [none,some (.c (.agg [.int .i64,.str,.int .i64,.int .i64])),none,some tP,none]) (.s (.r [none,some tU]) (.s (.x) (.s (.j [] (.b (.l [] (.s (.s (.r [none,some tB,none]) (.c (.x) (.x))) (.b (.s (.d (.q 0 none (.q 1 none (.q 2 (some tA) (.q 3 none (.q 4 (some ai) (.q 5 none (.l 6 (some tP) (.l 7 (some ai) (.l 8 (some ai) (.q 9 (some tA) (.q 10 none (.l 11 (some tU) (.e)))))))))))))) (.s (.r [none,some tB,none,none,none,some tB,none,none]) (.c (.x) (.x))))))))) (.s (.r [none,some tU]) (.s (.r [none,none]) (.x))))))))
def hU (a0_p:Addr):T :=
 .op (aa aL #[.pointer (some a0_p)]) (.c (.agg [.int .i64,.str,.int .i64,.int .i64])) fun r1 =>
 .op (aa al #[.int .i64 84,.string kE,.int .i64 0,.int .i64 r1.2.2.1,.slice none 0 0]) tP fun r2 =>
 .op (aa aA #[.pointer (some a0_p),.string k_lc]) tU fun _ =>
 .join 0 [] (
 .loop 1 [] [] fun x4 =>
 .op (aa bw #[.pointer (some a0_p),.string k_rc]) tB fun r5 =>
 .ite (!r5) (
 .draw <|
 .opq (cg (.pointer r2)) tA fun r6 =>
 .opq (am ae (.pointer (some ⟨r6.block,r6.off+5,none⟩))) ai fun r7 =>
 .opl (aa lM #[.pointer (some a0_p)]) tP fun r8 =>
 .opl (aG ae 1 #[(0,.pointer r8)]) ai fun r9 =>
 .opl (cW #[ae,ae] ae #[.slice r7.1 r7.2.1 r7.2.2,.slice r9.1 r9.2.1 r9.2.2]) ai fun r10 =>
 .opq (cg (.pointer r2)) tA fun r11 =>
 .op (a7 ae (.pointer (some ⟨r11.block,r11.off+5,none⟩)) (.slice r10.1 r10.2.1 r10.2.2)) tU fun _ =>
 .op (aa au #[.pointer (some a0_p),.string cw]) tB fun r13 =>
 .ite (!r13) (
 .op (aa au #[.pointer (some a0_p),.string gd]) tB fun r14 =>
 .ite (!r14) (
 .out 0 []) (
 .out 1 [])) (
 .out 1 [])) (
 .out 0 [])) fun x15 =>
 .op (aa aA #[.pointer (some a0_p),.string k_rc]) tU fun _ =>
 .ret #[.v (.pointer r2)]
theorem ru (a0_p:Addr):cc Tryz.prog Tryz.f187 qQ [.pointer (some a0_p)]=hU a0_p:=by kernel_rfl
theorem rn {ε σ β:Type} {I:aN ε σ} {t:Ty} {s:Sp ε σ β} {Rel:β→t.den→ak→Fact} {Γ:List Fact} (a0_p:Addr) (h:Sim Tryz.prog I t Rel noLabel none (hU a0_p) s [] Γ):MeetsO Tryz.prog I (aa fw #[.pointer (some a0_p)]) t s Rel Γ :=
 aq (args:=[.pointer (some a0_p)]) Tryz.func187 rfl rfl (Nat.le_of_ble_eq_true rfl) (by rw [ru]; exact h)
def vH:An :=
 .s (.r [none]) (.s (.r [none,some (.c (.agg [.int .i64,.str,.int .i64,.int .i64])),none,none]) (.s (.r [none,some tS,none]) (.s (.s (.r [none,some tB]) (.c (.s (.r [none,some (.c (.agg [.int .i64,.str,.int .i64,.int .i64])),none,none]) (.s (.r [none,some tU]) (.s (.r [none,some tP,none]) (.s (.r [none,some tU]) (.s (.r [none,some tU]) (.s (.r [none,none,none,none,none,some tP,some ai,some tP,some ai,some tP,none]) (.x))))))) (.x))) (.s (.r [none]) (.s (.s (.r [none,some tB]) (.j [(7,.b (.int .i64))] (.c (.r [none]) (.x)))) (.s (.r [none,some tU]) (.s (.r [none,none,none,none,some tP,some ai,some tP,none]) (.x))))))))
def lH (a0_p:Addr):T :=
 .op (aa aL #[.pointer (some a0_p)]) (.c (.agg [.int .i64,.str,.int .i64,.int .i64])) fun r1 =>
 .op (aa bG #[.pointer (some a0_p)]) tS fun r2 =>
 .op (aa bw #[.pointer (some a0_p),.string k_lp]) tB fun r3 =>
 .ite r3 (
 .op (aa aL #[.pointer (some a0_p)]) (.c (.agg [.int .i64,.str,.int .i64,.int .i64])) fun r4 =>
 .op (aa aA #[.pointer (some a0_p),.string k_lp]) tU fun _ =>
 .op (aa d8 #[.pointer (some a0_p),.bool false]) tP fun r6 =>
 .op (aa aA #[.pointer (some a0_p),.string k_rp]) tU fun _ =>
 .op (aa aA #[.pointer (some a0_p),.string gc]) tU fun _ =>
 .op (aa cI #[.pointer (some a0_p)]) tP fun r9 =>
 .op (aG ae 2 #[(0,.pointer r6),(1,.pointer r9)]) ai fun r10 =>
 .op (aa al #[.int .i64 86,.string kE,.int .i64 0,.int .i64 r4.2.2.1,.slice r10.1 r10.2.1 r10.2.2]) tP fun r11 =>
 .op (aG ae 1 #[(0,.pointer r11)]) ai fun r12 =>
 .op (aa al #[.int .i64 85,.string r2,.int .i64 0,.int .i64 r1.2.2.1,.slice r12.1 r12.2.1 r12.2.2]) tP fun r13 =>
 .ret #[.v (.pointer r13)]) (
 .op (aa au #[.pointer (some a0_p),.string ka]) tB fun r14 =>
 .join 0 [.b (.int .i64)] (
 .ite r14 (
 .out 0 [.int .i64 1]) (
 .out 0 [.int .i64 0])) fun x15 =>
 .op (aa aA #[.pointer (some a0_p),.string gc]) tU fun _ =>
 .op (aa cI #[.pointer (some a0_p)]) tP fun r17 =>
 .op (aG ae 1 #[(0,.pointer r17)]) ai fun r18 =>
 .op (aa al #[.int .i64 85,.string r2,.int .i64 x15.1,.int .i64 r1.2.2.1,.slice r18.1 r18.2.1 r18.2.2]) tP fun r19 =>
 .ret #[.v (.pointer r19)])
theorem yJ (a0_p:Addr):cc Tryz.prog Tryz.f221 vH [.pointer (some a0_p)]=lH a0_p:=by kernel_rfl
theorem yY {ε σ β:Type} {I:aN ε σ} {t:Ty} {s:Sp ε σ β} {Rel:β→t.den→ak→Fact} {Γ:List Fact} (a0_p:Addr) (h:Sim Tryz.prog I t Rel noLabel none (lH a0_p) s [] Γ):MeetsO Tryz.prog I (aa lM #[.pointer (some a0_p)]) t s Rel Γ :=
 aq (args:=[.pointer (some a0_p)]) Tryz.func221 rfl rfl (Nat.le_of_ble_eq_true rfl) (by rw [yJ]; exact h)
def ug:An :=
 .s (.r [some tA,some tA,none]) (.s (.s (.r [some tP,some tB]) (.c (.s (.r [some tP,some tP,none]) (.x)) (.x))) (.s (.r [some tP,none,some tP,none]) (.x)))
def kA (a0_p:Addr) (a1_marks:Bool):T :=
 .op (iK aD (.pointer (some a0_p))) tA fun r1 =>
 .op (iK bE (.bool a1_marks)) tA fun r2 =>
 .op (am aD (.pointer (some r1))) tP fun r3 =>
 .op (aa bw #[.pointer r3,.string k_rp]) tB fun r4 =>
 .ite r4 (
 .op (am aD (.pointer (some r1))) tP fun r5 =>
 .op (aa cX #[.pointer r5]) tP fun r6 =>
 .ret #[.v (.pointer r6)]) (
 .op (am aD (.pointer (some r1))) tP fun r7 =>
 .op (aa ei #[.pointer r7,.func (.func jn) #[] #[.pointer (some r1),.pointer (some r2)]]) tP fun r8 =>
 .ret #[.v (.pointer r8)])
theorem wX (a0_p:Addr) (a1_marks:Bool):cc Tryz.prog Tryz.f192 ug [.pointer (some a0_p),.bool a1_marks]=kA a0_p a1_marks:=by kernel_rfl
theorem wM {ε σ β:Type} {I:aN ε σ} {t:Ty} {s:Sp ε σ β} {Rel:β→t.den→ak→Fact} {Γ:List Fact} (a0_p:Addr) (a1_marks:Bool) (h:Sim Tryz.prog I t Rel noLabel none (kA a0_p a1_marks) s [] Γ):MeetsO Tryz.prog I (aa d8 #[.pointer (some a0_p),.bool a1_marks]) t s Rel Γ :=
 aq (args:=[.pointer (some a0_p),.bool a1_marks]) Tryz.func192 rfl rfl (Nat.le_of_ble_eq_true rfl) (by rw [wX]; exact h)
def rT:An :=
 .s (.r [none]) (.s (.r [some tP,some (.c (.agg [.int .i64,.str,.int .i64,.int .i64])),none,none,none]) (.s (.s (.j [(13,.b .bool)] (.r [some tB,none,some tP,some tB,none])) (.j [(4,.b (.int .i64))] (.c (.r [none,some tI,none]) (.x)))) (.s (.s (.j [(20,.b .bool)] (.r [some tB,none,some tP,some tB,none])) (.j [(4,.b (.int .i64))] (.c (.r [none,some tI,none]) (.x)))) (.s (.r [some tP,some tS,none]) (.s (.s (.r [some tP,some tB]) (.j [(4,.b (.int .i64))] (.c (.r [none,some tI,none]) (.x)))) (.s (.r [none,none,none,some tP,some tP,some ai,some tP,none]) (.x)))))))
def jq (a0_a0:Addr) (a1_a1:Addr):T :=
 .op (am aD (.pointer (some a0_a0))) tP fun r1 =>
 .op (aa aL #[.pointer r1]) (.c (.agg [.int .i64,.str,.int .i64,.int .i64])) fun r2 =>
 .join 0 [.b .bool] (
 .op (am bE (.pointer (some a1_a1))) tB fun r3 =>
 .ite r3 (
 .op (am aD (.pointer (some a0_a0))) tP fun r4 =>
 .op (aa au #[.pointer r4,.string DH]) tB fun r5 =>
 .out 0 [.bool r5]) (
 .out 0 [.bool false])) fun x6 =>
 .join 0 [.b (.int .i64)] (
 .ite x6.1 (
 .op (cU .or ar (.int .i64 0) (.int .i64 2)) tI fun r7 =>
 .out 0 [.int .i64 r7]) (
 .out 0 [.int .i64 0])) fun x8 =>
 .join 0 [.b .bool] (
 .op (am bE (.pointer (some a1_a1))) tB fun r9 =>
 .ite r9 (
 .op (am aD (.pointer (some a0_a0))) tP fun r10 =>
 .op (aa au #[.pointer r10,.string j8]) tB fun r11 =>
 .out 0 [.bool r11]) (
 .out 0 [.bool false])) fun x12 =>
 .join 0 [.b (.int .i64)] (
 .ite x12.1 (
 .op (cU .or ar (.int .i64 x8.1) (.int .i64 4)) tI fun r13 =>
 .out 0 [.int .i64 r13]) (
 .out 0 [.int .i64 x8.1])) fun x14 =>
 .op (am aD (.pointer (some a0_a0))) tP fun r15 =>
 .op (aa bG #[.pointer r15]) tS fun r16 =>
 .op (am aD (.pointer (some a0_a0))) tP fun r17 =>
 .op (aa au #[.pointer r17,.string ka]) tB fun r18 =>
 .join 0 [.b (.int .i64)] (
 .ite r18 (
 .op (cU .or ar (.int .i64 x14.1) (.int .i64 1)) tI fun r19 =>
 .out 0 [.int .i64 r19]) (
 .out 0 [.int .i64 x14.1])) fun x20 =>
 .op (am aD (.pointer (some a0_a0))) tP fun r21 =>
 .op (aa ee #[.pointer r21]) tP fun r22 =>
 .op (aG ae 1 #[(0,.pointer r22)]) ai fun r23 =>
 .op (aa al #[.int .i64 66,.string r16,.int .i64 x20.1,.int .i64 r2.2.2.1,.slice r23.1 r23.2.1 r23.2.2]) tP fun r24 =>
 .ret #[.v (.pointer r24)]
theorem tu (a0_a0:Addr) (a1_a1:Addr):cc Tryz.prog Tryz.f222 rT [.pointer (some a0_a0),.pointer (some a1_a1)]=jq a0_a0 a1_a1:=by kernel_rfl
theorem tq {ε σ β:Type} {I:aN ε σ} {t:Ty} {s:Sp ε σ β} {Rel:β→t.den→ak→Fact} {Γ:List Fact} (a0_a0:Addr) (a1_a1:Addr) (h:Sim Tryz.prog I t Rel noLabel none (jq a0_a0 a1_a1) s [] Γ):MeetsO Tryz.prog I (aa jn #[.pointer (some a0_a0),.pointer (some a1_a1)]) t s Rel Γ :=
 aq (args:=[.pointer (some a0_a0),.pointer (some a1_a1)]) Tryz.func222 rfl rfl (Nat.le_of_ble_eq_true rfl) (by rw [tu]; exact h)
end
end Go.Proofs.YtjlgcpgjdgeejaaGreatDoor
end

section
namespace Go.Proofs.YtjlgcpgjdgeejaaGreatDoor
open Go
set_option linter.unusedSimpArgs false
set_option linter.unusedVariables false
set_option linter.constructorNameAsVariable false
set_option maxRecDepth 100000
theorem mm {R:a6} (hR:cJ R) (pb:Nat):Meets PG (PI pb) (aa eH #[.pointer (some (aR pb))]) tP (eY R) NodeF []:=by
 refine AI (aR pb) ?_
 unfold mS eY
 (with_reducible repeat (first | refine sA ?_ | refine sB ?_ | refine sC ?_ | refine sD ?_ | refine sE ?_ | refine sF ?_))
 first | refine ag (bk _) (fun _ h=>nomatch h) fun r1 b=>Sim.prop fun h=>?_ | refine af (bk _) (fun _ h=>nomatch h) fun r1 b=>Sim.prop fun h=>?_
 subst h
 (with_reducible repeat (first | refine sA ?_ | refine sB ?_ | refine sC ?_ | refine sD ?_ | refine sE ?_ | refine sF ?_))
 first | refine ag (az _ _) (fun _ h=>nomatch h) fun r2 b=>Sim.prop fun h=>?_ | refine af (az _ _) (fun _ h=>nomatch h) fun r2 b=>Sim.prop fun h=>?_
 subst h
 (with_reducible repeat (first | refine sA ?_ | refine sB ?_ | refine sC ?_ | refine sD ?_ | refine sE ?_ | refine sF ?_))
 (first | refine qA (fun h=>?_) fun h=>?_ | refine qB (fun h=>?_) fun h=>?_ | refine qC (fun h=>?_) fun h=>?_ | refine qD (fun h=>?_) fun h=>?_ | refine qE (fun h=>?_) fun h=>?_) -- (!r2)
 ·skip
  (with_reducible repeat (first | refine sA ?_ | refine sB ?_ | refine sC ?_ | refine sD ?_ | refine sE ?_ | refine sF ?_))
  first | refine ag (fe _) (fun _ h=>nomatch h) fun r3 nr3=>?_ | refine af (fe _) (fun _ h=>nomatch h) fun r3 nr3=>?_
  (with_reducible repeat (first | refine sA ?_ | refine sB ?_ | refine sC ?_ | refine sD ?_ | refine sE ?_ | refine sF ?_))
  exact av (t:=tP) _ rfl (fun F hF=>hF _ (by repeat (first | exact mz | apply ms)))
 ·skip
  (with_reducible repeat (first | refine sA ?_ | refine sB ?_ | refine sC ?_ | refine sD ?_ | refine sE ?_ | refine sF ?_))
  first | refine iZ (gO pb _ _ R.fuel (Nat.le_trans hR.fuel (by decide)) (MeetsO.congr (fP _ _) (hR.typed _))) (fun _ h=>nomatch h) fun r4 nr4 Kr4=>?_ | refine lf (gO pb _ _ R.fuel (Nat.le_trans hR.fuel (by decide)) (MeetsO.congr (fP _ _) (hR.typed _))) (fun _ h=>nomatch h) fun r4 nr4 Kr4=>?_
  refine qL (by repeat (first | exact mz | apply ms)) fun Kr4=>?_
  refine dC (by repeat (first | exact mz | apply ms)) ?_
  (with_reducible repeat (first | refine sA ?_ | refine sB ?_ | refine sC ?_ | refine sD ?_ | refine sE ?_ | refine sF ?_))
  first | refine ag (s8 _) (fun _ h=>nomatch h) fun x b=>?_ | refine af (s8 _) (fun _ h=>nomatch h) fun x b=>?_
  (with_reducible repeat (first | refine sA ?_ | refine sB ?_ | refine sC ?_ | refine sD ?_ | refine sE ?_ | refine sF ?_))
  exact av (t:=tP) _ rfl (fun F hF=>hF _ (by repeat (first | exact mz | apply ms)))
theorem B2 (pb b:Nat):Meets PG (PI pb) (aa kG #[.pointer (some (aR b))]) tP xY NodeF [Fact.at b (ap aD [.pointer (some (aR pb))])]:=by
 refine vP (aR b) ?_
 unfold kz xY
 refine aS (b1:=.ptr) _ (by repeat (first | exact mz | apply ms)) (by kernel_rfl) rfl rfl ?_
 (with_reducible repeat (first | refine sA ?_ | refine sB ?_ | refine sC ?_ | refine sD ?_ | refine sE ?_ | refine sF ?_))
 first | refine ag (bk _) (fun _ h=>nomatch h) fun r2 b=>Sim.prop fun h=>?_ | refine af (bk _) (fun _ h=>nomatch h) fun r2 b=>Sim.prop fun h=>?_
 subst h
 refine aS (b1:=.ptr) _ (by repeat (first | exact mz | apply ms)) (by kernel_rfl) rfl rfl ?_
 (with_reducible repeat (first | refine sA ?_ | refine sB ?_ | refine sC ?_ | refine sD ?_ | refine sE ?_ | refine sF ?_))
 first | refine ag (ch _) (fun _ h=>nomatch h) fun r4 b=>Sim.prop fun h=>?_ | refine af (ch _) (fun _ h=>nomatch h) fun r4 b=>Sim.prop fun h=>?_
 subst h
 refine fO fun r5=>?_
 (with_reducible repeat (first | refine sA ?_ | refine sB ?_ | refine sC ?_ | refine sD ?_ | refine sE ?_ | refine sF ?_))
 exact av (t:=tP) _ rfl (fun F hF=>hF _ (by repeat (first | exact mz | apply ms)))
theorem jF {R:a6} (hR:cJ R) (pb:Nat):Meets PG (PI pb) (aa eJ #[.pointer (some (aR pb))]) tP (je R) NodeF []:=by
 refine AU (aR pb) ?_
 unfold nh je
 refine jP fun br1=>?_
 refine aS (b1:=.ptr) _ (by repeat (first | exact mz | apply ms)) (by kernel_rfl) rfl rfl ?_
 (with_reducible repeat (first | refine sA ?_ | refine sB ?_ | refine sC ?_ | refine sD ?_ | refine sE ?_ | refine sF ?_))
 first | refine ag (bk _) (fun _ h=>nomatch h) fun r3 b=>Sim.prop fun h=>?_ | refine af (bk _) (fun _ h=>nomatch h) fun r3 b=>Sim.prop fun h=>?_
 subst h
 refine aS (b1:=.ptr) _ (by repeat (first | exact mz | apply ms)) (by kernel_rfl) rfl rfl ?_
 (with_reducible repeat (first | refine sA ?_ | refine sB ?_ | refine sC ?_ | refine sD ?_ | refine sE ?_ | refine sF ?_))
 first | refine ag (az _ _) (fun _ h=>nomatch h) fun r5 b=>Sim.prop fun h=>?_ | refine af (az _ _) (fun _ h=>nomatch h) fun r5 b=>Sim.prop fun h=>?_
 subst h
 (with_reducible repeat (first | refine sA ?_ | refine sB ?_ | refine sC ?_ | refine sD ?_ | refine sE ?_ | refine sF ?_))
 (first | refine qA (fun h=>?_) fun h=>?_ | refine qB (fun h=>?_) fun h=>?_ | refine qC (fun h=>?_) fun h=>?_ | refine qD (fun h=>?_) fun h=>?_ | refine qE (fun h=>?_) fun h=>?_) -- (!r5)
 ·skip
  refine aS (b1:=.ptr) _ (by repeat (first | exact mz | apply ms)) (by kernel_rfl) rfl rfl ?_
  (with_reducible repeat (first | refine sA ?_ | refine sB ?_ | refine sC ?_ | refine sD ?_ | refine sE ?_ | refine sF ?_))
  first | refine ag (fe _) (fun _ h=>nomatch h) fun r7 nr7=>?_ | refine af (fe _) (fun _ h=>nomatch h) fun r7 nr7=>?_
  (with_reducible repeat (first | refine sA ?_ | refine sB ?_ | refine sC ?_ | refine sD ?_ | refine sE ?_ | refine sF ?_))
  exact av (t:=tP) _ rfl (fun F hF=>hF _ (by repeat (first | exact mz | apply ms)))
 ·skip
  refine aS (b1:=.ptr) _ (by repeat (first | exact mz | apply ms)) (by kernel_rfl) rfl rfl ?_
  (with_reducible repeat (first | refine sA ?_ | refine sB ?_ | refine sC ?_ | refine sD ?_ | refine sE ?_ | refine sF ?_))
  first | refine iZ (gO pb _ _ R.fuel (Nat.le_trans hR.fuel (by decide)) (MeetsO.congr (wS _ _) (B2 _ _))) (fun A hA=>by obtain rfl:=List.mem_singleton.1 hA; exact (by repeat (first | exact mz | apply ms))) fun r9 nr9 Kr9=>?_ | refine lf (gO pb _ _ R.fuel (Nat.le_trans hR.fuel (by decide)) (MeetsO.congr (wS _ _) (B2 _ _))) (fun A hA=>by obtain rfl:=List.mem_singleton.1 hA; exact (by repeat (first | exact mz | apply ms))) fun r9 nr9 Kr9=>?_
  refine qL (by repeat (first | exact mz | apply ms)) fun Kr9=>?_
  refine dC (by repeat (first | exact mz | apply ms)) ?_
  refine aS (b1:=.ptr) _ (by repeat (first | exact mz | apply ms)) (by kernel_rfl) rfl rfl ?_
  (with_reducible repeat (first | refine sA ?_ | refine sB ?_ | refine sC ?_ | refine sD ?_ | refine sE ?_ | refine sF ?_))
  first | refine ag (s8 _) (fun _ h=>nomatch h) fun x b=>?_ | refine af (s8 _) (fun _ h=>nomatch h) fun x b=>?_
  (with_reducible repeat (first | refine sA ?_ | refine sB ?_ | refine sC ?_ | refine sD ?_ | refine sE ?_ | refine sF ?_))
  exact av (t:=tP) _ rfl (fun F hF=>hF _ (by repeat (first | exact mz | apply ms)))
theorem Bg {R:a6} (hR:cJ R) (pb:Nat):Meets PG (PI pb) (aa ku #[.pointer (some (aR pb))]) tP (rU R) NodeF []:=by
 refine Bt (aR pb) ?_
 unfold oY rU
 (with_reducible repeat (first | refine sA ?_ | refine sB ?_ | refine sC ?_ | refine sD ?_ | refine sE ?_ | refine sF ?_))
 first | refine ag (bk _) (fun _ h=>nomatch h) fun r1 b=>Sim.prop fun h=>?_ | refine af (bk _) (fun _ h=>nomatch h) fun r1 b=>Sim.prop fun h=>?_
 subst h
 refine gB (c:=true) (z:=[.int .i64 0,.string kE,.int .i64 0,.int .i64 0]) (by kernel_rfl) (by kernel_rfl) rfl (by simp [Value.cells,Value.oneCell']) fun br2=>?_
 (with_reducible repeat (first | refine sA ?_ | refine sB ?_ | refine sC ?_ | refine sD ?_ | refine sE ?_ | refine sF ?_))
 first | refine ag (az _ _) (fun _ h=>nomatch h) fun r4 b=>Sim.prop fun h=>?_ | refine af (az _ _) (fun _ h=>nomatch h) fun r4 b=>Sim.prop fun h=>?_
 subst h
 refine dg ?_ fun x8=>?_
 ·skip
  (with_reducible repeat (first | refine sA ?_ | refine sB ?_ | refine sC ?_ | refine sD ?_ | refine sE ?_ | refine sF ?_))
  (first | refine qA (fun h=>?_) fun h=>?_ | refine qB (fun h=>?_) fun h=>?_ | refine qC (fun h=>?_) fun h=>?_ | refine qD (fun h=>?_) fun h=>?_ | refine qE (fun h=>?_) fun h=>?_) -- r4
  ·skip
   exact ba _ rfl rfl
  ·skip
   (with_reducible repeat (first | refine sA ?_ | refine sB ?_ | refine sC ?_ | refine sD ?_ | refine sE ?_ | refine sF ?_))
   first | refine ag (az _ _) (fun _ h=>nomatch h) fun r5 b=>Sim.prop fun h=>?_ | refine af (az _ _) (fun _ h=>nomatch h) fun r5 b=>Sim.prop fun h=>?_
   subst h
   (with_reducible repeat (first | refine sA ?_ | refine sB ?_ | refine sC ?_ | refine sD ?_ | refine sE ?_ | refine sF ?_))
   (first | refine qA (fun h=>?_) fun h=>?_ | refine qB (fun h=>?_) fun h=>?_ | refine qC (fun h=>?_) fun h=>?_ | refine qD (fun h=>?_) fun h=>?_ | refine qE (fun h=>?_) fun h=>?_) -- r5
   ·skip
    exact ba _ rfl rfl
   ·skip
    (with_reducible repeat (first | refine sA ?_ | refine sB ?_ | refine sC ?_ | refine sD ?_ | refine sE ?_ | refine sF ?_))
    first | refine ag (az _ _) (fun _ h=>nomatch h) fun r6 b=>Sim.prop fun h=>?_ | refine af (az _ _) (fun _ h=>nomatch h) fun r6 b=>Sim.prop fun h=>?_
    subst h
    (with_reducible repeat (first | refine sA ?_ | refine sB ?_ | refine sC ?_ | refine sD ?_ | refine sE ?_ | refine sF ?_))
    (first | refine qA (fun h=>?_) fun h=>?_ | refine qB (fun h=>?_) fun h=>?_ | refine qC (fun h=>?_) fun h=>?_ | refine qD (fun h=>?_) fun h=>?_ | refine qE (fun h=>?_) fun h=>?_) -- r6
    ·skip
     exact ba _ rfl rfl
    ·skip
     (with_reducible repeat (first | refine sA ?_ | refine sB ?_ | refine sC ?_ | refine sD ?_ | refine sE ?_ | refine sF ?_))
     first | refine ag (az _ _) (fun _ h=>nomatch h) fun r7 b=>Sim.prop fun h=>?_ | refine af (az _ _) (fun _ h=>nomatch h) fun r7 b=>Sim.prop fun h=>?_
     subst h
     exact ba _ rfl rfl
 ·skip
  (with_reducible repeat (first | refine sA ?_ | refine sB ?_ | refine sC ?_ | refine sD ?_ | refine sE ?_ | refine sF ?_))
  (first | refine qA (fun h=>?_) fun h=>?_ | refine qB (fun h=>?_) fun h=>?_ | refine qC (fun h=>?_) fun h=>?_ | refine qD (fun h=>?_) fun h=>?_ | refine qE (fun h=>?_) fun h=>?_) -- x8.1
  ·skip
   refine dD [] (fun _ h=>nomatch h) ?_
   refine df (b1:=.str) _ (by repeat (first | exact mz | apply ms)) (by kernel_rfl) rfl rfl ?_
   refine df (b1:=.int .i64) _ (by repeat (first | exact mz | apply ms)) (by kernel_rfl) rfl rfl ?_
   (with_reducible repeat (first | refine sA ?_ | refine sB ?_ | refine sC ?_ | refine sD ?_ | refine sE ?_ | refine sF ?_))
   refine ef (fe _) (fun _ h=>nomatch h) fun r11 nr11=>?_
   refine e9 [r11] [nr11] rfl (by decide) (by decide) (by kernel_rfl) (fun F hF=>(.cons _ _ _ _ (hF (NodeF nr11 r11) (by repeat (first | exact mz | apply ms))) .nil)) (fun p hp=>by first | exact absurd hp List.not_mem_nil | (simp at hp; simp [hp])) fun r13=>?_
   (with_reducible repeat (first | refine sA ?_ | refine sB ?_ | refine sC ?_ | refine sD ?_ | refine sE ?_ | refine sF ?_))
   exact av (t:=tP) _ rfl (fun F hF=>hF _ (by repeat (first | exact mz | apply ms)))
  ·skip
   (with_reducible repeat (first | refine sA ?_ | refine sB ?_ | refine sC ?_ | refine sD ?_ | refine sE ?_ | refine sF ?_))
   refine ag (D7 _) (fun _ h=>nomatch h) fun r14 b=>Sim.both (Sim.prop fun hsz=>Sim.prop fun h=>?_)
   subst h
   refine EM ?_ fun x20=>?_
   ·refine oK (δ:=ByteArray) (fun k s=>o9 k s>>=fun s=>eY R>>=fun a=>pure (aE 80 s 0 (Tok.pos r1) [a])) (fun k s vs L'=>Fact.prop (vs=[.string s]∧L'=[]∧s.size+k * 4194305≤4611686018427387904)) R.fuel r14 (fun _=>rfl) rfl
     (fun F hF=>⟨rfl,rfl,by have:=hR.fuel; omega⟩) (by rintro k s vs L' F ⟨rfl,_⟩; exact ⟨(s,()),rfl⟩) ?_
    rintro k s L' ⟨s',⟨⟩⟩
    refine Sim.prop fun ⟨hv,hL,hs⟩=>?_
    subst hL
    obtain rfl:s'=s:=by
     have:=(List.cons.inj hv).1
     cases this; rfl
    rw [show o9 (k+1) s'=(do let b ← aX k_dot; cond b (do let x ← cV; o9 k (s'++(k_dot++x))) (pure s')) from rfl]
    (with_reducible repeat (first | refine sA ?_ | refine sB ?_ | refine sC ?_ | refine sD ?_ | refine sE ?_ | refine sF ?_))
    first | refine ag (az _ _) (fun _ h=>nomatch h) fun r16 b=>Sim.prop fun h=>?_ | refine af (az _ _) (fun _ h=>nomatch h) fun r16 b=>Sim.prop fun h=>?_
    subst h
    (first | refine qA (fun h=>?_) fun h=>?_ | refine qB (fun h=>?_) fun h=>?_ | refine qC (fun h=>?_) fun h=>?_ | refine qD (fun h=>?_) fun h=>?_ | refine qE (fun h=>?_) fun h=>?_) -- r16
    ·(with_reducible repeat (first | refine sA ?_ | refine sB ?_ | refine sC ?_ | refine sD ?_ | refine sE ?_ | refine sF ?_))
     refine ag (D7 _) (fun _ h=>nomatch h) fun r17 b=>Sim.both (Sim.prop fun hsz=>Sim.prop fun h=>?_)
     subst h
     refine DV (by have:k_dot.size=1:=rfl; omega) ?_
     refine DV (by have:k_dot.size=1:=rfl; dsimp only; rw [ByteArray.size_append]; omega) ?_
     refine cQ rfl ⟨(k,s'++(k_dot++r17)),Nat.lt_succ_self k⟩ rfl fun F hF=>⟨rfl,rfl,?_⟩
     have:k_dot.size=1:=rfl
     simp only [ByteArray.size_append]; omega
    ·exact GW s' rfl rfl
   ·skip
    refine dD [] (fun _ h=>nomatch h) ?_
    refine df (b1:=.int .i64) _ (by repeat (first | exact mz | apply ms)) (by kernel_rfl) rfl rfl ?_
    (with_reducible repeat (first | refine sA ?_ | refine sB ?_ | refine sC ?_ | refine sD ?_ | refine sE ?_ | refine sF ?_))
    refine ef (mm hR _) (fun _ h=>nomatch h) fun r22 nr22=>?_
    refine e9 [r22] [nr22] rfl (by decide) (by decide) (by kernel_rfl) (fun F hF=>(.cons _ _ _ _ (hF (NodeF nr22 r22) (by repeat (first | exact mz | apply ms))) .nil)) (fun p hp=>by first | exact absurd hp List.not_mem_nil | (simp at hp; simp [hp])) fun r24=>?_
    (with_reducible repeat (first | refine sA ?_ | refine sB ?_ | refine sC ?_ | refine sD ?_ | refine sE ?_ | refine sF ?_))
    exact av (t:=tP) _ rfl (fun F hF=>hF _ (by repeat (first | exact mz | apply ms)))
theorem xd {R:a6} (hR:cJ R) (pb:Nat) (word:ByteArray):Meets PG (PI pb) (aa jL #[.pointer (some (aR pb)),.string word]) tP (nH R word) NodeF []:=by
 refine Ar (aR pb) word ?_
 unfold nf nH
 (with_reducible repeat (first | refine sA ?_ | refine sB ?_ | refine sC ?_ | refine sD ?_ | refine sE ?_ | refine sF ?_))
 first | refine ag (bk _) (fun _ h=>nomatch h) fun r1 b=>Sim.prop fun h=>?_ | refine af (bk _) (fun _ h=>nomatch h) fun r1 b=>Sim.prop fun h=>?_
 subst h
 (with_reducible repeat (first | refine sA ?_ | refine sB ?_ | refine sC ?_ | refine sD ?_ | refine sE ?_ | refine sF ?_))
 first | refine ag (az _ _) (fun _ h=>nomatch h) fun r2 b=>Sim.prop fun h=>?_ | refine af (az _ _) (fun _ h=>nomatch h) fun r2 b=>Sim.prop fun h=>?_
 subst h
 (with_reducible repeat (first | refine sA ?_ | refine sB ?_ | refine sC ?_ | refine sD ?_ | refine sE ?_ | refine sF ?_))
 (first | refine qA (fun h=>?_) fun h=>?_ | refine qB (fun h=>?_) fun h=>?_ | refine qC (fun h=>?_) fun h=>?_ | refine qD (fun h=>?_) fun h=>?_ | refine qE (fun h=>?_) fun h=>?_) -- (!r2)
 ·skip
  (with_reducible repeat (first | refine sA ?_ | refine sB ?_ | refine sC ?_ | refine sD ?_ | refine sE ?_ | refine sF ?_))
  first | refine ag (fe _) (fun _ h=>nomatch h) fun r3 nr3=>?_ | refine af (fe _) (fun _ h=>nomatch h) fun r3 nr3=>?_
  (with_reducible repeat (first | refine sA ?_ | refine sB ?_ | refine sC ?_ | refine sD ?_ | refine sE ?_ | refine sF ?_))
  exact av (t:=tP) _ rfl (fun F hF=>hF _ (by repeat (first | exact mz | apply ms)))
 ·skip
  (with_reducible repeat (first | refine sA ?_ | refine sB ?_ | refine sC ?_ | refine sD ?_ | refine sE ?_ | refine sF ?_))
  first | refine iZ (gO pb _ _ R.fuel (Nat.le_trans hR.fuel (by decide)) (MeetsO.congr (fP _ _) (Bg hR _))) (fun _ h=>nomatch h) fun r4 nr4 Kr4=>?_ | refine lf (gO pb _ _ R.fuel (Nat.le_trans hR.fuel (by decide)) (MeetsO.congr (fP _ _) (Bg hR _))) (fun _ h=>nomatch h) fun r4 nr4 Kr4=>?_
  refine qL (by repeat (first | exact mz | apply ms)) fun Kr4=>?_
  refine dC (by repeat (first | exact mz | apply ms)) ?_
  (with_reducible repeat (first | refine sA ?_ | refine sB ?_ | refine sC ?_ | refine sD ?_ | refine sE ?_ | refine sF ?_))
  exact av (t:=tP) _ rfl (fun F hF=>hF _ (by repeat (first | exact mz | apply ms)))
theorem fH {R:a6} (hR:cJ R) (pb:Nat):Meets PG (PI pb) (aa ee #[.pointer (some (aR pb))]) tP (dT R) NodeF []:=by
 refine tE (aR pb) ?_
 unfold jv dT
 (with_reducible repeat (first | refine sA ?_ | refine sB ?_ | refine sC ?_ | refine sD ?_ | refine sE ?_ | refine sF ?_))
 first | refine ag (az _ _) (fun _ h=>nomatch h) fun r1 b=>Sim.prop fun h=>?_ | refine af (az _ _) (fun _ h=>nomatch h) fun r1 b=>Sim.prop fun h=>?_
 subst h
 (with_reducible repeat (first | refine sA ?_ | refine sB ?_ | refine sC ?_ | refine sD ?_ | refine sE ?_ | refine sF ?_))
 (first | refine qA (fun h=>?_) fun h=>?_ | refine qB (fun h=>?_) fun h=>?_ | refine qC (fun h=>?_) fun h=>?_ | refine qD (fun h=>?_) fun h=>?_ | refine qE (fun h=>?_) fun h=>?_) -- r1
 ·skip
  (with_reducible repeat (first | refine sA ?_ | refine sB ?_ | refine sC ?_ | refine sD ?_ | refine sE ?_ | refine sF ?_))
  first | refine ag (hR.typed _) (fun _ h=>nomatch h) fun r2 nr2=>?_ | refine af (hR.typed _) (fun _ h=>nomatch h) fun r2 nr2=>?_
  (with_reducible repeat (first | refine sA ?_ | refine sB ?_ | refine sC ?_ | refine sD ?_ | refine sE ?_ | refine sF ?_))
  exact av (t:=tP) _ rfl (fun F hF=>hF _ (by repeat (first | exact mz | apply ms)))
 ·skip
  (with_reducible repeat (first | refine sA ?_ | refine sB ?_ | refine sC ?_ | refine sD ?_ | refine sE ?_ | refine sF ?_))
  first | refine ag (dN _) (fun _ h=>nomatch h) fun r3 nr3=>?_ | refine af (dN _) (fun _ h=>nomatch h) fun r3 nr3=>?_
  (with_reducible repeat (first | refine sA ?_ | refine sB ?_ | refine sC ?_ | refine sD ?_ | refine sE ?_ | refine sF ?_))
  exact av (t:=tP) _ rfl (fun F hF=>hF _ (by repeat (first | exact mz | apply ms)))
theorem vw {R:a6} (hR:cJ R) (pb b c:Nat) (marks:Bool):Meets PG (PI pb) (aa jn #[.pointer (some (aR b)),.pointer (some (aR c))]) tP (qc R marks) NodeF [Fact.at b (ap aD [.pointer (some (aR pb))]),Fact.at c (ap bE [.bool marks])]:=by
 refine tq (aR b) (aR c) ?_
 unfold jq qc
 refine aS (b1:=.ptr) _ (by repeat (first | exact mz | apply ms)) (by kernel_rfl) rfl rfl ?_
 (with_reducible repeat (first | refine sA ?_ | refine sB ?_ | refine sC ?_ | refine sD ?_ | refine sE ?_ | refine sF ?_))
 first | refine ag (bk _) (fun _ h=>nomatch h) fun r2 b=>Sim.prop fun h=>?_ | refine af (bk _) (fun _ h=>nomatch h) fun r2 b=>Sim.prop fun h=>?_
 subst h
 refine dg ?_ fun x6=>?_
 ·skip
  refine aS (b1:=.bool) _ (by repeat (first | exact mz | apply ms)) (by kernel_rfl) rfl rfl ?_
  (with_reducible repeat (first | refine sA ?_ | refine sB ?_ | refine sC ?_ | refine sD ?_ | refine sE ?_ | refine sF ?_))
  (first | refine qA (fun h=>?_) fun h=>?_ | refine qB (fun h=>?_) fun h=>?_ | refine qC (fun h=>?_) fun h=>?_ | refine qD (fun h=>?_) fun h=>?_ | refine qE (fun h=>?_) fun h=>?_) -- r3
  ·skip
   refine aS (b1:=.ptr) _ (by repeat (first | exact mz | apply ms)) (by kernel_rfl) rfl rfl ?_
   (with_reducible repeat (first | refine sA ?_ | refine sB ?_ | refine sC ?_ | refine sD ?_ | refine sE ?_ | refine sF ?_))
   first | refine ag (az _ _) (fun _ h=>nomatch h) fun r5 b=>Sim.prop fun h=>?_ | refine af (az _ _) (fun _ h=>nomatch h) fun r5 b=>Sim.prop fun h=>?_
   subst h
   exact ba _ rfl rfl
  ·skip
   exact ba _ rfl rfl
 ·skip
  refine jh ?_ fun x8=>?_
  ·skip
   (with_reducible repeat (first | refine sA ?_ | refine sB ?_ | refine sC ?_ | refine sD ?_ | refine sE ?_ | refine sF ?_))
   (first | refine qA (fun h=>?_) fun h=>?_ | refine qB (fun h=>?_) fun h=>?_ | refine qC (fun h=>?_) fun h=>?_ | refine qD (fun h=>?_) fun h=>?_ | refine qE (fun h=>?_) fun h=>?_) -- x6.1
   ·skip
    refine xJ ?_
    exact d9 _ rfl rfl
   ·skip
    exact d9 _ rfl rfl
  ·skip
   refine dg ?_ fun x12=>?_
   ·skip
    refine aS (b1:=.bool) _ (by repeat (first | exact mz | apply ms)) (by kernel_rfl) rfl rfl ?_
    (with_reducible repeat (first | refine sA ?_ | refine sB ?_ | refine sC ?_ | refine sD ?_ | refine sE ?_ | refine sF ?_))
    (first | refine qA (fun h=>?_) fun h=>?_ | refine qB (fun h=>?_) fun h=>?_ | refine qC (fun h=>?_) fun h=>?_ | refine qD (fun h=>?_) fun h=>?_ | refine qE (fun h=>?_) fun h=>?_) -- r9
    ·skip
     refine aS (b1:=.ptr) _ (by repeat (first | exact mz | apply ms)) (by kernel_rfl) rfl rfl ?_
     (with_reducible repeat (first | refine sA ?_ | refine sB ?_ | refine sC ?_ | refine sD ?_ | refine sE ?_ | refine sF ?_))
     first | refine ag (az _ _) (fun _ h=>nomatch h) fun r11 b=>Sim.prop fun h=>?_ | refine af (az _ _) (fun _ h=>nomatch h) fun r11 b=>Sim.prop fun h=>?_
     subst h
     exact ba _ rfl rfl
    ·skip
     exact ba _ rfl rfl
   ·skip
    refine jh ?_ fun x14=>?_
    ·skip
     (with_reducible repeat (first | refine sA ?_ | refine sB ?_ | refine sC ?_ | refine sD ?_ | refine sE ?_ | refine sF ?_))
     (first | refine qA (fun h=>?_) fun h=>?_ | refine qB (fun h=>?_) fun h=>?_ | refine qC (fun h=>?_) fun h=>?_ | refine qD (fun h=>?_) fun h=>?_ | refine qE (fun h=>?_) fun h=>?_) -- x12.1
     ·skip
      refine xJ ?_
      exact d9 _ rfl rfl
     ·skip
      exact d9 _ rfl rfl
    ·skip
     refine aS (b1:=.ptr) _ (by repeat (first | exact mz | apply ms)) (by kernel_rfl) rfl rfl ?_
     (with_reducible repeat (first | refine sA ?_ | refine sB ?_ | refine sC ?_ | refine sD ?_ | refine sE ?_ | refine sF ?_))
     first | refine ag (ch _) (fun _ h=>nomatch h) fun r16 b=>Sim.prop fun h=>?_ | refine af (ch _) (fun _ h=>nomatch h) fun r16 b=>Sim.prop fun h=>?_
     subst h
     refine aS (b1:=.ptr) _ (by repeat (first | exact mz | apply ms)) (by kernel_rfl) rfl rfl ?_
     (with_reducible repeat (first | refine sA ?_ | refine sB ?_ | refine sC ?_ | refine sD ?_ | refine sE ?_ | refine sF ?_))
     first | refine ag (az _ _) (fun _ h=>nomatch h) fun r18 b=>Sim.prop fun h=>?_ | refine af (az _ _) (fun _ h=>nomatch h) fun r18 b=>Sim.prop fun h=>?_
     subst h
     refine jh ?_ fun x20=>?_
     ·skip
      (with_reducible repeat (first | refine sA ?_ | refine sB ?_ | refine sC ?_ | refine sD ?_ | refine sE ?_ | refine sF ?_))
      (first | refine qA (fun h=>?_) fun h=>?_ | refine qB (fun h=>?_) fun h=>?_ | refine qC (fun h=>?_) fun h=>?_ | refine qD (fun h=>?_) fun h=>?_ | refine qE (fun h=>?_) fun h=>?_) -- r18
      ·skip
       refine xJ ?_
       exact d9 _ rfl rfl
      ·skip
       exact d9 _ rfl rfl
     ·skip
      refine aS (b1:=.ptr) _ (by repeat (first | exact mz | apply ms)) (by kernel_rfl) rfl rfl ?_
      (with_reducible repeat (first | refine sA ?_ | refine sB ?_ | refine sC ?_ | refine sD ?_ | refine sE ?_ | refine sF ?_))
      first | refine ag (fH hR _) (fun _ h=>nomatch h) fun r22 nr22=>?_ | refine af (fH hR _) (fun _ h=>nomatch h) fun r22 nr22=>?_
      refine ca [r22] [nr22] rfl (by decide) (by decide) (by kernel_rfl) (fun F hF=>(.cons _ _ _ _ (hF (NodeF nr22 r22) (by repeat (first | exact mz | apply ms))) .nil)) fun r24=>?_
      (with_reducible repeat (first | refine sA ?_ | refine sB ?_ | refine sC ?_ | refine sD ?_ | refine sE ?_ | refine sF ?_))
      exact av (t:=tP) _ rfl (fun F hF=>hF _ (by repeat (first | exact mz | apply ms)))
theorem fS {R:a6} (hR:cJ R) (pb:Nat) (marks:Bool):Meets PG (PI pb) (aa d8 #[.pointer (some (aR pb)),.bool marks]) tP (gX R marks) NodeF []:=by
 refine wM (aR pb) marks ?_
 unfold kA gX
 refine jP fun br1=>?_
 refine jP fun br2=>?_
 refine aS (b1:=.ptr) _ (by repeat (first | exact mz | apply ms)) (by kernel_rfl) rfl rfl ?_
 (with_reducible repeat (first | refine sA ?_ | refine sB ?_ | refine sC ?_ | refine sD ?_ | refine sE ?_ | refine sF ?_))
 first | refine ag (cr _ _) (fun _ h=>nomatch h) fun r4 b=>Sim.prop fun h=>?_ | refine af (cr _ _) (fun _ h=>nomatch h) fun r4 b=>Sim.prop fun h=>?_
 subst h
 (with_reducible repeat (first | refine sA ?_ | refine sB ?_ | refine sC ?_ | refine sD ?_ | refine sE ?_ | refine sF ?_))
 (first | refine qA (fun h=>?_) fun h=>?_ | refine qB (fun h=>?_) fun h=>?_ | refine qC (fun h=>?_) fun h=>?_ | refine qD (fun h=>?_) fun h=>?_ | refine qE (fun h=>?_) fun h=>?_) -- r4
 ·skip
  refine aS (b1:=.ptr) _ (by repeat (first | exact mz | apply ms)) (by kernel_rfl) rfl rfl ?_
  (with_reducible repeat (first | refine sA ?_ | refine sB ?_ | refine sC ?_ | refine sD ?_ | refine sE ?_ | refine sF ?_))
  first | refine ag (fe _) (fun _ h=>nomatch h) fun r6 nr6=>?_ | refine af (fe _) (fun _ h=>nomatch h) fun r6 nr6=>?_
  (with_reducible repeat (first | refine sA ?_ | refine sB ?_ | refine sC ?_ | refine sD ?_ | refine sE ?_ | refine sF ?_))
  exact av (t:=tP) _ rfl (fun F hF=>hF _ (by repeat (first | exact mz | apply ms)))
 ·skip
  refine aS (b1:=.ptr) _ (by repeat (first | exact mz | apply ms)) (by kernel_rfl) rfl rfl ?_
  (with_reducible repeat (first | refine sA ?_ | refine sB ?_ | refine sC ?_ | refine sD ?_ | refine sE ?_ | refine sF ?_))
  first | refine iZ (gO pb _ _ R.fuel (Nat.le_trans hR.fuel (by decide)) (MeetsO.congr (wu _ _ _) (vw hR _ _ _ marks))) (fun A hA=>by simp only [List.mem_cons,List.not_mem_nil,or_false] at hA; rcases hA with rfl | rfl<;>exact (by repeat (first | exact mz | apply ms))) fun r8 nr8 Kr8=>?_ | refine lf (gO pb _ _ R.fuel (Nat.le_trans hR.fuel (by decide)) (MeetsO.congr (wu _ _ _) (vw hR _ _ _ marks))) (fun A hA=>by simp only [List.mem_cons,List.not_mem_nil,or_false] at hA; rcases hA with rfl | rfl<;>exact (by repeat (first | exact mz | apply ms))) fun r8 nr8 Kr8=>?_
  refine dC (by repeat (first | exact mz | apply ms)) ?_
  (with_reducible repeat (first | refine sA ?_ | refine sB ?_ | refine sC ?_ | refine sD ?_ | refine sE ?_ | refine sF ?_))
  exact av (t:=tP) _ rfl (fun F hF=>hF _ (by repeat (first | exact mz | apply ms)))
theorem Jc {R:a6} (hR:cJ R) (pb:Nat):Meets PG (PI pb) (aa lM #[.pointer (some (aR pb))]) tP (qz R) NodeF []:=by
 refine yY (aR pb) ?_
 unfold lH qz
 (with_reducible repeat (first | refine sA ?_ | refine sB ?_ | refine sC ?_ | refine sD ?_ | refine sE ?_ | refine sF ?_))
 first | refine ag (bk _) (fun _ h=>nomatch h) fun r1 b=>Sim.prop fun h=>?_ | refine af (bk _) (fun _ h=>nomatch h) fun r1 b=>Sim.prop fun h=>?_
 subst h
 (with_reducible repeat (first | refine sA ?_ | refine sB ?_ | refine sC ?_ | refine sD ?_ | refine sE ?_ | refine sF ?_))
 first | refine ag (ch _) (fun _ h=>nomatch h) fun r2 b=>Sim.prop fun h=>?_ | refine af (ch _) (fun _ h=>nomatch h) fun r2 b=>Sim.prop fun h=>?_
 subst h
 (with_reducible repeat (first | refine sA ?_ | refine sB ?_ | refine sC ?_ | refine sD ?_ | refine sE ?_ | refine sF ?_))
 first | refine ag (cr _ _) (fun _ h=>nomatch h) fun r3 b=>Sim.prop fun h=>?_ | refine af (cr _ _) (fun _ h=>nomatch h) fun r3 b=>Sim.prop fun h=>?_
 subst h
 (with_reducible repeat (first | refine sA ?_ | refine sB ?_ | refine sC ?_ | refine sD ?_ | refine sE ?_ | refine sF ?_))
 (first | refine qA (fun h=>?_) fun h=>?_ | refine qB (fun h=>?_) fun h=>?_ | refine qC (fun h=>?_) fun h=>?_ | refine qD (fun h=>?_) fun h=>?_ | refine qE (fun h=>?_) fun h=>?_) -- r3
 ·skip
  (with_reducible repeat (first | refine sA ?_ | refine sB ?_ | refine sC ?_ | refine sD ?_ | refine sE ?_ | refine sF ?_))
  first | refine ag (bk _) (fun _ h=>nomatch h) fun r4 b=>Sim.prop fun h=>?_ | refine af (bk _) (fun _ h=>nomatch h) fun r4 b=>Sim.prop fun h=>?_
  subst h
  (with_reducible repeat (first | refine sA ?_ | refine sB ?_ | refine sC ?_ | refine sD ?_ | refine sE ?_ | refine sF ?_))
  first | refine ag (aJ _ _) (fun _ h=>nomatch h) fun x b=>?_ | refine af (aJ _ _) (fun _ h=>nomatch h) fun x b=>?_
  (with_reducible repeat (first | refine sA ?_ | refine sB ?_ | refine sC ?_ | refine sD ?_ | refine sE ?_ | refine sF ?_))
  first | refine ag (fS hR _ _) (fun _ h=>nomatch h) fun r6 nr6=>?_ | refine af (fS hR _ _) (fun _ h=>nomatch h) fun r6 nr6=>?_
  (with_reducible repeat (first | refine sA ?_ | refine sB ?_ | refine sC ?_ | refine sD ?_ | refine sE ?_ | refine sF ?_))
  first | refine ag (aJ _ _) (fun _ h=>nomatch h) fun x b=>?_ | refine af (aJ _ _) (fun _ h=>nomatch h) fun x b=>?_
  (with_reducible repeat (first | refine sA ?_ | refine sB ?_ | refine sC ?_ | refine sD ?_ | refine sE ?_ | refine sF ?_))
  first | refine ag (aJ _ _) (fun _ h=>nomatch h) fun x b=>?_ | refine af (aJ _ _) (fun _ h=>nomatch h) fun x b=>?_
  (with_reducible repeat (first | refine sA ?_ | refine sB ?_ | refine sC ?_ | refine sD ?_ | refine sE ?_ | refine sF ?_))
  first | refine ag (hR.typed _) (fun _ h=>nomatch h) fun r9 nr9=>?_ | refine af (hR.typed _) (fun _ h=>nomatch h) fun r9 nr9=>?_
  refine ca [r6,r9] [nr6,nr9] rfl (by decide) (by decide) (by kernel_rfl) (fun F hF=>(.cons _ _ _ _ (hF (NodeF nr6 r6) (by repeat (first | exact mz | apply ms))) (.cons _ _ _ _ (hF (NodeF nr9 r9) (by repeat (first | exact mz | apply ms))) .nil))) fun r11=>?_
  refine ca [r11] [(aE _ _ _ _ _)] rfl (by decide) (by decide) (by kernel_rfl) (fun F hF=>(.cons _ _ _ _ (hF (NodeF (aE _ _ _ _ _) r11) (by repeat (first | exact mz | apply ms))) .nil)) fun r13=>?_
  (with_reducible repeat (first | refine sA ?_ | refine sB ?_ | refine sC ?_ | refine sD ?_ | refine sE ?_ | refine sF ?_))
  exact av (t:=tP) _ rfl (fun F hF=>hF _ (by repeat (first | exact mz | apply ms)))
 ·skip
  (with_reducible repeat (first | refine sA ?_ | refine sB ?_ | refine sC ?_ | refine sD ?_ | refine sE ?_ | refine sF ?_))
  first | refine ag (az _ _) (fun _ h=>nomatch h) fun r14 b=>Sim.prop fun h=>?_ | refine af (az _ _) (fun _ h=>nomatch h) fun r14 b=>Sim.prop fun h=>?_
  subst h
  refine jh ?_ fun x15=>?_
  ·skip
   (with_reducible repeat (first | refine sA ?_ | refine sB ?_ | refine sC ?_ | refine sD ?_ | refine sE ?_ | refine sF ?_))
   (first | refine qA (fun h=>?_) fun h=>?_ | refine qB (fun h=>?_) fun h=>?_ | refine qC (fun h=>?_) fun h=>?_ | refine qD (fun h=>?_) fun h=>?_ | refine qE (fun h=>?_) fun h=>?_) -- r14
   ·skip
    exact d9 _ rfl rfl
   ·skip
    exact d9 _ rfl rfl
  ·skip
   (with_reducible repeat (first | refine sA ?_ | refine sB ?_ | refine sC ?_ | refine sD ?_ | refine sE ?_ | refine sF ?_))
   first | refine ag (aJ _ _) (fun _ h=>nomatch h) fun x b=>?_ | refine af (aJ _ _) (fun _ h=>nomatch h) fun x b=>?_
   (with_reducible repeat (first | refine sA ?_ | refine sB ?_ | refine sC ?_ | refine sD ?_ | refine sE ?_ | refine sF ?_))
   first | refine ag (hR.typed _) (fun _ h=>nomatch h) fun r17 nr17=>?_ | refine af (hR.typed _) (fun _ h=>nomatch h) fun r17 nr17=>?_
   refine ca [r17] [nr17] rfl (by decide) (by decide) (by kernel_rfl) (fun F hF=>(.cons _ _ _ _ (hF (NodeF nr17 r17) (by repeat (first | exact mz | apply ms))) .nil)) fun r19=>?_
   (with_reducible repeat (first | refine sA ?_ | refine sB ?_ | refine sC ?_ | refine sD ?_ | refine sE ?_ | refine sF ?_))
   exact av (t:=tP) _ rfl (fun F hF=>hF _ (by repeat (first | exact mz | apply ms)))
theorem kP {R:a6} (hR:cJ R) (pb:Nat):Meets PG (PI pb) (aa fw #[.pointer (some (aR pb))]) tP (ew R) NodeF []:=by
 refine rn (aR pb) ?_
 unfold hU ew
 (with_reducible repeat (first | refine sA ?_ | refine sB ?_ | refine sC ?_ | refine sD ?_ | refine sE ?_ | refine sF ?_))
 first | refine ag (bk _) (fun _ h=>nomatch h) fun r1 b=>Sim.prop fun h=>?_ | refine af (bk _) (fun _ h=>nomatch h) fun r1 b=>Sim.prop fun h=>?_
 subst h
 refine gA fun r2 Kr2=>?_
 (with_reducible repeat (first | refine sA ?_ | refine sB ?_ | refine sC ?_ | refine sD ?_ | refine sE ?_ | refine sF ?_))
 first | refine ag (aJ _ _) (fun _ h=>nomatch h) fun x b=>?_ | refine af (aJ _ _) (fun _ h=>nomatch h) fun x b=>?_
 refine mr (fun n=>do a8 k_rc; pure n) r2 [] ?_ fun n K=>?_
 ·skip
  refine im (lV R) R.fuel _ (fun _=>rfl) rfl (by have:=hR.fuel; simp [aE,N.kids]; omega) (by repeat (first | exact mz | apply ms)) fun k n K hn=>?_
  (with_reducible repeat (first | refine sA ?_ | refine sB ?_ | refine sC ?_ | refine sD ?_ | refine sE ?_ | refine sF ?_))
  first | refine ag (cr _ _) (fun _ h=>nomatch h) fun r5 b=>Sim.prop fun h=>?_ | refine af (cr _ _) (fun _ h=>nomatch h) fun r5 b=>Sim.prop fun h=>?_
  subst h
  (with_reducible repeat (first | refine sA ?_ | refine sB ?_ | refine sC ?_ | refine sD ?_ | refine sE ?_ | refine sF ?_))
  (first | refine qA (fun h=>?_) fun h=>?_ | refine qB (fun h=>?_) fun h=>?_ | refine qC (fun h=>?_) fun h=>?_ | refine qD (fun h=>?_) fun h=>?_ | refine qE (fun h=>?_) fun h=>?_) -- (!r5)
  ·skip
   refine gr (by repeat (first | exact mz | apply ms)) fun b sl ps K2 hx hb=>?_
   (with_reducible repeat (first | refine sA ?_ | refine sB ?_ | refine sC ?_ | refine sD ?_ | refine sE ?_ | refine sF ?_))
   refine ef (Jc hR _) (fun _ h=>nomatch h) fun r8 nr8=>?_
   subst hx
   refine gD hb (by repeat (first | exact mz | apply ms)) (by repeat (first | exact mz | apply ms)) (by omega) fun K=>?_
   (with_reducible repeat (first | refine sA ?_ | refine sB ?_ | refine sC ?_ | refine sD ?_ | refine sE ?_ | refine sF ?_))
   first | refine ag (az _ _) (fun _ h=>nomatch h) fun r13 b=>Sim.prop fun h=>?_ | refine af (az _ _) (fun _ h=>nomatch h) fun r13 b=>Sim.prop fun h=>?_
   subst h
   (with_reducible repeat (first | refine sA ?_ | refine sB ?_ | refine sC ?_ | refine sD ?_ | refine sE ?_ | refine sF ?_))
   (first | refine qA (fun h=>?_) fun h=>?_ | refine qB (fun h=>?_) fun h=>?_ | refine qC (fun h=>?_) fun h=>?_ | refine qD (fun h=>?_) fun h=>?_ | refine qE (fun h=>?_) fun h=>?_) -- (!r13)
   ·skip
    (with_reducible repeat (first | refine sA ?_ | refine sB ?_ | refine sC ?_ | refine sD ?_ | refine sE ?_ | refine sF ?_))
    first | refine ag (az _ _) (fun _ h=>nomatch h) fun r14 b=>Sim.prop fun h=>?_ | refine af (az _ _) (fun _ h=>nomatch h) fun r14 b=>Sim.prop fun h=>?_
    subst h
    (with_reducible repeat (first | refine sA ?_ | refine sB ?_ | refine sC ?_ | refine sD ?_ | refine sE ?_ | refine sF ?_))
    (first | refine qA (fun h=>?_) fun h=>?_ | refine qB (fun h=>?_) fun h=>?_ | refine qC (fun h=>?_) fun h=>?_ | refine qD (fun h=>?_) fun h=>?_ | refine qE (fun h=>?_) fun h=>?_) -- (!r14)
    ·skip
     exact gu _ rfl rfl (by repeat (first | exact mz | apply ms))
    ·skip
     refine oA _ rfl rfl (by simp [N.push_len] at hn ⊢; omega) (by repeat (first | exact mz | apply ms))
   ·skip
    refine oA _ rfl rfl (by simp [N.push_len] at hn ⊢; omega) (by repeat (first | exact mz | apply ms))
  ·skip
   exact gu _ rfl rfl (by repeat (first | exact mz | apply ms))
 ·skip
  (with_reducible repeat (first | refine sA ?_ | refine sB ?_ | refine sC ?_ | refine sD ?_ | refine sE ?_ | refine sF ?_))
  first | refine ag (aJ _ _) (fun _ h=>nomatch h) fun x b=>?_ | refine af (aJ _ _) (fun _ h=>nomatch h) fun x b=>?_
  refine dC (n:=_) (x:=r2) (by repeat (first | exact mz | apply ms)) ?_
  (with_reducible repeat (first | refine sA ?_ | refine sB ?_ | refine sC ?_ | refine sD ?_ | refine sE ?_ | refine sF ?_))
  exact av (t:=tP) _ rfl (fun F hF=>hF _ (by repeat (first | exact mz | apply ms)))
theorem t7 {R:a6} (hR:cJ R) (pb:Nat):Meets PG (PI pb) (aa iO #[.pointer (some (aR pb))]) tP (iV R) NodeF []:=by
 refine rJ (aR pb) ?_
 unfold iJ iV
 (with_reducible repeat (first | refine sA ?_ | refine sB ?_ | refine sC ?_ | refine sD ?_ | refine sE ?_ | refine sF ?_))
 first | refine ag (bk _) (fun _ h=>nomatch h) fun r1 b=>Sim.prop fun h=>?_ | refine af (bk _) (fun _ h=>nomatch h) fun r1 b=>Sim.prop fun h=>?_
 subst h
 (with_reducible repeat (first | refine sA ?_ | refine sB ?_ | refine sC ?_ | refine sD ?_ | refine sE ?_ | refine sF ?_))
 first | refine ag (aJ _ _) (fun _ h=>nomatch h) fun x b=>?_ | refine af (aJ _ _) (fun _ h=>nomatch h) fun x b=>?_
 (with_reducible repeat (first | refine sA ?_ | refine sB ?_ | refine sC ?_ | refine sD ?_ | refine sE ?_ | refine sF ?_))
 first | refine ag (fS hR _ _) (fun _ h=>nomatch h) fun r3 nr3=>?_ | refine af (fS hR _ _) (fun _ h=>nomatch h) fun r3 nr3=>?_
 (with_reducible repeat (first | refine sA ?_ | refine sB ?_ | refine sC ?_ | refine sD ?_ | refine sE ?_ | refine sF ?_))
 first | refine ag (aJ _ _) (fun _ h=>nomatch h) fun x b=>?_ | refine af (aJ _ _) (fun _ h=>nomatch h) fun x b=>?_
 (with_reducible repeat (first | refine sA ?_ | refine sB ?_ | refine sC ?_ | refine sD ?_ | refine sE ?_ | refine sF ?_))
 first | refine ag (aJ _ _) (fun _ h=>nomatch h) fun x b=>?_ | refine af (aJ _ _) (fun _ h=>nomatch h) fun x b=>?_
 (with_reducible repeat (first | refine sA ?_ | refine sB ?_ | refine sC ?_ | refine sD ?_ | refine sE ?_ | refine sF ?_))
 first | refine ag (hR.typed _) (fun _ h=>nomatch h) fun r6 nr6=>?_ | refine af (hR.typed _) (fun _ h=>nomatch h) fun r6 nr6=>?_
 refine ca [r3,r6] [nr3,nr6] rfl (by decide) (by decide) (by kernel_rfl) (fun F hF=>(.cons _ _ _ _ (hF (NodeF nr3 r3) (by repeat (first | exact mz | apply ms))) (.cons _ _ _ _ (hF (NodeF nr6 r6) (by repeat (first | exact mz | apply ms))) .nil))) fun r8=>?_
 (with_reducible repeat (first | refine sA ?_ | refine sB ?_ | refine sC ?_ | refine sD ?_ | refine sE ?_ | refine sF ?_))
 exact av (t:=tP) _ rfl (fun F hF=>hF _ (by repeat (first | exact mz | apply ms)))
theorem Dz {R:a6} (hR:cJ R) (pb:Nat):Meets PG (PI pb) (aa lB #[.pointer (some (aR pb))]) tP (qs R) NodeF []:=by
 refine yQ (aR pb) ?_
 unfold lX qs
 (with_reducible repeat (first | refine sA ?_ | refine sB ?_ | refine sC ?_ | refine sD ?_ | refine sE ?_ | refine sF ?_))
 refine ag (xg _) (fun _ h=>nomatch h) fun r1 b=>Sim.both (Sim.prop fun hnum=>Sim.prop fun h=>?_)
 subst h
 refine gB (c:=true) (z:=[.int .i64 0,.string kE,.int .i64 0,.int .i64 0]) (by kernel_rfl) (by kernel_rfl) rfl (by simp [Value.cells,Value.oneCell']) fun br2=>?_
 refine dg ?_ fun x7=>?_
 ·skip
  (with_reducible repeat (first | refine sA ?_ | refine sB ?_ | refine sC ?_ | refine sD ?_ | refine sE ?_ | refine sF ?_))
  first | refine ag (cr _ _) (fun _ h=>nomatch h) fun r4 b=>Sim.prop fun h=>?_ | refine af (cr _ _) (fun _ h=>nomatch h) fun r4 b=>Sim.prop fun h=>?_
  subst h
  (with_reducible repeat (first | refine sA ?_ | refine sB ?_ | refine sC ?_ | refine sD ?_ | refine sE ?_ | refine sF ?_))
  (first | refine qA (fun h=>?_) fun h=>?_ | refine qB (fun h=>?_) fun h=>?_ | refine qC (fun h=>?_) fun h=>?_ | refine qD (fun h=>?_) fun h=>?_ | refine qE (fun h=>?_) fun h=>?_) -- r4
  ·skip
   (with_reducible repeat (first | refine sA ?_ | refine sB ?_ | refine sC ?_ | refine sD ?_ | refine sE ?_ | refine sF ?_))
   first | refine ag (qK _) (fun _ h=>nomatch h) fun r5 b=>Sim.prop fun h=>?_ | refine af (qK _) (fun _ h=>nomatch h) fun r5 b=>Sim.prop fun h=>?_
   subst h
   refine fA (jD _ _ _) (fun _ h=>nomatch h) ?_
   exact ba _ rfl rfl
  ·skip
   exact ba _ rfl rfl
 ·skip
  (with_reducible repeat (first | refine sA ?_ | refine sB ?_ | refine sC ?_ | refine sD ?_ | refine sE ?_ | refine sF ?_))
  (first | refine qA (fun h=>?_) fun h=>?_ | refine qB (fun h=>?_) fun h=>?_ | refine qC (fun h=>?_) fun h=>?_ | refine qD (fun h=>?_) fun h=>?_ | refine qE (fun h=>?_) fun h=>?_) -- x7.1
  ·skip
   (with_reducible repeat (first | refine sA ?_ | refine sB ?_ | refine sC ?_ | refine sD ?_ | refine sE ?_ | refine sF ?_))
   first | refine ag (t7 hR _) (fun _ h=>nomatch h) fun r8 nr8=>?_ | refine af (t7 hR _) (fun _ h=>nomatch h) fun r8 nr8=>?_
   (with_reducible repeat (first | refine sA ?_ | refine sB ?_ | refine sC ?_ | refine sD ?_ | refine sE ?_ | refine sF ?_))
   exact av (t:=tP) _ rfl (fun F hF=>hF _ (by repeat (first | exact mz | apply ms)))
  ·skip
   (with_reducible repeat (first | refine sA ?_ | refine sB ?_ | refine sC ?_ | refine sD ?_ | refine sE ?_ | refine sF ?_))
   first | refine ag (az _ _) (fun _ h=>nomatch h) fun r9 b=>Sim.prop fun h=>?_ | refine af (az _ _) (fun _ h=>nomatch h) fun r9 b=>Sim.prop fun h=>?_
   subst h
   (with_reducible repeat (first | refine sA ?_ | refine sB ?_ | refine sC ?_ | refine sD ?_ | refine sE ?_ | refine sF ?_))
   (first | refine qA (fun h=>?_) fun h=>?_ | refine qB (fun h=>?_) fun h=>?_ | refine qC (fun h=>?_) fun h=>?_ | refine qD (fun h=>?_) fun h=>?_ | refine qE (fun h=>?_) fun h=>?_) -- r9
   ·skip
    (with_reducible repeat (first | refine sA ?_ | refine sB ?_ | refine sC ?_ | refine sD ?_ | refine sE ?_ | refine sF ?_))
    first | refine ag (hR.typed _) (fun _ h=>nomatch h) fun r10 nr10=>?_ | refine af (hR.typed _) (fun _ h=>nomatch h) fun r10 nr10=>?_
    (with_reducible repeat (first | refine sA ?_ | refine sB ?_ | refine sC ?_ | refine sD ?_ | refine sE ?_ | refine sF ?_))
    first | refine ag (aJ _ _) (fun _ h=>nomatch h) fun x b=>?_ | refine af (aJ _ _) (fun _ h=>nomatch h) fun x b=>?_
    (with_reducible repeat (first | refine sA ?_ | refine sB ?_ | refine sC ?_ | refine sD ?_ | refine sE ?_ | refine sF ?_))
    exact av (t:=tP) _ rfl (fun F hF=>hF _ (by repeat (first | exact mz | apply ms)))
   ·skip
    refine aS (b1:=.int .i64) _ (by repeat (first | exact mz | apply ms)) (by kernel_rfl) rfl rfl ?_
    (with_reducible repeat (first | refine sA ?_ | refine sB ?_ | refine sC ?_ | refine sD ?_ | refine sE ?_ | refine sF ?_))
    (first | refine qA (fun h=>?_) fun h=>?_ | refine qB (fun h=>?_) fun h=>?_ | refine qC (fun h=>?_) fun h=>?_ | refine qD (fun h=>?_) fun h=>?_ | refine qE (fun h=>?_) fun h=>?_) -- ((r12:Int)==3)
    ·have hk:Tok.kind r1=3:=by simpa [Tok.kind] using h
     (with_reducible repeat (first | refine sA ?_ | refine sB ?_ | refine sC ?_ | refine sD ?_ | refine sE ?_ | refine sF ?_))
     first | refine ag (dx _) (fun _ h=>nomatch h) fun r13 b=>Sim.prop fun h=>?_ | refine af (dx _) (fun _ h=>nomatch h) fun r13 b=>Sim.prop fun h=>?_
     subst h
     refine dD [] (fun _ h=>nomatch h) ?_
     refine df (b1:=.str) _ (by repeat (first | exact mz | apply ms)) (by kernel_rfl) rfl rfl ?_
     refine df (b1:=.int .i64) _ (by repeat (first | exact mz | apply ms)) (by kernel_rfl) rfl rfl ?_
     refine qM (hR.num _ _ (hnum.1 hk).1 (hnum.1 hk).2) (fun _ h=>nomatch h) ?_
     refine gJ fun r17=>?_
     (with_reducible repeat (first | refine sA ?_ | refine sB ?_ | refine sC ?_ | refine sD ?_ | refine sE ?_ | refine sF ?_))
     exact av (t:=tP) _ rfl (fun F hF=>hF _ (by repeat (first | exact mz | apply ms)))
    ·skip
     (with_reducible repeat (first | refine sA ?_ | refine sB ?_ | refine sC ?_ | refine sD ?_ | refine sE ?_ | refine sF ?_))
     first | refine ag (az _ _) (fun _ h=>nomatch h) fun r18 b=>Sim.prop fun h=>?_ | refine af (az _ _) (fun _ h=>nomatch h) fun r18 b=>Sim.prop fun h=>?_
     subst h
     (with_reducible repeat (first | refine sA ?_ | refine sB ?_ | refine sC ?_ | refine sD ?_ | refine sE ?_ | refine sF ?_))
     (first | refine qA (fun h=>?_) fun h=>?_ | refine qB (fun h=>?_) fun h=>?_ | refine qC (fun h=>?_) fun h=>?_ | refine qD (fun h=>?_) fun h=>?_ | refine qE (fun h=>?_) fun h=>?_) -- r18
     ·skip
      (with_reducible repeat (first | refine sA ?_ | refine sB ?_ | refine sC ?_ | refine sD ?_ | refine sE ?_ | refine sF ?_))
      refine Jh (fun u st=>st.now=u) (xg _) (fun _ h=>nomatch h) (fun st b st' h=>by obtain ⟨h1,h2⟩:=Ed h; rw [h1,h2]) fun r19 b=>Sim.both (Sim.prop fun hnum2=>Sim.prop fun h=>?_)
      subst h
      refine fI (kJ (fun st=>st.now=r19∧Tok.kind r19=3) (do let v ← dm; pure (aE 81 kE (IntKind.i64.wrap (0 - lp v.text)) (Tok.pos r1) []))) ?_ ?_
      ·refine qE (fun h=>?_) (fun h=>?_)
       ·refine Sim.unguard ?_
        rw [show (Tok.kind r19 != 3)=true from h]
        exact ej (β1:=Unit) (Rel1:=fun _ _ _=>Fact.prop True) (gl _) (fun _ h=>nomatch h) (by first | exact eh | exact ez _)
       ·refine gI rfl ?_
        rw [show (Tok.kind r19 != 3)=false from h]
        have h3:Tok.kind r19=3:=by simpa [Tok.kind] using h
        funext st
        unfold kJ
        by_cases hn:st.now=r19
        ·rw [if_pos hn,if_pos ⟨hn,h3⟩]; rfl
        ·rw [if_neg hn,if_neg (fun h=>hn h.1)]
      ·skip
       refine dD [] (fun _ h=>nomatch h) ?_
       refine df (b1:=.int .i64) _ (by repeat (first | exact mz | apply ms)) (by kernel_rfl) rfl rfl ?_
       refine Hy (fun v=>v=r19∧Tok.kind r19=3) (dx _) (fun _ h=>nomatch h) (fun st b st' h1 h2=>⟨by rw [HE h2,h1.1],h1.2⟩) fun r23 b hb=>Sim.prop fun h=>?_
       subst h
       obtain ⟨rfl,hk⟩:=hb
       refine qM (hR.num _ _ (hnum2.1 hk).1 (hnum2.1 hk).2) (fun _ h=>nomatch h) ?_
       refine gJ fun r25=>?_
       (with_reducible repeat (first | refine sA ?_ | refine sB ?_ | refine sC ?_ | refine sD ?_ | refine sE ?_ | refine sF ?_))
       exact av (t:=tP) _ rfl (fun F hF=>hF _ (by repeat (first | exact mz | apply ms)))
     ·skip
      refine aS (b1:=.int .i64) _ (by repeat (first | exact mz | apply ms)) (by kernel_rfl) rfl rfl ?_
      (with_reducible repeat (first | refine sA ?_ | refine sB ?_ | refine sC ?_ | refine sD ?_ | refine sE ?_ | refine sF ?_))
      (first | refine qA (fun h=>?_) fun h=>?_ | refine qB (fun h=>?_) fun h=>?_ | refine qC (fun h=>?_) fun h=>?_ | refine qD (fun h=>?_) fun h=>?_ | refine qE (fun h=>?_) fun h=>?_) -- ((r26:Int)==4)
      ·skip
       (with_reducible repeat (first | refine sA ?_ | refine sB ?_ | refine sC ?_ | refine sD ?_ | refine sE ?_ | refine sF ?_))
       first | refine ag (dx _) (fun _ h=>nomatch h) fun r27 b=>Sim.prop fun h=>?_ | refine af (dx _) (fun _ h=>nomatch h) fun r27 b=>Sim.prop fun h=>?_
       subst h
       refine aS (b1:=.str) _ (by repeat (first | exact mz | apply ms)) (by kernel_rfl) rfl rfl ?_
       refine aS (b1:=.int .i64) _ (by repeat (first | exact mz | apply ms)) (by kernel_rfl) rfl rfl ?_
       refine fO fun r30=>?_
       (with_reducible repeat (first | refine sA ?_ | refine sB ?_ | refine sC ?_ | refine sD ?_ | refine sE ?_ | refine sF ?_))
       exact av (t:=tP) _ rfl (fun F hF=>hF _ (by repeat (first | exact mz | apply ms)))
      ·skip
       (with_reducible repeat (first | refine sA ?_ | refine sB ?_ | refine sC ?_ | refine sD ?_ | refine sE ?_ | refine sF ?_))
       first | refine ag (cr _ _) (fun _ h=>nomatch h) fun r31 b=>Sim.prop fun h=>?_ | refine af (cr _ _) (fun _ h=>nomatch h) fun r31 b=>Sim.prop fun h=>?_
       subst h
       (with_reducible repeat (first | refine sA ?_ | refine sB ?_ | refine sC ?_ | refine sD ?_ | refine sE ?_ | refine sF ?_))
       (first | refine qA (fun h=>?_) fun h=>?_ | refine qB (fun h=>?_) fun h=>?_ | refine qC (fun h=>?_) fun h=>?_ | refine qD (fun h=>?_) fun h=>?_ | refine qE (fun h=>?_) fun h=>?_) -- r31
       ·skip
        (with_reducible repeat (first | refine sA ?_ | refine sB ?_ | refine sC ?_ | refine sD ?_ | refine sE ?_ | refine sF ?_))
        first | refine ag (kP hR _) (fun _ h=>nomatch h) fun r32 nr32=>?_ | refine af (kP hR _) (fun _ h=>nomatch h) fun r32 nr32=>?_
        (with_reducible repeat (first | refine sA ?_ | refine sB ?_ | refine sC ?_ | refine sD ?_ | refine sE ?_ | refine sF ?_))
        exact av (t:=tP) _ rfl (fun F hF=>hF _ (by repeat (first | exact mz | apply ms)))
       ·skip
        (with_reducible repeat (first | refine sA ?_ | refine sB ?_ | refine sC ?_ | refine sD ?_ | refine sE ?_ | refine sF ?_))
        first | refine ag (Bg hR _) (fun _ h=>nomatch h) fun r33 nr33=>?_ | refine af (Bg hR _) (fun _ h=>nomatch h) fun r33 nr33=>?_
        (with_reducible repeat (first | refine sA ?_ | refine sB ?_ | refine sC ?_ | refine sD ?_ | refine sE ?_ | refine sF ?_))
        exact av (t:=tP) _ rfl (fun F hF=>hF _ (by repeat (first | exact mz | apply ms)))
theorem Bx {R:a6} (hR:cJ R) (pb:Nat):Meets PG (PI pb) (aa jI #[.pointer (some (aR pb))]) tP (l9 R) NodeF []:=by
 refine AV (aR pb) ?_
 unfold mL l9
 (with_reducible repeat (first | refine sA ?_ | refine sB ?_ | refine sC ?_ | refine sD ?_ | refine sE ?_ | refine sF ?_))
 first | refine ag (bk _) (fun _ h=>nomatch h) fun r1 b=>Sim.prop fun h=>?_ | refine af (bk _) (fun _ h=>nomatch h) fun r1 b=>Sim.prop fun h=>?_
 subst h
 (with_reducible repeat (first | refine sA ?_ | refine sB ?_ | refine sC ?_ | refine sD ?_ | refine sE ?_ | refine sF ?_))
 first | refine ag (Dz hR _) (fun _ h=>nomatch h) fun r2 nr2=>?_ | refine af (Dz hR _) (fun _ h=>nomatch h) fun r2 nr2=>?_
 refine sg (lK (Tok.pos r1)) R.fuel _ (fun _=>rfl) rfl (by repeat (first | exact mz | apply ms)) fun k n x3=>?_
 refine dg ?_ fun x7=>?_
 ·skip
  (with_reducible repeat (first | refine sA ?_ | refine sB ?_ | refine sC ?_ | refine sD ?_ | refine sE ?_ | refine sF ?_))
  first | refine ag (cr _ _) (fun _ h=>nomatch h) fun r4 b=>Sim.prop fun h=>?_ | refine af (cr _ _) (fun _ h=>nomatch h) fun r4 b=>Sim.prop fun h=>?_
  subst h
  (with_reducible repeat (first | refine sA ?_ | refine sB ?_ | refine sC ?_ | refine sD ?_ | refine sE ?_ | refine sF ?_))
  (first | refine qA (fun h=>?_) fun h=>?_ | refine qB (fun h=>?_) fun h=>?_ | refine qC (fun h=>?_) fun h=>?_ | refine qD (fun h=>?_) fun h=>?_ | refine qE (fun h=>?_) fun h=>?_) -- r4
  ·skip
   (with_reducible repeat (first | refine sA ?_ | refine sB ?_ | refine sC ?_ | refine sD ?_ | refine sE ?_ | refine sF ?_))
   first | refine ag (eM _ _ (by decide) (by decide)) (fun _ h=>nomatch h) fun r5 b=>Sim.prop fun h=>?_ | refine af (eM _ _ (by decide) (by decide)) (fun _ h=>nomatch h) fun r5 b=>Sim.prop fun h=>?_
   subst h
   refine fA (jD _ _ _) (fun _ h=>nomatch h) ?_
   exact ba _ rfl rfl
  ·skip
   exact ba _ rfl rfl
 ·skip
  (with_reducible repeat (first | refine sA ?_ | refine sB ?_ | refine sC ?_ | refine sD ?_ | refine sE ?_ | refine sF ?_))
  (first | refine qA (fun h=>?_) fun h=>?_ | refine qB (fun h=>?_) fun h=>?_ | refine qC (fun h=>?_) fun h=>?_ | refine qD (fun h=>?_) fun h=>?_ | refine qE (fun h=>?_) fun h=>?_) -- x7.1
  ·skip
   (with_reducible repeat (first | refine sA ?_ | refine sB ?_ | refine sC ?_ | refine sD ?_ | refine sE ?_ | refine sF ?_))
   first | refine ag (dx _) (fun _ h=>nomatch h) fun r8 b=>Sim.prop fun h=>?_ | refine af (dx _) (fun _ h=>nomatch h) fun r8 b=>Sim.prop fun h=>?_
   subst h
   (with_reducible repeat (first | refine sA ?_ | refine sB ?_ | refine sC ?_ | refine sD ?_ | refine sE ?_ | refine sF ?_))
   first | refine ag (dx _) (fun _ h=>nomatch h) fun r9 b=>Sim.prop fun h=>?_ | refine af (dx _) (fun _ h=>nomatch h) fun r9 b=>Sim.prop fun h=>?_
   subst h
   refine ca [_] [_] rfl (by decide) (by decide) (by kernel_rfl) (fun F hF=>(.cons _ _ _ _ (hF (NodeF _ _) (by repeat (first | exact mz | apply ms))) .nil)) fun r11=>?_
   refine uO _ rfl rfl (by repeat (first | exact mz | apply ms))
  ·skip
   (with_reducible repeat (first | refine sA ?_ | refine sB ?_ | refine sC ?_ | refine sD ?_ | refine sE ?_ | refine sF ?_))
   exact av (t:=tP) _ rfl (fun F hF=>hF _ (by repeat (first | exact mz | apply ms)))
theorem Jo {R:a6} (hR:cJ R) (pb:Nat):Meets PG (PI pb) (aa cI #[.pointer (some (aR pb))]) tP (pR R) NodeF []:=by
 refine y5 (aR pb) ?_
 unfold lN pR
 (with_reducible repeat (first | refine sA ?_ | refine sB ?_ | refine sC ?_ | refine sD ?_ | refine sE ?_ | refine sF ?_))
 first | refine ag (bk _) (fun _ h=>nomatch h) fun r1 b=>Sim.prop fun h=>?_ | refine af (bk _) (fun _ h=>nomatch h) fun r1 b=>Sim.prop fun h=>?_
 subst h
 (with_reducible repeat (first | refine sA ?_ | refine sB ?_ | refine sC ?_ | refine sD ?_ | refine sE ?_ | refine sF ?_))
 first | refine ag (az _ _) (fun _ h=>nomatch h) fun r2 b=>Sim.prop fun h=>?_ | refine af (az _ _) (fun _ h=>nomatch h) fun r2 b=>Sim.prop fun h=>?_
 subst h
 (with_reducible repeat (first | refine sA ?_ | refine sB ?_ | refine sC ?_ | refine sD ?_ | refine sE ?_ | refine sF ?_))
 first | refine ag (Bx hR _) (fun _ h=>nomatch h) fun r3 nr3=>?_ | refine af (Bx hR _) (fun _ h=>nomatch h) fun r3 nr3=>?_
 (with_reducible repeat (first | refine sA ?_ | refine sB ?_ | refine sC ?_ | refine sD ?_ | refine sE ?_ | refine sF ?_))
 first | refine ag (cr _ _) (fun _ h=>nomatch h) fun r4 b=>Sim.prop fun h=>?_ | refine af (cr _ _) (fun _ h=>nomatch h) fun r4 b=>Sim.prop fun h=>?_
 subst h
 (with_reducible repeat (first | refine sA ?_ | refine sB ?_ | refine sC ?_ | refine sD ?_ | refine sE ?_ | refine sF ?_))
 (first | refine qA (fun h=>?_) fun h=>?_ | refine qB (fun h=>?_) fun h=>?_ | refine qC (fun h=>?_) fun h=>?_ | refine qD (fun h=>?_) fun h=>?_ | refine qE (fun h=>?_) fun h=>?_) -- (!r4)
 ·skip
  (with_reducible repeat (first | refine sA ?_ | refine sB ?_ | refine sC ?_ | refine sD ?_ | refine sE ?_ | refine sF ?_))
  exact av (t:=tP) _ rfl (fun F hF=>hF _ (by repeat (first | exact mz | apply ms)))
 ·skip
  refine DR [r3] [nr3] rfl (by decide) (by decide) (by kernel_rfl) (fun F hF=>(.cons _ _ _ _ (hF (NodeF nr3 r3) (by repeat (first | exact mz | apply ms))) .nil)) fun r6 Kr6=>?_
  refine im (k7 R) R.fuel _ (fun _=>rfl) rfl (by have:=hR.fuel; simp [aE,N.kids]; omega) (by repeat (first | exact mz | apply ms)) fun k n K hn=>?_
  (with_reducible repeat (first | refine sA ?_ | refine sB ?_ | refine sC ?_ | refine sD ?_ | refine sE ?_ | refine sF ?_))
  first | refine ag (az _ _) (fun _ h=>nomatch h) fun r8 b=>Sim.prop fun h=>?_ | refine af (az _ _) (fun _ h=>nomatch h) fun r8 b=>Sim.prop fun h=>?_
  subst h
  (with_reducible repeat (first | refine sA ?_ | refine sB ?_ | refine sC ?_ | refine sD ?_ | refine sE ?_ | refine sF ?_))
  (first | refine qA (fun h=>?_) fun h=>?_ | refine qB (fun h=>?_) fun h=>?_ | refine qC (fun h=>?_) fun h=>?_ | refine qD (fun h=>?_) fun h=>?_ | refine qE (fun h=>?_) fun h=>?_) -- r8
  ·skip
   refine gr (by repeat (first | exact mz | apply ms)) fun b sl ps K2 hx hb=>?_
   (with_reducible repeat (first | refine sA ?_ | refine sB ?_ | refine sC ?_ | refine sD ?_ | refine sE ?_ | refine sF ?_))
   refine ef (Bx hR _) (fun _ h=>nomatch h) fun r11 nr11=>?_
   subst hx
   refine gD hb (by repeat (first | exact mz | apply ms)) (by repeat (first | exact mz | apply ms)) (by omega) fun K=>?_
   refine oA _ rfl rfl (by simp [N.push_len] at hn ⊢; omega) (by repeat (first | exact mz | apply ms))
  ·skip
   refine dC (n:=_) (x:=r6) (by repeat (first | exact mz | apply ms)) ?_
   (with_reducible repeat (first | refine sA ?_ | refine sB ?_ | refine sC ?_ | refine sD ?_ | refine sE ?_ | refine sF ?_))
   exact av (t:=tP) _ rfl (fun F hF=>hF _ (by repeat (first | exact mz | apply ms)))
end Go.Proofs.YtjlgcpgjdgeejaaGreatDoor
end

section
namespace Go.Proofs.YtjlgcpgjdgeejaaGreatDoor
open Go
set_option linter.unusedSimpArgs false
set_option linter.unusedVariables false
set_option linter.constructorNameAsVariable false
def _root_.Go.Code.lft:Code→Code
 | .seq a _=>a
 | c=>c
def _root_.Go.Code.rgt:Code→Code
 | .seq _ b=>b
 | c=>c
def cO (fn:Func):Code:=fn.body.getD .skip
def k6 (P:Program) (g:FuncId) (caps:Array Value) (rs:Array RV) (R:Ending→World→Prop) (u:FrameMode) (w:World):Prop :=
 CallsD P g caps u w fun e u' w'=>∃ v,e=.returned v∧match settle u' with
  | .returning=>∃ v,(dw rs).run P w'=.ok v w'∧R (.returned v) w'
  | .panicking c=>R (.panicked c) w'
  | .run=>False
theorem rg {P:Program} {f:FuncId} {fn:Func} {args:Array Value} {w:World} (hf:P.funcs[f]? = some fn) (hb:fn.body.isNone=false) (hn:(fn.name == "runtime.NumGoroutine")=false) :
  (callFunc f args).run P w=.ok (.enter f args) w:=by
 have hn':¬ fn.name = "runtime.NumGoroutine" := by simpa using hn
 have hb':¬ fn.body=none:=by
  intro h; rw [h] at hb; cases hb
 unfold callFunc
 simp [hf,hb',hn']
theorem rz {P:Program} {fn fg:Func} {tmps:Array Value} {g:FuncId} {caps:Array Value} {rs:Array RV} {R:Ending→World→Prop} {u:FrameMode} {w:World} (hu:u≠.run)
  (hrs:results fn tmps=dw rs) (hfg:P.funcs[g]? = some fg) (hbg:fg.body.isNone=false) (hng:(fg.name == "runtime.NumGoroutine")=false) (h:k6 P g caps rs R u w):Leaves P fn tmps R [{ target:=.fn (.func g) caps,args:=#[] }] u w:=by
 refine leaves_cons (f:=g) (args:=caps) hu (by simp [invoke,rg hfg hbg hng]) (CallsD.mono h ?_)
 rintro e u' w' ⟨v,rfl,h⟩
 show Leaves P fn tmps R [] (settle u') w'
 cases hs:settle u' with
 | returning=>rw [hs] at h; obtain ⟨v,h1,h2⟩:=h; exact ⟨v,by rw [hrs]; exact h1,h2⟩
 | panicking c=>rw [hs] at h; exact h
 | run=>rw [hs] at h; exact h.elim
def EW (slots:List Nat) (lo t:Nat):ResultVar→Bool
 | .tmp s=>slots.contains s&&Nat.blt s lo&&!Nat.beq s t
 | .cell s _=>slots.contains s&&Nat.blt s lo&&!Nat.beq s t
def EU (slots:List Nat):Operand→Bool
 | .tmp s=>slots.contains s
 | _=>false
theorem BQ {ss:List Nat} {vs:List Value} {e:Env} {b:Env}:e.gets ss=some vs→∀ s∈ss,∃ v u,b.puts ss vs s=some v∧e s=some u∧v.val=u.val:=by
 intro h s hs
 have key:∀ (ss:List Nat) (vs:List Value) (b:Env),e.gets ss=some vs→(s∈ss∨∃ v u,b s=some v∧e s=some u∧v.val=u.val)→∃ v u,b.puts ss vs s=some v∧e s=some u∧v.val=u.val:=by
  intro ss
  induction ss with
  | nil =>
   intro vs b _ h
   rcases h with h | h
   ·cases h
   ·simpa [Env.puts] using h
  | cons x ss ih =>
   intro vs b hg h
   obtain ⟨v,us,h1,h2,rfl⟩:=sd hg
   refine ih us _ h2 ?_
   by_cases hx:s=x
   ·subst hx; exact .inr ⟨.v v.val,v,iB ..,h1,rfl⟩
   ·rcases h with h | ⟨v',u',g1,g2,g3⟩
    ·rcases List.mem_cons.1 h with h | h
     ·exact absurd h hx
     ·exact .inl h
    ·exact .inr ⟨v',u',by rw [jd b _ hx]; exact g1,g2,g3⟩
 exact key ss vs b h (.inl hs)
theorem zv {P:Program} {f:FuncId} {fn fg:Func} {c1 c2 c3:Code} {id:Nat} {o1 o2:Oper} {t:Tmp} {g:FuncId} {caps:Array Operand} {args:List Value} {w:World} {R:Ending→World→Prop} {lo:Nat}
  {slots:List Nat} {an1 an2 an3:An} {Mid:List Value→World→Prop} (hf:P.funcs[f]? = some fn) (hfg:P.funcs[g]? = some fg) (hbg:fg.body.isNone=false) (hng:(fg.name == "runtime.NumGoroutine")=false) (hb:fn.body=some (.seq c1 (.seq c2 (.seq (.region id #[o1,o2] false) c3))))
  (ho1:o1.op=.makeFunc (.func g) #[] caps) (hd1:o1.dst=some t) (hg1:o1.guard=none)
  (ho2:o2.op=.defer { callee:=.value (.tmp t),args:=#[],argTypes:=#[] }) (hd2:o2.dst=none) (hg2:o2.guard=none)
  (ht:t < fn.ntmps) (hslots:∀ s∈slots,s≠t) (hn:args.length≤fn.ntmps)
  (hres:fn.results.all (EW slots lo t)=true) (hcaps:caps.all (EU slots)=true)
  (h1:(den P (NN.of fn.ntmps) #[] c1 an1 1 (eR args) (fun e=>den P (NN.of fn.ntmps) #[] c2 an2 1 e (gG 0 slots) (fun _ _=>.bad)) fun _ _=>.bad).wp P (fun _=>True) (fun _ vs w'=>Mid vs w') (fun _ _=>False) w)
  (h2:∀ vs w',Mid vs w'→∀ N:NN,N.lo=lo→N.hi=fn.ntmps→N.rd=none →
   (den P N #[] c3 an3 1 (Env.puts (fun _=>none) slots vs) (fun _=>.out 0 []) fun ex _=>match ex with | .ret=>.out 0 [] | _=>.bad).wp P (fun _=>True)
    (fun _ _ w''=>k6 P g (caps.map (Env.at (Env.puts (fun _=>none) slots vs))) (fn.results.map (il (Env.puts (fun _=>none) slots vs))) R .returning w'')
    (fun en w''=>match en with
     | .panicked c=>k6 P g (caps.map (Env.at (Env.puts (fun _=>none) slots vs))) (fn.results.map (il (Env.puts (fun _=>none) slots vs))) R (.panicking c) w''
     | _=>False) w'):Calls P f args.toArray w R:=by
 refine calls_of_wp_defers hf hb ?_
 have hsz:fn.ntmps - args.length+args.length=fn.ntmps:=by omega
 refine wp_seq (Code.wp_mono (Q:=fun ex a' w'=>match ex with
  | .normal=>(Code.seq c2 (.seq (.region id #[o1,o2] false) c3)).wp P (bodyPostD P fn R) a' w'
  | _=>False) (fun ex a' w' h=>by cases ex<;>first | exact h | exact h.elim) (((iy c1).1 an1).wp rfl 1 (eR args) _ _ _ w _ _ _ h1 ?_ ?_ ?_ ?_ ?_))
 ·refine ⟨⟨rfl,fun i hi=>absurd hi (Nat.not_lt_zero i)⟩,by simp [NN.of]; omega,fun i v hv=>?_⟩
  simp only [eR,Option.map_eq_some_iff] at hv
  obtain ⟨x,hx,rfl⟩:=hv
  have hi:i < args.length:=by
   rcases Nat.lt_or_ge i args.length with h' | h'
   ·exact h'
   ·simp [List.getElem?_eq_none h'] at hx
  have hx':args[i]=x:=by simpa [List.getElem?_eq_getElem hi] using hx
  simp [Array.getD_eq_getD_getElem?,Array.getElem?_append,hi,hx',EV.val]
 ·intro Φ1 S1 e1 a1 w1 hb1 ha1 hs1 hx1
  refine wp_seq (Code.wp_mono (Q:=fun ex a' w'=>match ex with
   | .normal=>(Code.seq (.region id #[o1,o2] false) c3).wp P (bodyPostD P fn R) a' w'
   | _=>False) (fun ex a' w' h=>by cases ex<;>first | exact h | exact h.elim) (((iy c2).1 an2).wp rfl 1 e1 _ _ a1 w1 Φ1 S1 _ hx1 ha1 ?_ ?_ ?_ ?_))
  ·intro Φ2 S2 e2 a2 w2 hb2 ha2 hs2 hx2
   obtain ⟨vs,hg,ho⟩:=iU hx2
   rw [hb2 0 (Nat.lt_succ_self 0),hb1 0 (Nat.lt_succ_self 0)] at ho
   -- the closure is made and deferred
   let cv:=caps.map a2.eval
   let a3:Act:={ (a2.put (some t) (.func (.func g) #[] cv)) with defers:=[{ target:=.fn (.func g) cv,args:=#[] }] }
   have hlt2:t < a2.tmps.size:=by rw [ha2.size]; exact ht
   have hE:∀ s∈slots,∃ v,Env.puts (fun _=>none) slots vs s=some v∧a3.tmps.getD s undef=v.val∧a2.tmps.getD s undef=v.val:=by
    intro s hs
    obtain ⟨v,u,h1,h2,h3⟩:=BQ (b:=fun _=>none) hg s hs
    have h4:=ha2.val s u h2
    refine ⟨v,h1,?_,by rw [h3]; exact h4⟩
    have:a3.tmps.getD s undef=a2.tmps.getD s undef:=by
     simp [a3,Act.put,Array.getD_eq_getD_getElem?,Array.getElem?_setIfInBounds_ne (Ne.symm (hslots s hs))]
    rw [this,h3]; exact h4
   have hcv:cv=caps.map (Env.at (Env.puts (fun _=>none) slots vs)):=by
    refine Array.map_congr_left fun o ho'=>?_
    have hc:=Array.all_eq_true_iff_forall_mem.1 hcaps o ho'
    cases o with
    | tmp s =>
     simp only [EU,List.contains_iff_mem] at hc
     obtain ⟨v,h1,_,h2⟩:=hE s (by simpa using hc)
     simp [Act.eval,Env.at,Env.ev,h1,h2]
    | _=>simp [EU] at hc
   refine wp_seq (wp_region_list ?_)
   refine wpList_plain hg1 fun K1 hK1=>?_
   have hr1:(execOp a2.eval o1).run P w2=.ok (.value (.func (.func g) #[] cv)) w2:=by
    simp [execOp,ho1,Instr.makeFunc,cv]
   unfold Oper.wp; rw [hr1,Oper.upon_value,hd1]
   refine hK1 _ _ (wpList_plain hg2 fun K2 hK2=>?_)
   have hev:(a2.put (some t) (.func (.func g) #[] cv)).eval (.tmp t)=.func (.func g) #[] cv:=by
    simp [Act.eval,Act.put,hlt2]
   have hr2:(execOp (a2.put (some t) (.func (.func g) #[] cv)).eval o2).run P w2=.ok (.defer { target:=.fn (.func g) cv,args:=#[] }) w2:=by
    simp [execOp,ho2,resolve,hev,Deferred.ofValue]
   unfold Oper.wp; rw [hr2,Oper.upon_defer,hd2]
   refine hK2 _ _ (wpList_nil ?_)
   have ha3eq:({ (a2.put (some t) (.func (.func g) #[] cv)) with defers:={ target:=.fn (.func g) cv,args:=#[] }::(a2.put (some t) (.func (.func g) #[] cv)).defers }:Act).put none undef=a3:=by
    have:a2.defers=[]:=ha2.defers.1
    simp [a3,Act.put,this]
   rw [ha3eq]
   -- the rest
   let N:NN:=⟨lo,fn.ntmps,a3.defers,fun i=>a3.tmps.getD i undef,none⟩
   have hA3:Agree N (Env.puts (fun _=>none) slots vs) a3:=by
    refine ⟨⟨rfl,fun i _=>rfl⟩,by simp [a3,Act.put,ha2.size,NN.of,N],fun i v hv=>?_⟩
    have hmem:i∈slots:=by
     have key:∀ (ss:List Nat) (vs:List Value) (b:Env),b.puts ss vs i≠none→i∈ss∨b i≠none:=by
      intro ss
      induction ss with
      | nil=>intro vs b h; exact .inr (by simpa [Env.puts] using h)
      | cons x ss ih =>
       intro vs b h
       cases vs with
       | nil=>exact .inr (by simpa [Env.puts] using h)
       | cons v vs =>
        rcases ih vs _ h with h | h
        ·exact .inl (List.mem_cons_of_mem _ h)
        ·by_cases hx:i=x
         ·exact .inl (hx▸List.mem_cons_self ..)
         ·exact .inr (by rwa [jd b _ hx] at h)
     rcases key slots vs _ (by rw [hv]; simp) with h | h
     ·exact h
     ·exact absurd rfl h
    obtain ⟨u,g1,g2,_⟩:=hE i hmem
    rw [hv] at g1; cases g1; exact g2
   have hRes:∀ a:Act,oZ N a→results fn a.tmps=dw (fn.results.map (il (Env.puts (fun _=>none) slots vs))):=by
    intro a ha
    refine oJ fun r hr=>?_
    have hro:=Array.all_eq_true_iff_forall_mem.1 hres r hr
    have one:∀ s,slots.contains s=true→s < lo→(Env.puts (fun _=>none) slots vs).at (.tmp s)=a.tmps.getD s undef:=fun s hs hl=>by
     obtain ⟨u,g1,g2,_⟩:=hE s (by simpa using hs)
     have g3:a.tmps.getD s undef=a3.tmps.getD s undef:=ha.2 s hl
     rw [g3,g2]
     simp [Env.at,Env.ev,g1]
    cases r with
    | tmp s=>simp only [EW,Bool.and_eq_true] at hro; exact one s hro.1.1 (Nat.le_of_ble_eq_true hro.1.2)
    | cell s ty=>simp only [EW,Bool.and_eq_true] at hro; exact one s hro.1.1 (Nat.le_of_ble_eq_true hro.1.2)
   have hD:∀ a:Act,oZ N a→a.defers=[{ target:=.fn (.func g) (caps.map (Env.at (Env.puts (fun _=>none) slots vs))),args:=#[] }]:=fun a ha=>by
    have:a.defers=a3.defers:=ha.1
    rw [this,← hcv]
   have hN1:N.lo=lo:=rfl
   refine Code.wp_mono (fun ex a w h=>?_) (((iy c3).1 an3).wp rfl 1 _ _ _ a3 w2 _ _ (fun ex a w=>match ex with
    | .panic c=>(∀ i,i < lo→a.tmps.getD i undef=N.K i)∧a.defers=N.D∧k6 P g (caps.map (Env.at (Env.puts (fun _=>none) slots vs))) (fn.results.map (il (Env.puts (fun _=>none) slots vs))) R (.panicking c) w
    | _=>bodyPostD P fn R ex a w) (h2 vs w2 ho N rfl rfl rfl) hA3 ?_ ?_ ?_ ?_)
   ·cases ex with
    | panic c =>
     obtain ⟨k1,k2,k3⟩:=h
     show Leaves P fn a.tmps R a.defers (.panicking c) w
     rw [hD a ⟨k2,k1⟩]
     exact rz (by simp) (hRes a ⟨k2,k1⟩) hfg hbg hng k3
    | _=>exact h
   ·intro Φ3 S3 e3 a4 w4 hb3 ha4 hs3 hx3
    simp only [T.wp] at hx3
    rw [hb3 0 (Nat.lt_succ_self 0)] at hx3
    show Leaves P fn a4.tmps R a4.defers .returning w4
    rw [hD a4 ha4.defers]
    exact rz (by simp) (hRes a4 ha4.defers) hfg hbg hng hx3
   ·intro Φ3 S3 ex e3 a4 w4 hne hb3 ha4 hs3 hx3
    cases ex with
    | ret =>
     simp only [T.wp] at hx3
     rw [hb3 0 (Nat.lt_succ_self 0)] at hx3
     show Leaves P fn a4.tmps R a4.defers .returning w4
     rw [hD a4 ha4.defers]
     exact rz (by simp) (hRes a4 ha4.defers) hfg hbg hng hx3
    | normal=>exact absurd rfl hne
    | _=>simp only [T.wp] at hx3
   ·intro c a4 w4 hk hx3
    exact ⟨hk.2,hk.1,hx3⟩
   ·rintro c a d v w' hd ⟨k1,k2,k3⟩
    cases d with
    | none=>exact ⟨k1,k2,k3⟩
    | some d =>
     refine ⟨fun i hi=>?_,k2,k3⟩
     rw [← k1 i hi]
     have hl:lo≤d:=hd d rfl
     have hne:d≠i:=by omega
     simp [Act.put,Array.getD_eq_getD_getElem?,Array.getElem?_setIfInBounds_ne hne]
  ·intro Φ2 S2 ex e2 a2 w2 hne hb2 ha2 hs2 hx2
   simp only [T.wp] at hx2
  ·intro c a w' _ h; exact h.elim
  ·intro c a d v w' hd h; exact h
 ·intro Φ2 S2 ex e2 a2 w2 hne hb2 ha2 hs2 hx2
  simp only [T.wp] at hx2
 ·intro c a w' _ h; exact h.elim
 ·intro c a d v w' hd h; exact h
theorem zc {P:Program} {g:FuncId} {fn:Func} {id:Nat} {o:Oper} {t:Tmp} {c:Code} {caps:List Value} {w:World} {u u':FrameMode} {v:Value} {an:An} {Post:World→Prop}
  (hf:P.funcs[g]? = some fn) (hb:fn.body=some (.seq (.region id #[o] false) c)) (ho:o.op=.call { callee:=.builtin .recover,args:=#[],argTypes:=#[] }) (hd:o.dst=some t) (hg:o.guard=none)
  (hr:fn.results=#[]) (ht:t < fn.ntmps) (hn:caps.length≤fn.ntmps)
  (hm:(u=.returning∧v=.nilIface∧u'=.returning)∨∃ older,u=.panicking ({ v:=v,recovered:=false }::older)∧u'=.panicking ({ v:=v,recovered:=true }::older))
  (h:(den P (NN.of fn.ntmps) #[] c an 1 ((eR caps).putE t (.v v)) (fun _=>.out 0 []) fun ex _=>match ex with | .ret=>.out 0 [] | _=>.bad).wp P (fun _=>True) (fun _ _ w'=>Post w') (fun _ _=>False) w) :
  CallsD P g caps.toArray u w fun e u2 w'=>e=.returned (.tuple #[])∧u2=u'∧Post w':=by
 refine callsD_of_wpS hf hb fun c₀ cs hu=>?_
 apply wpS_seq
 apply wpS_region
 have hrun:∀ (ρ:Operand→Value) (w:World),(execOp ρ o).run P w=.ok .recover w:=fun ρ w=>by simp [execOp,ho,resolve,invoke,builtin]
 have hwant:Region.wanted o (yielded #[o] (caps.toArray++Array.replicate (fn.ntmps - caps.toArray.size) undef))=true:=by simp [Region.wanted,hg]
 let a0:Act:={ tmps:=caps.toArray++Array.replicate (fn.ntmps - caps.toArray.size) undef,defers:=[] }
 have hA0:Agree (NN.of fn.ntmps) (eR caps) a0:=by
  have hsz:fn.ntmps - caps.length+caps.length=fn.ntmps:=by omega
  refine ⟨⟨rfl,fun i hi=>absurd hi (Nat.not_lt_zero i)⟩,by simp [a0,NN.of]; omega,fun i v hv=>?_⟩
  simp only [eR,Option.map_eq_some_iff] at hv
  obtain ⟨x,hx,rfl⟩:=hv
  have hi:i < caps.length:=by
   rcases Nat.lt_or_ge i caps.length with h' | h'
   ·exact h'
   ·simp [List.getElem?_eq_none h'] at hx
  have hx':caps[i]=x:=by simpa [List.getElem?_eq_getElem hi] using hx
  simp [a0,Array.getD_eq_getD_getElem?,Array.getElem?_append,hi,hx',EV.val]
 have hA1:=hA0.putE (d:=t) ht (Nat.zero_le _) (.v v)
 have main:∀ c1:Frame,c1={ c₀ with mode:=u' }→c.wpS P (bodyPostS P fn c₀ cs fun e u2 w'=>e=.returned (.tuple #[])∧u2=u'∧Post w') (a0.put (some t) v) (c1::cs) w:=by
  rintro c1 rfl
  refine wpS_of_wp (Code.wp_mono (fun ex a w' hq=>?_) (((iy c).1 an).wp rfl 1 _ _ _ _ w _ _ (fun ex a w'=>match ex with
   | .normal | .ret=>a.defers=[]∧Post w'
   | _=>False) h hA1 ?_ ?_ ?_ ?_))
  ·cases ex with
   | normal=>exact ⟨hq.1,u',rfl,.tuple #[],by simp [results,hr],rfl,rfl,hq.2⟩
   | ret=>exact ⟨hq.1,u',rfl,.tuple #[],by simp [results,hr],rfl,rfl,hq.2⟩
   | _=>exact hq.elim
  ·intro Φ' S' e' a' w' hb' ha' hs' hx
   simp only [T.wp] at hx
   rw [hb' 0 (Nat.lt_succ_self 0)] at hx
   exact ⟨ha'.defers.1,hx⟩
  ·intro Φ' S' ex e' a' w' hne hb' ha' hs' hx
   cases ex with
   | ret =>
    simp only [T.wp] at hx
    rw [hb' 0 (Nat.lt_succ_self 0)] at hx
    exact ⟨ha'.defers.1,hx⟩
   | normal=>exact absurd rfl hne
   | _=>simp only [T.wp] at hx
  ·intro c a w' _ h; exact h.elim
  ·intro c a d v w' _ h; exact h
 rcases hm with ⟨rfl,rfl,rfl⟩ | ⟨older,rfl,rfl⟩
 ·have hrec:recoverD (c₀::cs)=none:=by simp [recoverD,hu]
  show wpOpsS P #[o] _ [0] a0 (c₀::cs) w
  simp only [wpOpsS,List.getElem?_toArray,List.getElem?_cons_zero,hrun,hrec]
  rw [if_pos hwant,hd]
  exact main c₀ (by cases c₀; simp_all)
 ·have hrec:recoverD (c₀::cs)=some (v,{ c₀ with mode:=.panicking ({ v,recovered:=true }::older) }::cs):=by simp [recoverD,hu]
  show wpOpsS P #[o] _ [0] a0 (c₀::cs) w
  simp only [wpOpsS,List.getElem?_toArray,List.getElem?_cons_zero,hrun,hrec]
  rw [if_pos hwant,hd]
  exact main _ rfl
end Go.Proofs.YtjlgcpgjdgeejaaGreatDoor
end

section
namespace Go.Proofs.YtjlgcpgjdgeejaaGreatDoor
open Go
set_option linter.unusedVariables false
set_option maxRecDepth 100000
noncomputable section
def nu:An :=
 .b (.s (.r [some tB]) (.c (.r [none]) (.s (.r [some (.tup [.agg [.int .i64],.b .bool]),none,none]) (.c (.s (.r [some tA,some tU]) (.r [some tU])) (.s (.r [none]) (.r [none,some tU]))))))
def gF (a0:Addr) (v:Value):T :=
 .op (sK .eql gY v .nilIface) tB fun r1 =>
 .ite r1 (
 .out 0 []) (
 .op (Ih v gY bO true) (.tup [.agg [.int .i64],.b .bool]) fun r2 =>
 .ite r2.2.1 (
 .op (bD bO) tA fun r3 =>
 .op (a7 bO (.pointer (some r3)) (.agg #[.int .i64 r2.1.1])) tU fun _ =>
 .op (a7 bE (.pointer (some a0)) (.bool false)) tU fun _ =>
 .out 0 []) (
 .op (sq v) tU fun _ =>
 .out 0 []))
theorem uW (a0:Addr) (v:Value):den Tryz.prog (NN.of 10) #[] (cO Tryz.f266).rgt nu 1 ((eR [.pointer (some a0)]).putE 4 (.v v)) (fun _=>.out 0 []) (fun ex _=>match ex with | .ret=>.out 0 [] | _=>.bad)=gF a0 v:=by kernel_rfl
theorem nw (a0:Addr) {w:World} {u u':FrameMode} {v:Value} {Post:World→Prop} (hm:(u=.returning∧v=.nilIface∧u'=.returning)∨∃ older,u=.panicking ({ v:=v,recovered:=false }::older)∧u'=.panicking ({ v:=v,recovered:=true }::older))
  (h:(gF a0 v).wp Tryz.prog (fun _=>True) (fun _ _ w'=>Post w') (fun _ _=>False) w):CallsD Tryz.prog 266 #[.pointer (some a0)] u w fun e u2 w'=>e=.returned (.tuple #[])∧u2=u'∧Post w':=by
 refine zc (caps:=[.pointer (some a0)]) (c:=(cO Tryz.f266).rgt) (t:=4) (an:=nu) Tryz.func266 rfl rfl rfl rfl rfl (Nat.le_of_ble_eq_true rfl) (Nat.le_of_ble_eq_true rfl) hm ?_
 have e:=uW a0 v
 exact e▸h
def oF:An :=
 .r [some tA]
def ot:An :=
 .r [none,none,some (.c (.agg [.slice,.int .i64,.int .i64,.str,.int .i64,.int .i64,.bool])),some tA,some tU]
def oW:An :=
 .s (.r [some tP]) (.s (.r [some tB,some tU]) (.x))
def kH (a0_p:Addr):T :=
 .op (bD bE) tA fun r1 =>
 .op (am cF (.pointer (some a0_p))) (.c (.agg [.slice,.int .i64,.int .i64,.str,.int .i64,.int .i64,.bool])) fun r2 =>
 .op (bD cF) tA fun r3 =>
 .op (a7 cF (.pointer (some r3)) (.agg #[.slice r2.1.1 r2.1.2.1 r2.1.2.2,.int .i64 r2.2.1,.int .i64 r2.2.2.1,.string r2.2.2.2.1,.int .i64 r2.2.2.2.2.1,.int .i64 r2.2.2.2.2.2.1,.bool r2.2.2.2.2.2.2.1])) tU fun _ =>
 .out 0 [.pointer (some r1),.pointer (some r3)]
def kv (s2:Addr) (s3:Addr):T :=
 .op (aa eH #[.pointer (some s3)]) tP fun r5 =>
 .op (aa bw #[.pointer (some s3),.string k_lp]) tB fun r6 =>
 .op (a7 bE (.pointer (some s2)) (.bool r6)) tU fun _ =>
 .out 0 []
theorem wV (a0_p:Addr):den Tryz.prog (NN.of 10) #[] (cO Tryz.f258).lft oF 1 (eR [.pointer (some a0_p)]) (fun e=>den Tryz.prog (NN.of 10) #[] (cO Tryz.f258).rgt.lft ot 1 e (gG 0 [2,3]) (fun _ _=>.bad)) (fun _ _=>.bad)=kH a0_p:=by kernel_rfl
theorem wD (s2:Addr) (s3:Addr) (D:List Deferred) (K:Nat→Value):den Tryz.prog ⟨3,10,D,K,none⟩ #[] (cO Tryz.f258).rgt.rgt.rgt oW 1 (Env.puts (fun _=>none) [2,3] [.pointer (some s2),.pointer (some s3)]) (fun _=>.out 0 []) (fun ex _=>match ex with | .ret=>.out 0 [] | _=>.bad)=kv s2 s3:=by kernel_rfl
theorem xa (a0_p:Addr) {w:World} {R:Ending→World→Prop} {Mid:List Value→World→Prop} (hsh:∀ vs w',Mid vs w'→∃ (s2:Addr) (s3:Addr),vs=[.pointer (some s2),.pointer (some s3)])
  (h1:(kH a0_p).wp Tryz.prog (fun _=>True) (fun _ vs w'=>Mid vs w') (fun _ _=>False) w)
  (h2:∀ (s2:Addr) (s3:Addr) w',Mid [.pointer (some s2),.pointer (some s3)] w'→(kv s2 s3).wp Tryz.prog (fun _=>True) (fun _ _ w''=>k6 Tryz.prog 266 #[.pointer (some s2)] #[.c (.pointer (some s2)) bE] R .returning w'') (fun en w''=>match en with | .panicked c=>k6 Tryz.prog 266 #[.pointer (some s2)] #[.c (.pointer (some s2)) bE] R (.panicking c) w'' | _=>False) w') :
  Calls Tryz.prog k9 #[.pointer (some a0_p)] w R:=by
 refine zv (args:=[.pointer (some a0_p)]) (c1:=(cO Tryz.f258).lft) (c2:=(cO Tryz.f258).rgt.lft) (c3:=(cO Tryz.f258).rgt.rgt.rgt) (lo:=3) (slots:=[2,3]) (t:=7) (an1:=oF) (an2:=ot) (an3:=oW) (Mid:=Mid) Tryz.func258 Tryz.func266 rfl rfl rfl rfl rfl rfl rfl rfl rfl (Nat.le_of_ble_eq_true rfl) (by decide) (Nat.le_of_ble_eq_true rfl) (by kernel_rfl) (by kernel_rfl) ?_ ?_
 ·have e:=wV a0_p
  exact e▸h1
 ·rintro vs w' hM ⟨lo,hi,D,K,rd⟩ hlo hhi hrd
  obtain ⟨s2,s3,rfl⟩:=hsh vs w' hM
  obtain rfl:lo=3:=hlo
  obtain rfl:hi=10:=hhi
  obtain rfl:rd=none:=hrd
  have e:=wD s2 s3 D K
  have ec:Array.map (Env.at (Env.puts (fun _=>none) [2,3] [.pointer (some s2),.pointer (some s3)])) #[Operand.tmp 2]=#[.pointer (some s2)]:=by kernel_rfl
  have er:Array.map (il (Env.puts (fun _=>none) [2,3] [.pointer (some s2),.pointer (some s3)])) Tryz.f258.results=#[.c (.pointer (some s2)) bE]:=by kernel_rfl
  rw [ec,er]
  exact e▸h2 s2 s3 w' hM
def pn:An :=
 .b (.s (.r [some tB]) (.c (.r [none]) (.s (.r [some (.tup [.agg [.int .i64],.b .bool]),none,none]) (.c (.s (.r [some tA,some tU]) (.d (.q 0 none (.q 1 none (.q 2 (some tI) (.l 3 (some tU) (.l 4 (some tU) (.l 5 (some tU) (.e))))))))) (.s (.r [none]) (.r [none,some tU]))))))
def iW (a0:Addr) (a1:Addr) (a2:Addr) (v:Value):T :=
 .op (sK .eql gY v .nilIface) tB fun r1 =>
 .ite r1 (
 .out 0 []) (
 .op (Ih v gY bO true) (.tup [.agg [.int .i64],.b .bool]) fun r2 =>
 .ite r2.2.1 (
 .op (bD bO) tA fun r3 =>
 .op (a7 bO (.pointer (some r3)) (.agg #[.int .i64 r2.1.1])) tU fun _ =>
 .draw <|
 .opq (am ar (.pointer (some r3))) tI fun r5 =>
 .opl (a7 aB (.pointer (some a0)) (.agg #[.slice none 0 0])) tU fun _ =>
 .op (a7 ar (.pointer (some a1)) (.int .i64 r5)) tU fun _ =>
 .op (a7 bE (.pointer (some a2)) (.bool false)) tU fun _ =>
 .out 0 []) (
 .op (sq v) tU fun _ =>
 .out 0 []))
theorem yH (a0:Addr) (a1:Addr) (a2:Addr) (v:Value):den Tryz.prog (NN.of 15) #[] (cO Tryz.f83).rgt pn 1 ((eR [.pointer (some a0),.pointer (some a1),.pointer (some a2)]).putE 6 (.v v)) (fun _=>.out 0 []) (fun ex _=>match ex with | .ret=>.out 0 [] | _=>.bad)=iW a0 a1 a2 v:=by kernel_rfl
theorem ph (a0:Addr) (a1:Addr) (a2:Addr) {w:World} {u u':FrameMode} {v:Value} {Post:World→Prop} (hm:(u=.returning∧v=.nilIface∧u'=.returning)∨∃ older,u=.panicking ({ v:=v,recovered:=false }::older)∧u'=.panicking ({ v:=v,recovered:=true }::older))
  (h:(iW a0 a1 a2 v).wp Tryz.prog (fun _=>True) (fun _ _ w'=>Post w') (fun _ _=>False) w):CallsD Tryz.prog 83 #[.pointer (some a0),.pointer (some a1),.pointer (some a2)] u w fun e u2 w'=>e=.returned (.tuple #[])∧u2=u'∧Post w':=by
 refine zc (caps:=[.pointer (some a0),.pointer (some a1),.pointer (some a2)]) (c:=(cO Tryz.f83).rgt) (t:=6) (an:=pn) Tryz.func83 rfl rfl rfl rfl rfl (Nat.le_of_ble_eq_true rfl) (Nat.le_of_ble_eq_true rfl) hm ?_
 have e:=yH a0 a1 a2 v
 exact e▸h
def qm:An :=
 .r [some tA,some tA,some tA]
def ql:An :=
 .r [none,none,some tA,none]
def p5:An :=
 .s (.r [none]) (.s (.s (.r [none]) (.j [(8,.b .ptr)] (.b (.s (.r [none,none]) (.c (.s (.r [some tP,none]) (.b (.l [] (.s (.s (.r [none,some (.c (.agg [.int .i64,.str,.int .i64,.int .i64])),none,none]) (.c (.x) (.x))) (.b (.d (.q 0 none (.q 1 none (.q 2 (some tA) (.q 3 none (.q 4 (some ai) (.q 5 none (.l 6 (some tP) (.l 7 (some ai) (.l 8 (some ai) (.q 9 (some tA) (.q 10 none (.l 11 (some tU) (.e))))))))))))))))))) (.s (.r [none,none]) (.c (.r [none,some tP,none]) (.s (.r [none,none]) (.c (.r [none,some tP,none]) (.x)))))))))) (.s (.s (.r [none,some (.c (.agg [.int .i64,.str,.int .i64,.int .i64])),none,none]) (.j [] (.c (.r [none,some tU]) (.x)))) (.s (.r [none,some (.c (.agg [.slice])),some tU,some tU,some tU]) (.x))))
def mP (a0_l:Option Addr × Nat × Nat) (a1_whole:Int):T :=
 .op (bD aB) tA fun r1 =>
 .op (bD ar) tA fun r2 =>
 .op (bD bE) tA fun r3 =>
 .op (iK cF (.agg #[.slice a0_l.1 a0_l.2.1 a0_l.2.2,.int .i64 0,.int .i64 0,.string kE,.int .i64 0,.int .i64 0,.bool false])) tA fun r4 =>
 .out 0 [.int .i64 a1_whole,.pointer (some r1),.pointer (some r2),.pointer (some r3),.pointer (some r4)]
def nk (s1:Int) (s4:Addr) (s5:Addr) (s6:Addr) (s7:Option Addr):T :=
 .join 1 [.b .ptr] (
  .ite ((s1:Int)==0) (
   .op (aa al #[.int .i64 3,.string kE,.int .i64 0,.int .i64 0,.slice none 0 0]) tP fun r5 =>
   .loop 2 [] [] fun x6 =>
    .op (aa aL #[.pointer s7]) (.c (.agg [.int .i64,.str,.int .i64,.int .i64])) fun r7 =>
    .ite ((r7.1:Int) != 10) (
     .draw <|
     .opq (cg (.pointer r5)) tA fun r8 =>
     .opq (am ae (.pointer (some ⟨r8.block,r8.off+5,none⟩))) ai fun r9 =>
     .opl (aa dI #[.pointer s7]) tP fun r10 =>
     .opl (aG ae 1 #[(0,.pointer r10)]) ai fun r11 =>
     .opl (cW #[ae,ae] ae #[.slice r9.1 r9.2.1 r9.2.2,.slice r11.1 r11.2.1 r11.2.2]) ai fun r12 =>
     .opq (cg (.pointer r5)) tA fun r13 =>
     .op (a7 ae (.pointer (some ⟨r13.block,r13.off+5,none⟩)) (.slice r12.1 r12.2.1 r12.2.2)) tU fun _ =>
     .out 2 []) (
     .out 1 [.pointer r5])) (
   .ite ((s1:Int)==1) (
    .op (aa bS #[.pointer s7]) tP fun r15 =>
    .out 1 [.pointer r15]) (
    .ite ((s1:Int)==2) (
     .op (aa cI #[.pointer s7]) tP fun r16 =>
     .out 1 [.pointer r16]) (
     .out 1 [.pointer none])))) fun x17 =>
 .op (aa aL #[.pointer s7]) (.c (.agg [.int .i64,.str,.int .i64,.int .i64])) fun r18 =>
 .join 1 [] (
  .ite ((r18.1:Int) != 10) (
   .op (aa cY #[.pointer s7]) tU fun _ =>
   .out 1 []) (
   .out 1 [])) fun x20 =>
 .op (aa mT #[.pointer x17.1]) (.c (.agg [.slice])) fun r21 =>
 .op (a7 aB (.pointer (some s4)) (.agg #[.slice r21.1.1 r21.1.2.1 r21.1.2.2])) tU fun _ =>
 .op (a7 ar (.pointer (some s5)) (.int .i64 0)) tU fun _ =>
 .op (a7 bE (.pointer (some s6)) (.bool true)) tU fun _ =>
 .out 0 []
theorem Ak (a0_l:Option Addr × Nat × Nat) (a1_whole:Int):den Tryz.prog (NN.of 48) #[] (cO Tryz.f53).lft qm 1 (eR [.slice a0_l.1 a0_l.2.1 a0_l.2.2,.int .i64 a1_whole]) (fun e=>den Tryz.prog (NN.of 48) #[] (cO Tryz.f53).rgt.lft ql 1 e (gG 0 [1,4,5,6,7]) (fun _ _=>.bad)) (fun _ _=>.bad)=mP a0_l a1_whole:=by kernel_rfl
theorem Ac (s1:Int) (s4:Addr) (s5:Addr) (s6:Addr) (s7:Option Addr) (D:List Deferred) (K:Nat→Value):den Tryz.prog ⟨7,48,D,K,none⟩ #[] (cO Tryz.f53).rgt.rgt.rgt p5 1 (Env.puts (fun _=>none) [1,4,5,6,7] [.int .i64 s1,.pointer (some s4),.pointer (some s5),.pointer (some s6),.pointer s7]) (fun _=>.out 0 []) (fun ex _=>match ex with | .ret=>.out 0 [] | _=>.bad)=nk s1 s4 s5 s6 s7:=by kernel_rfl
theorem As (a0_l:Option Addr × Nat × Nat) (a1_whole:Int) {w:World} {R:Ending→World→Prop} {Mid:List Value→World→Prop} (hsh:∀ vs w',Mid vs w'→∃ (s1:Int) (s4:Addr) (s5:Addr) (s6:Addr) (s7:Option Addr),vs=[.int .i64 s1,.pointer (some s4),.pointer (some s5),.pointer (some s6),.pointer s7])
  (h1:(mP a0_l a1_whole).wp Tryz.prog (fun _=>True) (fun _ vs w'=>Mid vs w') (fun _ _=>False) w)
  (h2:∀ (s1:Int) (s4:Addr) (s5:Addr) (s6:Addr) (s7:Option Addr) w',Mid [.int .i64 s1,.pointer (some s4),.pointer (some s5),.pointer (some s6),.pointer s7] w'→(nk s1 s4 s5 s6 s7).wp Tryz.prog (fun _=>True) (fun _ _ w''=>k6 Tryz.prog 83 #[.pointer (some s4),.pointer (some s5),.pointer (some s6)] #[.c (.pointer (some s4)) aB,.c (.pointer (some s5)) ar,.c (.pointer (some s6)) bE] R .returning w'') (fun en w''=>match en with | .panicked c=>k6 Tryz.prog 83 #[.pointer (some s4),.pointer (some s5),.pointer (some s6)] #[.c (.pointer (some s4)) aB,.c (.pointer (some s5)) ar,.c (.pointer (some s6)) bE] R (.panicking c) w'' | _=>False) w') :
  Calls Tryz.prog oq #[.slice a0_l.1 a0_l.2.1 a0_l.2.2,.int .i64 a1_whole] w R:=by
 refine zv (args:=[.slice a0_l.1 a0_l.2.1 a0_l.2.2,.int .i64 a1_whole]) (c1:=(cO Tryz.f53).lft) (c2:=(cO Tryz.f53).rgt.lft) (c3:=(cO Tryz.f53).rgt.rgt.rgt) (lo:=7) (slots:=[1,4,5,6,7]) (t:=12) (an1:=qm) (an2:=ql) (an3:=p5) (Mid:=Mid) Tryz.func53 Tryz.func83 rfl rfl rfl rfl rfl rfl rfl rfl rfl (Nat.le_of_ble_eq_true rfl) (by decide) (Nat.le_of_ble_eq_true rfl) (by kernel_rfl) (by kernel_rfl) ?_ ?_
 ·have e:=Ak a0_l a1_whole
  exact e▸h1
 ·rintro vs w' hM ⟨lo,hi,D,K,rd⟩ hlo hhi hrd
  obtain ⟨s1,s4,s5,s6,s7,rfl⟩:=hsh vs w' hM
  obtain rfl:lo=7:=hlo
  obtain rfl:hi=48:=hhi
  obtain rfl:rd=none:=hrd
  have e:=Ac s1 s4 s5 s6 s7 D K
  have ec:Array.map (Env.at (Env.puts (fun _=>none) [1,4,5,6,7] [.int .i64 s1,.pointer (some s4),.pointer (some s5),.pointer (some s6),.pointer s7])) #[Operand.tmp 4,Operand.tmp 5,Operand.tmp 6]=#[.pointer (some s4),.pointer (some s5),.pointer (some s6)]:=by kernel_rfl
  have er:Array.map (il (Env.puts (fun _=>none) [1,4,5,6,7] [.int .i64 s1,.pointer (some s4),.pointer (some s5),.pointer (some s6),.pointer s7])) Tryz.f53.results=#[.c (.pointer (some s4)) aB,.c (.pointer (some s5)) ar,.c (.pointer (some s6)) bE]:=by kernel_rfl
  rw [ec,er]
  exact e▸h2 s1 s4 s5 s6 s7 w' hM
end
end Go.Proofs.YtjlgcpgjdgeejaaGreatDoor
end

section
namespace Go.Proofs.YtjlgcpgjdgeejaaGreatDoor
open Go
set_option linter.unusedSimpArgs false
set_option linter.unusedVariables false
set_option linter.constructorNameAsVariable false
set_option maxRecDepth 100000
def Ey (J:List Value→ak→Fact):Label Unit Unit Empty:={ ι:=Unit,sp:=fun _ _=>some (.err ()),J:=fun _ vs L'=>J vs L' }
abbrev Is (P:Program) (J:List Value→ak→Fact) (q:Option Quiet) (m:T) (L:ak) (Γ:List Fact):Prop :=
 SimAt P (I0:aN Unit Unit) tU (fun (b:Empty) _ _=>b.elim) ((noLabel:Labels Unit Unit Empty).set 0 (Ey J)) q m (some (.err ())) L Γ
theorem iz {P:Program} {m:T} {J:List Value→ak→Fact} {L:ak} {Γ:List Fact} {r:fp} {w:World} {F:Heap} {Post:List Value→World→Prop} (h:Is P J none m L Γ) (hΓ:Holds Γ F) (hsp:Split r w L F)
  (hP:∀ vs L' F' w',F.le F'→(J vs L').p F'→Split r w' L' F'→Post vs w'):m.wp P (fun _=>True) (fun _ vs w'=>Post vs w') (fun _ _=>False) w:=by
 refine T.wp_mono m ?_ ?_ (h r w F (.err ()) (fun _=>True) rfl hΓ hsp trivial)
 ·intro l vs w' ho
  by_cases hl:l=0
  ·subst hl
   obtain ⟨i,L',F',H',st',h1,h2,h3,h4,h5⟩:=ho
   have hH:H'=[]:=h4
   subst hH
   exact hP vs L' F' w' h1 h3 h5
  ·simp only [Labels.set,if_neg hl,noLabel] at ho
   obtain ⟨i,_⟩:=ho
   exact i.elim
 ·rintro e w' ⟨F',hle,c,hc,he,hS⟩
  exact he
theorem D2 {ε σ β:Type} {P:Program} {I:aN ε σ} {t:Ty} {Rel:β→t.den→ak→Fact} {Δ:Labels ε σ β} {q:Option Quiet} {L L':ak} {Γ:List Fact} {m:T} {run:Option (Res ε σ β)} (hs:L'.Sublist L) (h:SimAt P I t Rel Δ none m run L' Γ):SimAt P I t Rel Δ q m run L Γ :=
 fun r w F res S hs' hF hsp hq=>h r w F res S hs' hF (hsp.sub hs) trivial
theorem ml {P:Program} {J:List Value→ak→Fact} {q:Option Quiet} {vs:List Value} {L:ak} {Γ:List Fact} (h:∀ F,Holds Γ F→(J vs L).p F):Is P J q (.out 0 vs) L Γ:=by
 have:=rW (P:=P) (I:=(I0:aN Unit Unit)) (t:=tU) (Rel:=fun (b:Empty) _ _=>b.elim) (Δ:=(noLabel:Labels Unit Unit Empty).set 0 (Ey J)) (q:=q) (L:=L) (Γ:=Γ) (vs:=vs) (l:=0) (run:=some (.err ())) (x:=Ey J) (st:=()) (H:=[]) rfl () rfl h (fun _ _=>rfl)
 exact this
def Cf (P:Program) (t:TypeId):Bool:=match P.underlying t with
 | some (.interface _)=>false
 | some _=>true
 | none=>false
theorem FV {P:Program} {t xt:TypeId} {v:Value} (ht:Cf P t=true) (w:World):(Ih (.iface t v) xt t true).run P w=.ok (.value (.tuple #[v,.bool true])) w:=by
 unfold Cf at ht
 split at ht
 ·cases ht
 ·rename_i d hd hu
  have:(Instr.typeAssert (.iface t v) xt t true).run P w=.ok (.tuple #[v,.bool true]) w:=by
   unfold Instr.typeAssert
   rw [Sem.run_bind,run_underlying hu,Result.andThen_ok]
   cases d<;>first | (exact absurd rfl (hd _)) | simp
  simp [Ih,cG,this]
 ·cases ht
def sN (P:Program) (t:TypeId):Bool:=match P.underlying t with
 | some (.interface _)=>true
 | _=>false
theorem sk {P:Program} {t:TypeId} (h:sN P t=true):∃ ms,P.underlying t=some (.interface ms):=by
 unfold sN at h
 split at h
 ·exact ⟨_,by assumption⟩
 ·cases h
theorem vm {P:Program} {t:TypeId} (ht:sN P t=true) (w:World):(sK .eql t .nilIface .nilIface).run P w=.ok (.value (.bool true)) w:=by
 obtain ⟨ms,hu⟩:=sk ht
 have h:(Op.equal t .nilIface .nilIface).run P w=.ok true w:=by
  unfold Op.equal
  rw [show Op.maxDepth=9999+1 from rfl,Op.equalIn]
  rw [Sem.run_bind,run_underlying hu,Result.andThen_ok]; rfl
 simp [sK,cG,eqGuard,binOp,h]
theorem v6 {P:Program} {t t1:TypeId} {v:Value} (ht:sN P t=true) (w:World):(sK .eql t (.iface t1 v) .nilIface).run P w=.ok (.value (.bool false)) w:=by
 obtain ⟨ms,hu⟩:=sk ht
 have h:(Op.equal t (.iface t1 v) .nilIface).run P w=.ok false w:=by
  unfold Op.equal
  rw [show Op.maxDepth=9999+1 from rfl,Op.equalIn]
  rw [Sem.run_bind,run_underlying hu,Result.andThen_ok]; rfl
 simp [sK,cG,eqGuard,binOp,h]
theorem EN (b2:Nat) (w:World):CallsD PG 266 #[.pointer (some (aR b2))] .returning w fun e u2 w'=>e=.returned (.tuple #[])∧u2=.returning∧w'=w:=by
 refine nw (aR b2) (Post:=fun w'=>w'=w) (.inl ⟨rfl,rfl,rfl⟩) ?_
 unfold gF
 simp only [T.wp,vm (P:=PG) (t:=gY) (by kernel_rfl),e8]
 exact ⟨true,rfl,fun _=>trivial,fun h=>by cases h⟩
theorem Cu {r:fp} {w:World} {L:ak} {F:Heap} (b2:Nat) (y:Int) (x:Bool) (hsp:Split r w ((b2,ap bE [.bool x])::L) F) :
  CallsD PG 266 #[.pointer (some (aR b2))] (.panicking [{ v:=.iface bO (.agg #[.int .i64 y]),recovered:=false }]) w fun e u2 w' =>
   e=.returned (.tuple #[])∧u2=.panicking [{ v:=.iface bO (.agg #[.int .i64 y]),recovered:=true }]∧∃ F',F.le F'∧Split r w' ((b2,ap bE [.bool false])::L) F':=by
 refine nw (aR b2) (Post:=fun w'=>∃ F',F.le F'∧Split r w' ((b2,ap bE [.bool false])::L) F') (.inr ⟨[],rfl,rfl⟩) ?_
 unfold gF
 refine iz (J:=fun vs L'=>Fact.prop (L'=(b2,ap bE [.bool false])::L)) (Γ:=[]) ?_ (fun _ h=>nomatch h) hsp (fun vs L' F' w' hle hJ hS=>⟨F',hle,(show L'=_ from hJ)▸hS⟩)
 refine bA (eG (t1:=tB) false fun w=>v6 (by kernel_rfl) w) ?_
 rintro _ _ _ ⟨rfl,rfl,rfl⟩
 refine kZ (fun h=>by cases h) (fun _=>?_)
 refine bA (eG (t1:=.tup [.agg [.int .i64],.b .bool]) ((y,()),true,()) fun w=>FV (by kernel_rfl) w) ?_
 rintro _ _ _ ⟨rfl,rfl,rfl⟩
 refine kZ (fun _=>?_) (fun h=>by cases h)
 refine bA (bT (z:=[.int .i64 0]) (by kernel_rfl)) ?_
 rintro _ _ _ ⟨b3,rfl,rfl,rfl⟩
 refine bA (br (L1:=[]) (T:=bO) (c:=true) rfl (by kernel_rfl) rfl (Nat.le_of_ble_eq_true rfl) (by simp [Value.cells,Value.oneCell'])) ?_
 rintro _ _ _ ⟨rfl,rfl⟩
 refine bA (br (L1:=[_]) (T:=bE) (c:=false) rfl (by kernel_rfl) rfl (Nat.le_of_ble_eq_true rfl) (by simp [Value.cells,Value.oneCell'])) ?_
 rintro _ _ _ ⟨rfl,rfl⟩
 exact D2 (L':=(b2,ap bE [.bool false])::L) (List.sublist_cons_self ..) (ml fun F hF=>rfl)
theorem FB {r:fp} {w:World} {L:ak} {F:Heap} (h:Split r w L F):Split r w (L++[]) F:=by rw [List.append_nil]; exact h
theorem rR (R:a6) (st:PSt):jH R st=match (eY R>>=fun _=>dS k_lp) st with | none=>none | some (.err _)=>some (Res.ok false st) | some (.ok b _)=>some (Res.ok b st):=rfl
theorem Es {R:a6} (hR:cJ R) (pb:Nat):Meets PG (PI pb) (aa k9 #[.pointer (some (aR pb))]) tB (jH R) bm []:=by
 intro r w F H st res hs hΓ hi hsp
 obtain ⟨sl,T0,⟨hH,hok⟩,hsl⟩:=hi
 subst hH
 rw [fK Tryz.func258 rfl rfl]
 refine Calls.mono (xa (aR pb) (Mid:=fun vs w'=>∃ b2 b3 F',F.le F'∧vs=[.pointer (some (aR b2)),.pointer (some (aR b3))]∧Split r w' [(b3,ap cF (bF sl st)),(b2,ap bE [.bool false]),(pb,ap T0 (bF sl st))] F')
  (R:=fun e w'=>match e with | .returned v=>Ends (PI pb) tB (pl bm) r F res (.returned v) w' | .panicked c=>Ends (PI pb) tB (pl bm) r F res (.panicked c) w' | .outgrown=>False) ?_ ?_ ?_) (fun e w' h=>by cases e<;>exact h)
 ·rintro vs w' ⟨b2,b3,F',_,rfl,_⟩; exact ⟨_,_,rfl⟩
 ·-- the copy
  unfold kH
  refine iz (J:=fun vs L'=>Fact.ex fun b2:Nat=>Fact.ex fun b3:Nat=>Fact.prop (vs=[.pointer (some (aR b2)),.pointer (some (aR b3))]∧L'=[(b3,ap cF (bF sl st)),(b2,ap bE [.bool false]),(pb,ap T0 (bF sl st))])) (Γ:=[Sl 4 aP sl st.l]) (L:=[(pb,ap T0 (bF sl st))]) ?_ (Holds.cons hsl fun _ h=>nomatch h) hsp ?_
  ·refine bA (bT (z:=[.bool false]) (by kernel_rfl)) ?_
   rintro _ _ _ ⟨b2,rfl,rfl,rfl⟩
   refine bA (f5 (bs:=[.slice,.int .i64,.int .i64,.str,.int .i64,.int .i64,.bool]) (x:=(sl,(st.i:Int),st.left.1,st.left.2.1,st.left.2.2.1,st.left.2.2.2.1,st.split,())) (Rd.own (List.mem_cons_of_mem _ (List.mem_cons_self ..))) (by kernel_rfl) rfl rfl) ?_
   rintro _ _ _ ⟨rfl,rfl,rfl⟩
   refine bA (bT (z:=[.slice none 0 0,.int .i64 0,.int .i64 0,.string kE,.int .i64 0,.int .i64 0,.bool false]) (by kernel_rfl)) ?_
   rintro _ _ _ ⟨b3,rfl,rfl,rfl⟩
   refine bA (br (L1:=[]) (T:=cF) (c:=true) rfl (by kernel_rfl) rfl (Nat.le_of_ble_eq_true rfl) (by simp [Value.cells,Value.oneCell'])) ?_
   rintro _ _ _ ⟨rfl,rfl⟩
   exact ml fun F hF=>⟨b2,b3,rfl,rfl⟩
  ·rintro vs L' F' w' hle ⟨b2,b3,rfl,rfl⟩ hS
   exact ⟨b2,b3,F',hle,rfl,hS⟩
 ·rintro s2 s3 w1 ⟨b2,b3,F1,hle1,hv,hS⟩
  obtain rfl:s2=aR b2:=by have:=(List.cons.inj hv).1; cases this; rfl
  obtain rfl:s3=aR b3:=by have:=(List.cons.inj (List.cons.inj hv).2).1; cases this; rfl
  have hS1:Split r w1 ([(b3,ap cF (bF sl st))]++[(b2,ap bE [.bool false]),(pb,ap T0 (bF sl st))]) F1:=hS
  have hinv1:((PI b3).inv st [(b3,ap cF (bF sl st))]).p F1:=⟨sl,cF,⟨rfl,hok⟩,(Sl 4 aP sl st.l).mono _ _ hle1 hsl⟩
  have fin:∀ (c:Bool) (w2:World) (F2:Heap),res=.ok c st→F.le F2→Split r w2 [(b2,ap bE [.bool c]),(pb,ap T0 (bF sl st))] F2 →
    ∃ v,(dw #[.c (.pointer (some (aR b2))) bE]).run PG w2=.ok v w2∧Ends (PI pb) tB (pl bm) r F res (.returned v) w2:=by
   intro c w2 F2 hres hle2 hS2
   refine ⟨.bool c,?_,F2,hle2,?_⟩
   ·have hb:=hS2.own b2 _ (List.mem_cons_self ..)
    obtain ⟨n,hsh⟩:=eV (P:=PG) (t:=bE) (by kernel_rfl)
    simp [dw,RV.sem,asAddr,j7 hsh (a:=aR b2) hb rfl rfl]
   ·subst hres
    exact ⟨[(pb,ap T0 (bF sl st))],[],c,rfl,⟨sl,T0,⟨rfl,hok⟩,(Sl 4 aP sl st.l).mono _ _ hle2 hsl⟩,hS2.sub (List.sublist_cons_self ..),rfl,rfl⟩
  unfold kv
  simp only [T.wp]
  cases hres1:eY R st with
  | none =>
   have:jH R st=none:=by
    have e:(eY R>>=fun _=>dS k_lp) st=none:=by show Sp.bind _ _ st=none; simp [Sp.bind,hres1]
    rw [rR,e]
   rw [this] at hs; cases hs
  | some res1 =>
   refine bR ?_ ?_ _ (mm hR b3 (Split.give r [(b2,ap bE [.bool false]),(pb,ap T0 (bF sl st))]) w1 F1 _ st res1 hres1 (fun _ h=>nomatch h) hinv1 hS1.out)
   ·rintro v w2 ⟨F2,hle2,h⟩
    cases res1 with
    | err y=>obtain ⟨c,hc,_⟩:=h; cases hc
    | ok b st1 =>
     obtain ⟨H2,K2,x,hx,hinv2,hS2,hK2,hR2⟩:=h
     cases hx
     have hK2':K2=[]:=hK2
     subst hK2'
     refine ⟨x,rfl,?_⟩
     rw [List.append_nil] at hS2
     have hres:res=.ok (cB st1.now k_lp) st:=by
      have e:jH R st=some (.ok (cB st1.now k_lp) st):=by
       have e:(eY R>>=fun _=>dS k_lp) st=some (.ok (cB st1.now k_lp) st1):=by show Sp.bind _ _ st=_; simp only [Sp.bind,hres1]; rfl
       rw [rR,e]
      rw [e] at hs; cases hs; rfl
     refine bR ?_ ?_ _ (cr b3 k_lp (Split.give r [(b2,ap bE [.bool false]),(pb,ap T0 (bF sl st))]) w2 F2 _ st1 (.ok (cB st1.now k_lp) st1) rfl (fun _ h=>nomatch h) hinv2 hS2)
     ·rintro v w3 ⟨F3,hle3,H3,K3,x3,hx3,hinv3,hS3,hK3,hR3⟩
      cases hx3
      have hK3':K3=[]:=hK3
      have hR3':x3=cB st1.now k_lp:=hR3
      subst hK3'; subst hR3'
      rw [List.append_nil] at hS3
      refine ⟨_,rfl,?_⟩
      have hS4:=Split.back hS1 hS3
      have hb2:=hS4.own b2 _ (List.mem_append_right _ (List.mem_cons_self ..))
      obtain ⟨n,hsh⟩:=eV (P:=PG) (t:=bE) (by kernel_rfl)
      have hst:=B7 (P:=PG) (a:=aR b2) (T:=bE) (c:=false) (v:=.bool (cB st1.now k_lp)) (by kernel_rfl) hb2 rfl (Nat.le_of_ble_eq_true rfl) (by simp [Value.cells,Value.oneCell'])
      rw [hst]
      refine ⟨(),rfl,?_⟩
      have hS5:Split r (w3.setRow b2 (bW [.bool false] 0 [.bool (cB st1.now k_lp)]).toArray) (H3++([]++(b2,ap bE (bW [.bool false] 0 [.bool (cB st1.now k_lp)]))::[(pb,ap T0 (bF sl st))])) F3:=Split.setRow (L1:=[]) (L2:=[(pb,ap T0 (bF sl st))]) hS4
      refine CallsD.mono (EN b2 _) ?_
      rintro e u' w4 ⟨rfl,rfl,rfl⟩
      exact ⟨_,rfl,fin _ _ F3 hres (hle1.trans (hle2.trans hle3)) (hS5.sub (List.sublist_append_right ..))⟩
     ·rintro c w3 ⟨F3,hle3,H3,K3,x3,hx3,_⟩; cases hx3
   ·rintro c w2 ⟨F2,hle2,h⟩
    cases res1 with
    | ok b st1=>obtain ⟨_,_,_,hx,_⟩:=h; cases hx
    | err y =>
     obtain ⟨c',hc,hy,hS2⟩:=h
     cases hc
     have hy':c=[{ v:=.iface bO (.agg #[.int .i64 y]),recovered:=false }]:=hy
     subst hy'
     have hres:res=.ok false st:=by
      have e:jH R st=some (.ok false st):=by
       have e:(eY R>>=fun _=>dS k_lp) st=some (.err y):=by show Sp.bind _ _ st=_; simp only [Sp.bind,hres1]
       rw [rR,e]
      rw [e] at hs; cases hs; rfl
     have hS3:Split r w2 [(b2,ap bE [.bool false]),(pb,ap T0 (bF sl st))] F2:=Split.back (L:=[(b2,ap bE [.bool false]),(pb,ap T0 (bF sl st))]) hS1 hS2
     refine CallsD.mono (Cu b2 y false hS3) ?_
     rintro e u' w4 ⟨rfl,rfl,F4,hle4,hS4⟩
     exact ⟨_,rfl,fin false _ F4 hres (hle1.trans (hle2.trans hle4)) hS4⟩
end Go.Proofs.YtjlgcpgjdgeejaaGreatDoor
end

section
namespace Go.Proofs.YtjlgcpgjdgeejaaGreatDoor
open Go
set_option linter.unusedSimpArgs false
set_option linter.unusedVariables false
set_option linter.constructorNameAsVariable false
theorem Agree.start {n:NN} {a:Act} (hd:oZ n a) (hs:a.tmps.size=n.hi):Agree n (fun _=>none) a:=⟨hd,hs,fun i v h=>by cases h⟩
def lA:Exit→Env→T:=fun _ _=>.bad
def sR:Env→T:=fun _=>.out 0 []
def Bf:Exit→Env→T:=fun ex _=>match ex with
 | .ret=>.out 1 []
 | _=>.bad
def Bz (l:Nat) (K:Value→World→Prop) (i:Nat) (w:World):Prop :=
 ∃ r:Loop,w.heap[l]? = some (.loop r)∧(if i=0 then K (.bool true) (w.putObj l (.loop { r with state:=.ready,pending:=none })) else K (.bool false) (w.putObj l (.loop { r with state:=.done,pending:=some .ret })))
theorem Ds {P:Program} {l f nt:Nat} {tmps:Array Value} {asn bd:Code} {w:World} {K:Value→World→Prop} {N:List PanicEntry→World→Prop} {e:Env} {anA anB:An} {slots:List Nat} {S:World→Prop} {Φ:Outs} (hsz:tmps.size=nt)
  (he:∀ i v,e i=some v→tmps.getD i undef=v.val)
  (h:(den P ⟨0,nt,[],fun _=>undef,some l⟩ #[] asn anA 1 e (gG 0 slots) lA).wp P S (fun _ vs w1=>∃ r:Loop,w1.heap[l]? = some (.loop r)∧r.state=.ready ∧
   (den P ⟨0,nt,[],fun _=>undef,some l⟩ #[] bd anB 2 (Env.puts (fun _=>none) slots vs) sR Bf).wp P (fun _=>True) (fun i _ w2=>Bz l K i w2) (fun _ _=>False) (w1.putObj l (.loop { r with state:=.busy }))) (fun _ _=>False) w) :
  RoundIn Fence.wide 0 P l f tmps asn bd w fun
   | .returned v,w'=>K v w'
   | .panicked c,w'=>N c w'
   | .outgrown,_=>False:=by
 refine roundIn_of_wpIn (F:=Fence.wide) trivial ?_
 let n0:NN:=⟨0,nt,[],fun _=>undef,some l⟩
 have hA:Agree n0 e { tmps:=tmps,defers:=[] }:=⟨⟨rfl,fun i hi=>absurd hi (Nat.not_lt_zero i)⟩,hsz,he⟩
 refine Code.wpIn_mono (Q:=fun ex a' w'=>match ex with
  | .normal=>∃ w₂,(Instr.beginRound l).run P w'=.ok () w₂∧bd.wpIn (Fence.wide.inRound l) 0 P (roundPost P l fun
   | .returned v,w'=>K v w'
   | .panicked c,w'=>N c w'
   | .outgrown,_=>False) a' w₂
  | _=>False) (fun ex a' w' hq=>by cases ex<;>first | exact hq | exact hq.elim) ((iy asn).1 anA 1 e (gG 0 slots) lA _ w _ S _ h hA ?_ ?_ ?_ ?_)
 ·intro Φ1 S1 e1 a1 w1 hb1 ha1 hs1 hx1
  obtain ⟨vs,hg,ho⟩:=iU hx1
  rw [hb1 0 (Nat.lt_succ_self 0)] at ho
  obtain ⟨r,hr,hst,ht⟩:=ho
  refine ⟨_,run_beginRound hr hst,?_⟩
  have hA1:Agree n0 (Env.puts (fun _=>none) slots vs) a1:=Agree.puts ha1 slots vs _ (Agree.start ha1.defers ha1.size) hg
  refine (iy bd).1 anB 2 _ sR Bf a1 _ _ _ _ ht hA1 ?_ ?_ ?_ ?_
  ·intro Φ2 S2 e2 a2 w2 hb2 ha2 hs2 hx2
   have hx3:(T.out 0 []).wp P S2 Φ2 (fun _ _=>False) w2:=hx2
   simp only [T.wp] at hx3
   rw [hb2 0 (by decide)] at hx3
   obtain ⟨r2,hr2,hk⟩:=hx3
   rw [if_pos rfl] at hk
   refine ⟨_,_,run_endRound none hr2,?_⟩
   exact hk
  ·intro Φ2 S2 ex e2 a2 w2 hne hb2 ha2 hs2 hx2
   cases ex with
   | ret =>
    have hx3:(T.out 1 []).wp P S2 Φ2 (fun _ _=>False) w2:=hx2
    simp only [T.wp] at hx3
    rw [hb2 1 (by decide)] at hx3
    obtain ⟨r2,hr2,hk⟩:=hx3
    rw [if_neg (by decide)] at hk
    refine ⟨_,_,run_endRound (some .ret) hr2,?_⟩
    exact hk
   | normal=>exact absurd rfl hne
   | _=>simp only [Bf,T.wp] at hx2
  ·intro c a w' _ h; exact h.elim
  ·intro c a d v w' _ h; exact h
 ·intro Φ2 S2 ex e2 a2 w2 hne hb2 ha2 hs2 hx2
  simp only [lA,T.wp] at hx2
 ·intro c a w' _ h; exact h.elim
 ·intro c a d v w' _ h; exact h
def _root_.Go.Code.inB:Code→Code
 | .block _ c=>c
 | c=>c
theorem Gx {ps:Array Tmp} {vs:Array Value} {tmps:Array Value}:((ps.zip vs).foldl (fun t (p,v)=>t.setIfInBounds p v) tmps).size=tmps.size:=by
 rw [← Array.foldl_toList]
 generalize (ps.zip vs).toList=l
 induction l generalizing tmps with
 | nil=>rfl
 | cons x l ih=>simp only [List.foldl_cons]; rw [ih]; simp
theorem Fa {e:Env} {tmps:Array Value} (ps:List Tmp) (vs:List Value) (hnd:ps.Nodup) (hlt:ps.all (fun p=>decide (p < tmps.size))=true) (hag:∀ s v,e s=some v→tmps.getD s undef=v.val) :
  ∀ s v,Env.puts e ps vs s=some v→((ps.toArray.zip vs.toArray).foldl (fun t (p,v)=>t.setIfInBounds p v) tmps).getD s undef=v.val:=by
 rw [← Array.foldl_toList]
 have hz:(ps.toArray.zip vs.toArray).toList=ps.zip vs:=by simp
 rw [hz]
 clear hz
 induction ps generalizing vs tmps e with
 | nil=>intro s v h; simpa [Env.puts] using hag s v (by simpa [Env.puts] using h)
 | cons p ps ih =>
  cases vs with
  | nil=>intro s v h; simpa [Env.puts] using hag s v (by simpa [Env.puts] using h)
  | cons x vs =>
   simp only [List.zip_cons_cons,List.foldl_cons]
   simp only [List.all_cons,Bool.and_eq_true,decide_eq_true_eq] at hlt
   refine ih (e:=e.putE p (.v x)) vs (List.nodup_cons.1 hnd).2 ?_ ?_
   ·simpa using hlt.2
   ·intro s v h
    by_cases hs:s=p
    ·subst hs
     rw [iB] at h; cases h
     simp [Array.getD_eq_getD_getElem?,hlt.1,EV.val]
    ·rw [jd e _ hs] at h
     have:=hag s v h
     rw [← this]
     simp [Array.getD_eq_getD_getElem?,Array.getElem?_setIfInBounds_ne (Ne.symm hs)]
def _root_.Go.Code.rAs:Code→Code
 | .rangeFunc _ _ a _=>a
 | _=>.skip
def _root_.Go.Code.rBd:Code→Code
 | .rangeFunc _ _ _ b=>b
 | _=>.skip
def B9 (slots:List Nat) (lo:Nat):ResultVar→Bool
 | .tmp s=>slots.contains s&&Nat.blt s lo
 | .cell s _=>slots.contains s&&Nat.blt s lo
def yx (P:Program) (rs:Array RV) (D:Nat) (R:Ending→World→Prop) (w:World):Prop :=
 w.heap[D]? = some (.deferred (some []))∧∃ v,(dw rs).run P (w.putObj D (.deferred none))=.ok v (w.putObj D (.deferred none))∧R (.returned v) (w.putObj D (.deferred none))
theorem Fq {P:Program} {f:FuncId} {fn:Func} {c1 c2 c3 c4 asn bd:Code} {bi:Nat} {g:Tmp} {ps:Array Tmp} {args:List Value} {w:World} {R:Ending→World→Prop} {lo:Nat}
  {slots:List Nat} {an1 an2 an3 an4:An} {Mid:List Value→World→Prop} (hf:P.funcs[f]? = some fn) (hb:fn.body=some (.seq c1 (.seq c2 (.seq (.seq c3 (.block bi (.rangeFunc (.tmp g) ps asn bd))) c4))))
  (hn:args.length≤fn.ntmps) (hgs:slots.contains g=true) (hres:fn.results.all (B9 slots lo)=true)
  (h1:(den P (NN.of fn.ntmps) #[] c1 an1 1 (eR args) (fun e=>den P (NN.of fn.ntmps) #[] c2 an2 1 e (fun e=>den P (NN.of fn.ntmps) #[] c3 an3 1 e (gG 0 slots) lA) lA) lA).wp P (fun _=>True) (fun _ vs w'=>Mid vs w') (fun _ _=>False) w)
  (h2:∀ vs w',Mid vs w'→∃ gf lb,(Env.puts (fun _=>none) slots vs g=some (.v (.func (.func gf) #[] lb)))∧(∀ args w,(callFunc gf args).run P w=.ok (.enter gf args) w) ∧
   ∀ (tmps:Array Value) (fid:FuncId),tmps.size=fn.ntmps→(∀ s v,Env.puts (fun _=>none) slots vs s=some v→tmps.getD s undef=v.val) →
    Calls P gf (#[.func (.yield (w'.heap.size+1)) #[] #[]]++lb) ((w'.alloc (.deferred (some []))).alloc (.loop { state:=.ready,pending:=none,fn:=fid,tmps:=tmps,params:=ps,assign:=asn,body:=bd,defers:=w'.heap.size })) fun e w3 =>
     ∃ v r,e=.returned v∧w3.heap[w'.heap.size+1]? = some (.loop r)∧r.state≠.busy ∧
      ((r.pending=none∧∀ N:NN,N.lo=lo→N.hi=fn.ntmps→N.rd=none→(den P N #[] c4 an4 1 (Env.puts (fun _=>none) slots vs) sR (fun ex _=>match ex with | .ret=>.out 0 [] | _=>.bad)).wp P (fun _=>True)
        (fun _ _ w5=>yx P (fn.results.map (il (Env.puts (fun _=>none) slots vs))) w'.heap.size R w5) (fun _ _=>False) (w3.putObj (w'.heap.size+1) (.loop { r with state:=.exhausted }))) ∨
       (r.pending=some .ret∧yx P (fn.results.map (il (Env.puts (fun _=>none) slots vs))) w'.heap.size R (w3.putObj (w'.heap.size+1) (.loop { r with state:=.exhausted }))))) :
  Calls P f args.toArray w R:=by
 refine (callsIn_wide (n:=0)).1 (callsIn_of_wp_marks hf hb trivial ?_)
 have hW:(FW none)=Fence.wide:=rfl
 refine wpIn_seq (Code.wpIn_mono (Q:=fun ex a' w'=>match ex with
  | .normal=>(Code.seq c2 (.seq (.seq c3 (.block bi (.rangeFunc (.tmp g) ps asn bd))) c4)).wpIn Fence.wide 0 P (bodyPostM Fence.wide 0 P fn R) a' w'
  | _=>False) (fun ex a' w' h=>by cases ex<;>first | exact h | exact h.elim) ((iy c1).1 an1 1 (eR args) _ _ _ w _ _ _ h1 ?_ ?_ ?_ ?_ ?_))
 ·have hsz:fn.ntmps - args.length+args.length=fn.ntmps:=by omega
  refine ⟨⟨rfl,fun i hi=>absurd hi (Nat.not_lt_zero i)⟩,by simp [NN.of]; omega,fun i v hv=>?_⟩
  simp only [eR,Option.map_eq_some_iff] at hv
  obtain ⟨x,hx,rfl⟩:=hv
  have hi:i < args.length:=by
   rcases Nat.lt_or_ge i args.length with h' | h'
   ·exact h'
   ·simp [List.getElem?_eq_none h'] at hx
  have hx':args[i]=x:=by simpa [List.getElem?_eq_getElem hi] using hx
  simp [Array.getD_eq_getD_getElem?,Array.getElem?_append,hi,hx',EV.val]
 ·intro Φ1 S1 e1 a1 w1 hb1 ha1 hs1 hx1
  refine wpIn_seq (Code.wpIn_mono (Q:=fun ex a' w'=>match ex with
   | .normal=>(Code.seq (.seq c3 (.block bi (.rangeFunc (.tmp g) ps asn bd))) c4).wpIn Fence.wide 0 P (bodyPostM Fence.wide 0 P fn R) a' w'
   | _=>False) (fun ex a' w' h=>by cases ex<;>first | exact h | exact h.elim) ((iy c2).1 an2 1 e1 _ _ a1 w1 Φ1 S1 _ hx1 ha1 ?_ ?_ ?_ ?_))
  ·intro Φ2 S2 e2 a2 w2 hb2 ha2 hs2 hx2
   refine wpIn_seq (wpIn_seq (Code.wpIn_mono (Q:=fun ex a' w'=>match ex with
    | .normal=>(Code.block bi (.rangeFunc (.tmp g) ps asn bd)).wpIn Fence.wide 0 P (Exit.then (c4.wpIn Fence.wide 0 P (bodyPostM Fence.wide 0 P fn R)) (bodyPostM Fence.wide 0 P fn R)) a' w'
    | _=>False) (fun ex a' w' h=>by cases ex<;>first | exact h | exact h.elim) ((iy c3).1 an3 1 e2 _ _ a2 w2 Φ2 S2 _ hx2 ha2 ?_ ?_ ?_ ?_)))
   ·intro Φ3 S3 e3 a3 w3 hb3 ha3 hs3 hx3
    obtain ⟨vs,hg,ho⟩:=iU hx3
    rw [hb3 0 (Nat.lt_succ_self 0),hb2 0 (Nat.lt_succ_self 0),hb1 0 (Nat.lt_succ_self 0)] at ho
    obtain ⟨gf,lb,hgv,hcf,hcall⟩:=h2 vs w3 ho
    have hA3:Agree (NN.of fn.ntmps) (Env.puts (fun _=>none) slots vs) a3:=Agree.puts ha3 slots vs _ (Agree.start ha3.defers ha3.size) hg
    refine wpIn_block (wpIn_rangeFunc fun fid _=>?_)
    have hev:a3.eval (.tmp g)=.func (.func gf) #[] lb:=by
     have:=hA3.val g _ hgv
     simpa [Act.eval,EV.val] using this
    have hc:=hcall a3.tmps fid ha3.size hA3.val
    let W1:=(w3.alloc (.deferred (some []))).alloc (.loop { state:=.ready,pending:=none,fn:=fid,tmps:=a3.tmps,params:=ps,assign:=asn,body:=bd,defers:=w3.heap.size })
    refine ⟨w3.heap.size+1,[{ target:=.collected w3.heap.size,args:=#[] }],W1,{ target:=.fn (.func gf) lb,args:=#[.func (.yield (w3.heap.size+1)) #[] #[]] },W1,gf,
     #[.func (.yield (w3.heap.size+1)) #[] #[]]++lb,W1,run_enterLoop_outer _ _ _ _ _,?_,fun f' _=>trivial,?_,fun h=>(by cases h),?_⟩
    ·simp only [resolve,hev]
     simp [Deferred.ofValue,Act.eval]
    ·simp [invoke,hcf]
    refine callsIn_wide.2 (Calls.mono hc fun e w4 he=>?_)
    obtain ⟨v,⟨rst,rpe,rfn,rtm,rps,ras,rbd,rdf⟩,rfl,hl,hbusy,hend⟩:=he
    refine ⟨_,_,run_endLoop hl hbusy,?_⟩
    have hd3:a3.defers=[]:=ha3.defers.1
    let a4:Act:={ a3 with defers:=[{ target:=.collected w3.heap.size,args:=#[] }]++a3.defers }
    have hfin:∀ (a5:Act) (w5:World),a5.defers=[{ target:=.collected w3.heap.size,args:=#[] }]→results fn a5.tmps=dw (fn.results.map (il (Env.puts (fun _=>none) slots vs))) →
      yx P (fn.results.map (il (Env.puts (fun _=>none) slots vs))) w3.heap.size R w5→LeavesInM Fence.wide 0 P fn a5.tmps R a5.defers .returning w5:=by
     rintro a5 w5 hd hr ⟨hD,u,hu,hRu⟩
     rw [hd]
     refine ⟨by simp,.inl ⟨w3.heap.size,_,rfl,run_takeDeferred hD,?_⟩⟩
     exact ⟨u,by rw [hr]; exact hu,hRu⟩
    have hRes:∀ (tm:Array Value),(∀ i,i < lo→tm.getD i undef=a3.tmps.getD i undef)→results fn tm=dw (fn.results.map (il (Env.puts (fun _=>none) slots vs))):=by
     intro tm htm
     refine oJ fun r hr=>?_
     have hro:=Array.all_eq_true_iff_forall_mem.1 hres r hr
     have one:∀ s,slots.contains s=true→s < lo→(Env.puts (fun _=>none) slots vs).at (.tmp s)=tm.getD s undef:=fun s hs hl=>by
      obtain ⟨u,_,g1,_,_⟩:=BQ (b:=fun _=>none) hg s (by simpa using hs)
      rw [htm s hl,hA3.val s u g1]
      simp [Env.at,Env.ev,g1]
     cases r with
     | tmp s=>simp only [B9,Bool.and_eq_true] at hro; exact one s hro.1 (Nat.le_of_ble_eq_true hro.2)
     | cell s ty=>simp only [B9,Bool.and_eq_true] at hro; exact one s hro.1 (Nat.le_of_ble_eq_true hro.2)
    rcases hend with ⟨hp,ht⟩ | ⟨hp,ht⟩
    ·have hp':rpe=none:=hp
     subst hp'
     let N:NN:=⟨lo,fn.ntmps,a4.defers,fun i=>a4.tmps.getD i undef,none⟩
     have hA4:Agree N (Env.puts (fun _=>none) slots vs) a4:=⟨⟨rfl,fun i _=>rfl⟩,ha3.size,hA3.val⟩
     have hkeep:∀ a5,oZ N a5→a5.defers=[{ target:=.collected w3.heap.size,args:=#[] }]∧results fn a5.tmps=dw (fn.results.map (il (Env.puts (fun _=>none) slots vs))):=fun a5 hk =>
      ⟨by rw [hk.1]; show [_]++a3.defers=_; rw [hd3]; rfl,hRes _ fun i hi=>hk.2 i hi⟩
     refine Code.wpIn_mono (fun ex a' w' h=>?_) ((iy c4).1 an4 1 _ sR _ a4 _ _ _ (fun ex a' w'=>match ex with
      | .panic _=>False
      | _=>bodyPostM Fence.wide 0 P fn R ex a' w') (ht N rfl rfl rfl) hA4 ?_ ?_ ?_ ?_)
     ·cases ex<;>first | exact h | exact h.elim
     ·intro Φ4 S4 e4 a5 w5 hb4 ha5 hs5 hx5
      have hx6:(T.out 0 []).wp P S4 Φ4 (fun _ _=>False) w5:=hx5
      simp only [T.wp] at hx6
      rw [hb4 0 (Nat.lt_succ_self 0)] at hx6
      exact hfin a5 w5 (hkeep a5 ha5.defers).1 (hkeep a5 ha5.defers).2 hx6
     ·intro Φ4 S4 ex e4 a5 w5 hne hb4 ha5 hs5 hx5
      cases ex with
      | ret =>
       simp only [T.wp] at hx5
       rw [hb4 0 (Nat.lt_succ_self 0)] at hx5
       exact hfin a5 w5 (hkeep a5 ha5.defers).1 (hkeep a5 ha5.defers).2 hx5
      | normal=>exact absurd rfl hne
      | _=>simp only [T.wp] at hx5
     ·intro c a w' _ h; exact h.elim
     ·intro c a d v w' _ h; exact h
    ·have hp':rpe=some .ret:=hp
     subst hp'
     refine wpIn_ret ?_
     exact hfin a4 _ (by show [_]++a3.defers=_; rw [hd3]; rfl) (hRes _ fun i _=>rfl) ht
   ·intro Φ3 S3 ex e3 a3 w3 hne hb3 ha3 hs3 hx3
    simp only [lA,T.wp] at hx3
   ·intro c a w' _ h; exact h.elim
   ·intro c a d v w' _ h; exact h
  ·intro Φ3 S3 ex e3 a3 w3 hne hb3 ha3 hs3 hx3
   simp only [lA,T.wp] at hx3
  ·intro c a w' _ h; exact h.elim
  ·intro c a d v w' _ h; exact h
 ·intro Φ3 S3 ex e3 a3 w3 hne hb3 ha3 hs3 hx3
  simp only [lA,T.wp] at hx3
 ·intro c a w' _ h; exact h.elim
 ·intro c a d v w' _ h; exact h
end Go.Proofs.YtjlgcpgjdgeejaaGreatDoor
end

section
namespace Go.Proofs.YtjlgcpgjdgeejaaGreatDoor
open Go
set_option linter.unusedSimpArgs false
set_option linter.unusedVariables false
set_option linter.constructorNameAsVariable false
section
variable {ε σ β:Type} {P:Program} {I:aN ε σ} {t:Ty} {Rel:β→t.den→ak→Fact} {Δ:Labels ε σ β} {md:cS} {L:ak} {Γ:List Fact} {st:σ} {run:Option (Res ε σ β)}
theorem KV {ε2 σ2 β1:Type} {I2:aN ε2 σ2} {t1:Ty} {s0:Sem Next} {k:t1.den→T} {s1:Sp ε2 σ2 β1} {Rel1:β1→t1.den→Fact} {Γ1:List Fact} {st2:σ2} {H2 L0:ak} (hm:Meets P I2 s0 t1 s1 Rel1 Γ1) (hΓ1:∀ A∈Γ1,A∈Γ) (hinv:∀ F,Holds Γ F→(I2.inv st2 H2).p F)
  (hn:s1 st2=none→run=none) (he:∀ e,s1 st2≠some (.err e))
  (hk:∀ x b st2' H2',s1 st2=some (.ok b st2')→ay P I t Rel Δ none st (k x) run (H2'++L0) (I2.inv st2' H2'::Rel1 b x::Γ)):ay P I t Rel Δ md st (.op s0 t1 k) run (H2++L0) Γ:=by
 intro H r w F res S hs hΓ hsp hq
 simp only [T.wp]
 have hΓ':Holds Γ F:=fun A hA=>hΓ A (List.mem_cons_of_mem _ hA)
 have hp:∀ X:ak,(X++(H++L0)).Perm (H++(X++L0)):=fun X=>by
  rw [← List.append_assoc,← List.append_assoc]
  exact List.perm_append_comm.append_right L0
 have hsp0:Split r w (H2++(H++L0)) F:=hsp.perm (hp H2)
 cases h1:s1 st2 with
 | none=>rw [hn h1] at hs; cases hs
 | some r1 =>
  cases r1 with
  | err y=>exact absurd h1 (he y)
  | ok b st' =>
   refine bR ?_ ?_ _ (hm (Split.give r (H++L0)) w F H2 st2 (.ok b st') h1 (fun A hA=>hΓ' A (hΓ1 A hA)) (hinv F hΓ') hsp0.out)
   ·rintro v w' ⟨F',hle,H',K1,x,hv,hinv',hS,hK,hR⟩
    cases hv
    have hK':K1=[]:=hK
    subst hK'
    rw [List.append_nil] at hS
    have hS':Split r w' (H'++(H++L0)) F':=Split.back (L:=H++L0) hsp0 hS
    exact ⟨x,rfl,d7 hle (hk x b st' H' h1 H r w' F' res S hs (Holds.cons ((I.inv st H).mono _ _ hle (hΓ _ (List.mem_cons_self ..))) (Holds.cons hinv' (Holds.cons hR (hΓ'.mono hle)))) (hS'.perm (hp H').symm) trivial)⟩
   ·rintro c w' ⟨F',hle,H',K1,x,hv,_⟩; cases hv
theorem sH {δ:Type} {l:Nat} {ts:List C} {vs:List Value} {body:HC ts→T} (f:δ→HC ts) (J:δ→ak→Fact) (sp:Nat→δ→Sp ε σ β) (n0:Nat) (d0:δ) (hv:vs=HC.enc ts (f d0)) (hrun:run=sp n0 d0 st) (hz:∀ d st,sp 0 d st=none) (h0:∀ F,Holds Γ F→(J d0 L).p F)
  (hb:∀ n d L' st,ay P I t Rel (Δ.set l { ι:={ j:Nat × δ // j.1 < n+1 },sp:=fun j=>sp j.1.1 j.1.2,J:=fun j vs L'=>(Fact.prop (vs=HC.enc ts (f j.1.2))).both (J j.1.2 L') }) none st (body (f d)) (sp (n+1) d st) L' (J d L'::Γ)):ay P I t Rel Δ md st (.loop l ts vs body) run L Γ:=by
 subst hv; subst hrun
 refine Gk (s:=sp n0 d0) ?_ rfl
 refine gH (x:={ ι:=Nat × δ,sp:=fun j=>sp j.1 j.2,J:=fun j vs L'=>(Fact.prop (vs=HC.enc ts (f j.2))).both (J j.2 L') }) (fun j=>j.1) (n0,d0) rfl (fun F hF=>⟨rfl,h0 F hF⟩) (fun i vs L' F h=>⟨f i.2,h.1⟩) ?_
 rintro ⟨n,d⟩ L' y
 refine Sim.both (Sim.prop fun h1=>?_)
 obtain rfl:=HC.enc_inj ts _ _ h1
 cases n with
 | zero=>exact c5 fun st=>cZ (hz _ st)
 | succ n=>exact c5 fun st=>hb n d L' st
theorem td {δ:Type} {l n:Nat} {vs:List Value} {ts:List C} {f:δ→HC ts} {J:δ→ak→Fact} {sp:Nat→δ→Sp ε σ β} (d:δ)
  (hx:Δ l={ ι:={ j:Nat × δ // j.1 < n+1 },sp:=fun j=>sp j.1.1 j.1.2,J:=fun j vs L'=>(Fact.prop (vs=HC.enc ts (f j.1.2))).both (J j.1.2 L') }) (hv:vs=HC.enc ts (f d)) (hrun:run=sp n d st) (hJ:∀ F,Holds Γ F→(J d L).p F):ay P I t Rel Δ md st (.out l vs) run L Γ :=
 rS (x:={ ι:={ j:Nat × δ // j.1 < n+1 },sp:=fun j=>sp j.1.1 j.1.2,J:=fun j vs L'=>(Fact.prop (vs=HC.enc ts (f j.1.2))).both (J j.1.2 L') }) ⟨(n,d),Nat.lt_succ_self n⟩ hx hrun fun F hF=>⟨hv,hJ F hF⟩
end
theorem IM {ε σ β:Type} {P:Program} {I:aN ε σ} {t:Ty} {Rel:β→t.den→ak→Fact} {Δ:Labels ε σ β} {q:Option Quiet} {L:ak} {Γ:List Fact} {run:Option (Res ε σ β)}
  {β1:Type} {t1:Ty} {s0:Sem Next} {k:t1.den→T} {b0:β1} {Rel1:β1→t1.den→ak→Fact} {Γ1:List Fact} (hm:MeetsO P (I0:aN ε Unit) s0 t1 (Pure.pure b0:Sp ε Unit β1) Rel1 Γ1) (hΓ1:∀ A∈Γ1,A∈Γ)
  (hk:∀ x K,SimAt P I t Rel Δ none (k x) run (K++L) (Rel1 b0 x K::Γ)):SimAt P I t Rel Δ q (.op s0 t1 k) run L Γ:=by
 intro r w F res S hs hΓ hsp hq
 simp only [T.wp]
 have h0:Split r w ([]++L) F:=hsp
 refine bR ?_ ?_ _ (hm (Split.give r L) w F [] () (.ok b0 ()) rfl (fun A hA=>hΓ A (hΓ1 A hA)) rfl h0.out)
 ·rintro v w' ⟨F',hle,H',K1,x,hv,hinv,hS,hR⟩
  cases hv
  have hH:H'=[]:=hinv
  subst hH
  exact ⟨x,rfl,d7 hle (hk x K1 r w' F' res S hs (Holds.cons hR (hΓ.mono hle)) (by simpa using Split.back h0 hS) trivial)⟩
 ·rintro c w' ⟨F',hle,H',K1,x,hv,_⟩; cases hv
theorem Split.freezeL {r:fp} {w:World}:∀ (K:ak) {H:ak} {F:Heap},Split r w (K++H) F→∃ F',F.le F'∧(∀ p∈K,F' p.1=some p.2)∧Split r w H F'
 | [],H,F,h=>⟨F,Heap.le.refl F,(fun p hp=>nomatch hp),h⟩
 | (b,o)::K,H,F,h=>by
  have h1:Split r w (K++H) (F.ins b o):=Split.freeze h
  obtain ⟨F',h2,h3,h4⟩:=Split.freezeL K h1
  refine ⟨F',(Split.ins_le h).trans h2,fun p hp=>?_,h4⟩
  rcases List.mem_cons.1 hp with rfl | hp
  ·exact h2 _ _ (by simp [Heap.ins])
  ·exact h3 p hp
def Cs (J:Nat→List Value→ak→Fact) (l:Nat):Label Unit Unit Empty:={ ι:=Unit,sp:=fun _ _=>some (.err ()),J:=fun _ vs L=>J l vs L }
def Gs (P:Program) (J:Nat→List Value→ak→Fact) (q:Option Quiet) (m:T) (L:ak) (Γ:List Fact):Prop :=
 SimAt P (I0:aN Unit Unit) tU (fun (b:Empty) _ _=>b.elim) (fun l=>Cs J l) q m (some (.err ())) L Γ
theorem zl {P:Program} {m:T} {J:Nat→List Value→ak→Fact} {L:ak} {Γ:List Fact} {r:fp} {w:World} {F:Heap} {Post:Nat→List Value→World→Prop} (h:Gs P J none m L Γ) (hΓ:Holds Γ F) (hsp:Split r w L F)
  (hP:∀ i vs L' F' w',F.le F'→(J i vs L').p F'→Split r w' L' F'→Post i vs w'):m.wp P (fun _=>True) (fun i vs w'=>Post i vs w') (fun _ _=>False) w:=by
 refine T.wp_mono m ?_ ?_ (h r w F (.err ()) (fun _=>True) rfl hΓ hsp trivial)
 ·intro l vs w' ho
  obtain ⟨i,L',F',H',st',h1,h2,h3,h4,h5⟩:=ho
  have hH:H'=[]:=h4
  subst hH
  exact hP l vs L' F' w' h1 h3 h5
 ·rintro e w' ⟨F',h1,c,h2,h3,h4⟩
  exact h3
theorem Ef {P:Program} {J:Nat→List Value→ak→Fact} {q:Option Quiet} {l:Nat} {vs:List Value} {L:ak} {Γ:List Fact} (h:∀ F,Holds Γ F→(J l vs L).p F):Gs P J q (.out l vs) L Γ:=by
 have:=rW (P:=P) (I:=(I0:aN Unit Unit)) (t:=tU) (Rel:=fun (b:Empty) _ _=>b.elim) (Δ:=fun l=>Cs J l) (q:=q) (L:=L) (Γ:=Γ) (vs:=vs) (l:=l) (run:=some (.err ())) (x:=Cs J l) (st:=()) (H:=[]) rfl () rfl h (fun _ _=>rfl)
 exact this
theorem Split.putObj {r:fp} {w:World} {L1 L2:ak} {F:Heap} {b:Nat} {o:Obj} (h:Split r w (L1++(b,o)::L2) F) (o':Obj):Split r (w.putObj b o') (L1++(b,o')::L2) F:=by
 have hp:∀ o:Obj,((b,o)::(L1++L2)).Perm (L1++(b,o)::L2):=fun o=>List.perm_middle.symm
 have hb:=h.own b _ (List.mem_append_right _ (List.mem_cons_self ..))
 refine ((h.perm (hp o)).write (w.putObj b o') o' (fun x=>?_) (by simp) rfl rfl rfl).perm (hp o').symm
 by_cases hx:x=b
 ·subst hx; rw [if_pos rfl]; exact World.putObj_heap_same (lh hb)
 ·rw [if_neg hx]; exact World.putObj_heap_other hx
end Go.Proofs.YtjlgcpgjdgeejaaGreatDoor
end

section
namespace Go.Proofs.YtjlgcpgjdgeejaaGreatDoor
open Go
set_option linter.unusedSimpArgs false
set_option linter.unusedVariables false
set_option linter.constructorNameAsVariable false
set_option maxRecDepth 100000
section
variable {ε σ β:Type} {P:Program} {I:aN ε σ} {t:Ty} {Rel:β→t.den→ak→Fact} {Δ:Labels ε σ β} {md:cS} {L Lq:ak} {Γ Γq:List Fact} {st:σ} {run:Option (Res ε σ β)}
def zi (ts:List C) {δ:Type} (f:δ→HC ts) (J:δ→ak→Fact) (sp:δ→Sp ε σ β):Label ε σ β:={ ι:=δ,sp:=sp,J:=fun d vs L'=>(Fact.prop (vs=HC.enc ts (f d))).both (J d L') }
theorem lm {δ:Type} {l:Nat} {ts:List C} {m:T} {k:HC ts→T} (f:δ→HC ts) (J:δ→ak→Fact) (s':δ→Sp ε σ β) (hm:ay P I t Rel (Δ.set l (zi ts f J s')) md st m run L Γ)
  (hk:∀ d L' st,ay P I t Rel Δ none st (k (f d)) (s' d st) L' (J d L'::Γ)):ay P I t Rel Δ md st (.join l ts m k) run L Γ:=by
 intro H r w F res S hs hΓ hsp hq
 simp only [T.wp]
 refine T.wp_mono m ?_ (fun e w h=>h) (hm H r w F res S hs hΓ hsp hq)
 intro l' vs w' h
 unfold Labels.set at h
 unfold Outs.set
 split
 ·rename_i hl
  rw [if_pos hl] at h
  obtain ⟨i,L',F',H',st',hle,hsp',⟨hv,hJ⟩,hi',hS'⟩:=h
  have hv':vs=HC.enc ts (f i):=hv
  subst hv'
  exact ⟨f i,rfl,d7 hle (hk i L' st' H' r w' F' res S hsp' (Holds.cons hi' (Holds.cons hJ (Holds.mono (fun A hA=>hΓ A (List.mem_cons_of_mem _ hA)) hle))) hS' trivial)⟩
 ·rename_i hl; rw [if_neg hl] at h; exact h
theorem mw {δ:Type} {l:Nat} {vs:List Value} {ts:List C} {f:δ→HC ts} {J:δ→ak→Fact} {s':δ→Sp ε σ β} (d:δ) (hx:Δ l=zi ts f J s') (hv:vs=HC.enc ts (f d)) (hrun:run=s' d st) (hJ:∀ F,Holds Γ F→(J d L).p F):ay P I t Rel Δ md st (.out l vs) run L Γ :=
 rS (x:=zi ts f J s') d hx hrun fun F hF=>⟨hv,hJ F hF⟩
end
theorem co {ε σ β:Type} {Δ:Labels ε σ β} {l:Nat} {x:Label ε σ β}:(Δ.set l x) l=x:=by simp [Labels.set]
theorem BN {ε σ β:Type} {Δ:Labels ε σ β} {l l':Nat} {x y:Label ε σ β} (h:l≠l') (hx:Δ l=x):(Δ.set l' y) l=x:=by simp [Labels.set,h,hx]
theorem zM {a:Addr} (h:a.spot=none) (i:Nat):(a.add i).block=(a.add i).block∧(a.add i).off=(a.add i).off+0∧(a.add i).spot=none:=⟨rfl,rfl,(dQ a h i).2.2⟩
theorem fX {b:ByteArray} {sl:aV} {ε σ β:Type} {I:aN ε σ} {t:Ty} {Rel:β→t.den→ak→Fact} {Δ:Labels ε σ β} {md:cS} {L:ak} {Γ:List Fact} {st:σ} {run:Option (Res ε σ β)} {m:T} (hb:ByF sl b∈Γ) (h:sl.2.1=b.size→ay PG I t Rel Δ md st m run L Γ):ay PG I t Rel Δ md st m run L Γ :=
 fk (fun F hF=>ByF.len (hF _ hb)) h
theorem kg {i n:Nat} {m:Nat} (hm:m=n) (h:decide ((i:Int) < (m:Int))=true):i < n:=by have:=of_decide_eq_true h; omega
theorem kf {i n:Nat} {m:Nat} (hm:m=n) (h:decide ((i:Int) < (m:Int))=false):¬ i < n:=by have:=of_decide_eq_false h; omega
end Go.Proofs.YtjlgcpgjdgeejaaGreatDoor
end

section
namespace Go.Proofs.YtjlgcpgjdgeejaaGreatDoor
open Go
set_option linter.unusedSimpArgs false
set_option linter.unusedVariables false
set_option linter.constructorNameAsVariable false
set_option maxRecDepth 100000
theorem sP {t:TypeId} {k k2:IntKind} (x y:Int) (hy:0≤y) (w:World):(cU .shr t (.int k x) (.int k2 y)).run PG w=.ok (.value (.int k (x.fdiv (2 ^ min y.toNat k.bits)))) w:=by
 have h:¬ y < 0:=by omega
 simp [cU,cG,eqGuard,binOp,Op.shift,h]
theorem Ec {t:TypeId} {k k2:IntKind} (x y:Int) (hy:0≤y) (w:World):(cU .shl t (.int k x) (.int k2 y)).run PG w=.ok (.value (.int k (k.wrap (x * 2 ^ min y.toNat k.bits)))) w:=by
 have h:¬ y < 0:=by omega
 simp [cU,cG,eqGuard,binOp,Op.shift,h]
def pL (k:IntKind) (a b:Int):Int:=k.wrap (BitVec.ofInt k.bits a &&&BitVec.ofInt k.bits b).toNat
def tY (k:IntKind) (a b:Int):Int:=k.wrap (BitVec.ofInt k.bits a |||BitVec.ofInt k.bits b).toNat
theorem q8 {t:TypeId} {k:IntKind} (a b:Int) (w:World):(cU .and t (.int k a) (.int k b)).run PG w=.ok (.value (.int k (pL k a b))) w:=by
 simp [cU,cG,eqGuard,binOp,Op.intBits,pL]
theorem xX {t:TypeId} {k:IntKind} (a b:Int) (w:World):(cU .or t (.int k a) (.int k b)).run PG w=.ok (.value (.int k (tY k a b))) w:=by
 simp [cU,cG,eqGuard,binOp,Op.intBits,tY]
theorem it {p:Nat→Bool} {n:Nat} (h:(List.range n).all p=true) {c:Nat} (hc:c < n):p c=true:=List.all_eq_true.1 h c (List.mem_range.2 hc)
theorem Lg {c:Nat} (h:c < 256):pL .u8 c 31=(c % 32:Nat):=eq_of_beq (it (p:=fun c=>pL .u8 c 31==(c % 32:Nat)) (show (List.range 256).all _=true from by kernel_rfl) h)
theorem La {c:Nat} (h:c < 256):pL .u8 c 15=(c % 16:Nat):=eq_of_beq (it (p:=fun c=>pL .u8 c 15==(c % 16:Nat)) (show (List.range 256).all _=true from by kernel_rfl) h)
theorem LW {c:Nat} (h:c < 256):pL .u8 c 7=(c % 8:Nat):=eq_of_beq (it (p:=fun c=>pL .u8 c 7==(c % 8:Nat)) (show (List.range 256).all _=true from by kernel_rfl) h)
theorem Lb {c:Nat} (h:c < 256):pL .u8 c 63=(c % 64:Nat):=eq_of_beq (it (p:=fun c=>pL .u8 c 63==(c % 64:Nat)) (show (List.range 256).all _=true from by kernel_rfl) h)
theorem mg {n:Nat} (h:n < 2147483648):IntKind.i32.wrap (n:Int)=n:=by
 have e:((n:Int) % 2 ^ 32)=n:=by omega
 simp only [IntKind.wrap,IntKind.bits,IntKind.signed,Bool.true_and,decide_eq_true_eq,e]
 rw [if_neg (by omega)]
theorem L5 {a c:Nat} (ha:a < 33554432):tY .i32 ((a * 64:Nat):Int) ((c % 64:Nat):Int)=((a * 64+c % 64:Nat):Int):=by
 unfold tY
 have h1:c % 64 < 2 ^ 6:=Nat.mod_lt _ (by decide)
 have e:=Nat.shiftLeft_add_eq_or_of_lt h1 a
 rw [Nat.shiftLeft_eq] at e
 have e2:(BitVec.ofInt IntKind.i32.bits ((a * 64:Nat):Int) |||BitVec.ofInt IntKind.i32.bits ((c % 64:Nat):Int)).toNat=a * 64+c % 64:=by
  rw [BitVec.toNat_or,BitVec.ofInt_natCast,BitVec.ofInt_natCast,BitVec.toNat_ofNat,BitVec.toNat_ofNat,Nat.mod_eq_of_lt (show a * 64 < 2 ^ IntKind.i32.bits from by show a * 64 < 4294967296; omega),Nat.mod_eq_of_lt (show c % 64 < 2 ^ IntKind.i32.bits from by show c % 64 < 4294967296; omega)]
  exact e.symm
 rw [e2]
 exact mg (by omega)
theorem KG {c:Nat} (h:c < 256):(c:Int).fdiv (2 ^ min (3:Int).toNat IntKind.u8.bits)=((c / 8:Nat):Int):=eq_of_beq (it (p:=fun c=>(c:Int).fdiv (2 ^ min (3:Int).toNat IntKind.u8.bits)==((c / 8:Nat):Int)) (show (List.range 256).all _=true from by kernel_rfl) h)
theorem JL {c:Nat} (h:c < 256):(c:Int).fdiv (2 ^ min (4:Int).toNat IntKind.u8.bits)=((c / 16:Nat):Int):=eq_of_beq (it (p:=fun c=>(c:Int).fdiv (2 ^ min (4:Int).toNat IntKind.u8.bits)==((c / 16:Nat):Int)) (show (List.range 256).all _=true from by kernel_rfl) h)
theorem Kk {c:Nat} (h:c < 256):(c:Int).fdiv (2 ^ min (5:Int).toNat IntKind.u8.bits)=((c / 32:Nat):Int):=eq_of_beq (it (p:=fun c=>(c:Int).fdiv (2 ^ min (5:Int).toNat IntKind.u8.bits)==((c / 32:Nat):Int)) (show (List.range 256).all _=true from by kernel_rfl) h)
theorem KB {c:Nat} (h:c < 256):(c:Int).fdiv (2 ^ min (6:Int).toNat IntKind.u8.bits)=((c / 64:Nat):Int):=eq_of_beq (it (p:=fun c=>(c:Int).fdiv (2 ^ min (6:Int).toNat IntKind.u8.bits)==((c / 64:Nat):Int)) (show (List.range 256).all _=true from by kernel_rfl) h)
def ce (c:Nat):Nat × Nat:=if c < 128 then (1,c) else if c / 32=6 then (2,c % 32) else if c / 16=14 then (3,c % 16) else if c / 8=30 then (4,c % 8) else (0,0)
def ib (r n:Int):Bool:=if n=1 then true else if n=2 then decide (128≤r) else if n=3 then decide (2048≤r)&&(decide (r < 55296)||decide (57343 < r)) else decide (65536≤r)&&decide (r≤1114111)
def bN (b:ByteArray) (i:Nat):Nat:=(aY b i).toNat
def e7 (b:ByteArray):Nat→Nat→Nat→Option Nat
 | 0,_,r=>some r
 | k+1,i,r=>if bN b i / 64=2 then e7 b k (i+1) (r * 64+bN b i % 64) else none
def badV:HC [.b (.int .i32),.b (.int .i64),.b .bool]:=(65533,1,false,())
def cq (b:ByteArray) (i:Nat):HC [.b (.int .i32),.b (.int .i64),.b .bool] :=
 if b.size≤i then (0,0,false,())
 else if (ce (bN b i)).1=0∨b.size - i < (ce (bN b i)).1 then badV
 else match e7 b ((ce (bN b i)).1 - 1) (i+1) (ce (bN b i)).2 with
  | none=>badV
  | some r=>if ib r (ce (bN b i)).1 then ((r:Int),((ce (bN b i)).1:Int),true,()) else badV
theorem q7 (b:ByteArray) (i:Nat):bN b i < 256:=by have:=mj b i; unfold bN; omega
theorem vd (b:ByteArray) (i:Nat):aY b i=(bN b i:Int):=by have:=mj b i; unfold bN; omega
theorem Cm {c:Nat} (h:c < 256):(ce c).1≤4:=of_decide_eq_true (it (p:=fun c=>decide ((ce c).1≤4)) (show (List.range 256).all _=true from by kernel_rfl) h)
theorem KH {c:Nat} (h:c < 256):(ce c).2 < 128:=of_decide_eq_true (it (p:=fun c=>decide ((ce c).2 < 128)) (show (List.range 256).all _=true from by kernel_rfl) h)
end Go.Proofs.YtjlgcpgjdgeejaaGreatDoor
end

section
namespace Go.Proofs.YtjlgcpgjdgeejaaGreatDoor
open Go
set_option linter.unusedVariables false
structure cM where
 pos:Nat
 opn:List Bool
instance:DecidableEq cM:=fun a b=>decidable_of_iff (a.pos=b.pos∧a.opn=b.opn) ⟨fun ⟨h1,h2⟩=>by cases a; cases b; simp only at h1 h2; rw [h1,h2],fun h=>h▸⟨rfl,rfl⟩⟩
def d1 (c:Int):Bool:=(decide (c≥97)&&decide (c≤122))||(decide (c≥65)&&decide (c≤90))||c==95||c==36
def c6 (c:Int):Bool:=decide (c≥48)&&decide (c≤57)
def iA (s:ByteArray):Bool:=Bu D6 (k_sp++s++k_sp)
def dX (b:ByteArray) (k:Nat) (x:ByteArray):Bool:=decide (k+x.size≤b.size)&&(b.extract k (k+x.size)).toList==x.toList
def gg (b:ByteArray):Nat→Nat→Option Nat
 | 0,_=>none
 | n+1,i=>if i < b.size then (if aY b i != 10 then gg b n (i+1) else some i) else some i
def d2 (b:ByteArray):Nat→Nat→Option (Nat × Bool)
 | 0,_=>none
 | n+1,i =>
  if i < b.size then
   if decide (Ep i9 (aY b i)≥0) then d2 b n (i+1)
   else if dX b i k_sl_sl then (match gg b (b.size+1) i with
    | none=>none
    | some j=>d2 b n j)
   else if dX b i k_sl_star then
    if decide (oa (b.extract (i+2) b.size) k_star_sl < 0) then some (i,false)
    else if i+(oa (b.extract (i+2) b.size) k_star_sl+4).toNat≤b.size then d2 b n (i+(oa (b.extract (i+2) b.size) k_star_sl+4).toNat) else none
   else some (i,true)
  else some (i,true)
def dy (b:ByteArray) (kind:Int) (i j:Nat):Tok:=⟨kind,b.extract i j,i,j,()⟩
def fh (b:ByteArray):Nat→Nat→Option Nat
 | 0,_=>none
 | n+1,i=>if i < b.size then (if d1 (aY b i)||c6 (aY b i) then fh b n (i+1) else some i) else some i
def nG (b:ByteArray) (i:Nat):Option Tok:=match fh b (b.size+1) i with
 | none=>none
 | some j=>if i < j∧j≤b.size then some (dy b (if iA (b.extract i j) then 2 else 1) i j) else none
def gp (b:ByteArray):Nat→Nat→Int→Option (Nat × Int)
 | 0,_,_=>none
 | n+1,i,v=>if 0≤v∧v≤9007199254740992 then
   (if i < b.size∧c6 (aY b i)=true then gp b n (i+1) (if 9007199254740992 < v * 10+(aY b i - 48) then 9007199254740992 else v * 10+(aY b i - 48)) else some (i,v))
  else none
def oE (b:ByteArray) (i j:Nat) (v:Int):Bool:=decide (v > 9007199254740991)||((aY b i==48)&&decide (j > i+1))||(decide (j < b.size)&&d1 (aY b j))
def iQ (b:ByteArray) (i:Nat):Option Tok:=match gp b (b.size+1) i 0 with
 | none=>none
 | some (j,v)=>if i < j∧j≤b.size then some (if oE b i j v then bt else dy b 3 i j) else none
def jj (k:Nat):ByteArray:=match k with
 | 0=>qi
 | 1=>pN
 | _=>p4
def fv (b:ByteArray) (i:Nat):Nat→Nat→Option (Option Tok)
 | 0,_=>none
 | f+1,k=>if k < 3 then
   if decide ((b.size:Int) - i < 3 - (k:Int)) then fv b i f (k+1)
   else if JX (b.extract i (i+(3 - k))) ff then fv b i f (k+1)
   else if !Bu (jj k) (k_sp++b.extract i (i+(3 - k))++k_sp) then fv b i f (k+1)
   else some (some (dy b 9 i (i+(3 - k))))
  else some none
def nF (x:ByteArray) (o:List Bool):Option (List Bool) :=
 if x.toList==k_lc.toList then (if o.length < 1048576 then some (o++[false]) else none)
 else if x.toList==k_rc.toList then some (o.take (o.length - 1)) else some o
def qF (b:ByteArray) (st:cM):Option (Tok × cM):=match fv b st.pos 4 0 with
 | none=>none
 | some none=>some (bt,st)
 | some (some t)=>(nF t.text st.opn).map fun o=>(t,{ st with opn:=o })
def mB (c:Int):Int:=Ep fZ (tY .u8 c 32)
def eC (b:ByteArray) (lim:Nat):Nat→Nat→Nat→Nat × Nat
 | 0,k,v=>(k,v)
 | f+1,k,v=>if k < b.size∧k < lim then (if mB (aY b k) < 0∨aY b k < 48 then (k,v) else eC b lim f (k+1) (v * 16+(mB (aY b k)).toNat)) else (k,v)
def oL (b:ByteArray) (i:Nat) (out:ByteArray) (x:Nat × Nat):Nat × ByteArray × Bool :=
 if x.1=i+3∨dX b x.1 k_rc=false∨1114111 < x.2∨(55296≤x.2∧x.2≤57343) then (i,out,false) else (x.1+1,out++Utf8.encode (x.2:Int),true)
def lT (b:ByteArray) (i:Nat) (out:ByteArray):Nat × ByteArray × Bool :=
 if dX b (i+2) k_lc then oL b i out (eC b (i+9) 6 (i+3) 0) else (i,out,false)
def gC (c:Int):ByteArray:=⟨#[c.toNat.toUInt8]⟩
def xM (b:ByteArray) (i:Nat) (out:ByteArray) (c:Int):Nat × ByteArray × Bool :=
 if c==110 then (i+2,out++gC 10,true) else if c==114 then (i+2,out++gC 13,true) else if c==116 then (i+2,out++gC 9,true) else if c==48 then (i+2,out++gC 0,true)
 else if c==92||(c==34||(c==39||(c==36||c==96))) then (i+2,out++gC c,true)
 else if c==117 then lT b i out else (i,out,false)
def cN (b:ByteArray) (i:Nat) (out:ByteArray):Nat × ByteArray × Bool :=
 if aY b i != 92 then (i+(cq b i).2.1.toNat,out++Utf8.encode (cq b i).1,true)
 else if b.size≤i+1 then (i,out,false) else xM b i out (aY b (i+1))
def gL (b:ByteArray) (e:Int):Nat→Nat→ByteArray→Option (Nat × ByteArray)
 | 0,_,_=>none
 | f+1,i,out=>if i < b.size then (if aY b i==e then some (i,out) else if aY b i==10||aY b i==13 then none
   else if (cN b i out).2.2 then gL b e f (cN b i out).1 (cN b i out).2.1 else none) else none
def Fb (i:Nat):Option (Nat × ByteArray)→Tok
 | some (j,out)=>⟨4,out,i,j+1,()⟩
 | none=>bt
def gZ (b:ByteArray) (e:Int) (i:Nat):Tok:=Fb i (gL b e (b.size+1) (i+1) kE)
def gh (b:ByteArray) (p:Nat) (ends goes:Int):Nat→Nat→ByteArray→Tok
 | 0,_,_=>bt
 | f+1,i,out=>if i < b.size then (if aY b i==96 then ⟨ends,out,p,i+1,()⟩ else if dX b i k_dol_lc then ⟨goes,out,p,i+2,()⟩
   else if (cN b i out).2.2 then gh b p ends goes f (cN b i out).1 (cN b i out).2.1 else bt) else bt
def dq (b:ByteArray) (ends goes:Int) (i:Nat):Tok:=gh b i ends goes (b.size+1) (i+1) kE
def sW (b:ByteArray) (st:cM):Option (Tok × cM) :=
 if (dq b 5 6 st.pos).kind==6 then (if st.opn.length < 1048576 then some (dq b 5 6 st.pos,{ st with opn:=st.opn++[true] }) else none) else some (dq b 5 6 st.pos,st)
def Bk (b:ByteArray) (st:cM):Tok × cM :=
 (dq b 8 7 st.pos,if (dq b 8 7 st.pos).kind==8 then { st with opn:=st.opn.take (st.opn.length - 1) } else st)
def eN (b:ByteArray) (c:Int) (st:cM):Option (Tok × cM) :=
 if d1 c then (nG b st.pos).map fun t=>(t,st)
 else if c6 c then (iQ b st.pos).map fun t=>(t,st)
 else if (c==34)||(c==39) then some (gZ b c st.pos,st)
 else if c==96 then sW b st
 else if c==125&&st.opn.getLast?.getD false then some (Bk b st)
 else qF b st
def EY (b:ByteArray) (t:Tok) (st:cM):Option ((Tok × Bool) × cM) :=
 if t.kind==0 then some ((⟨0,kE,st.pos,0,()⟩,false),st)
 else if 0≤t.fin∧t.fin≤b.size then some ((t,true),{ st with pos:=t.fin.toNat }) else none
def pk (b:ByteArray) (st:cM):Option ((Tok × Bool) × cM):=match d2 b (b.size+1) st.pos with
 | none=>none
 | some (j,fine) =>
  if !fine then some ((⟨0,kE,j,0,()⟩,false),{ st with pos:=j })
  else if j=b.size then some ((⟨10,kE,j,j,()⟩,true),{ st with pos:=j })
  else match eN b (aY b j) { st with pos:=j } with
   | none=>none
   | some (t,st')=>EY b t st'
def If {ε σ α:Type} (x:Option (α × σ)):Option (Res ε σ α):=x.map fun y=>.ok y.1 y.2
end Go.Proofs.YtjlgcpgjdgeejaaGreatDoor
end

section
namespace Go.Proofs.YtjlgcpgjdgeejaaGreatDoor
open Go
set_option linter.unusedVariables false
def fu {σ:Type} (yS:Tok→Int→Sp Empty σ Bool) (b:ByteArray):Nat→Nat→cM→Sp Empty σ Unit
 | 0,_,_,_=>none
 | f+1,n,s,st=>match pk b s with
  | none=>none
  | some ((t,ok),s') =>
   if !ok then (yS ⟨0,kE,t.pos,0,()⟩ 3>>=fun _=>Pure.pure ()) st
   else if n==8192&&t.kind != 10 then (yS ⟨0,kE,t.pos,0,()⟩ 4>>=fun _=>Pure.pure ()) st
   else (yS t 0>>=fun c=>if !c then Pure.pure () else if t.kind==10 then Pure.pure () else fu yS b f (n+1) s') st
def kp {σ:Type} (yS:Tok→Int→Sp Empty σ Bool) (b:ByteArray):Sp Empty σ Unit :=
 if b.size > 65536 then (yS bt 2>>=fun _=>Pure.pure ()) else fu yS b 8194 0 ⟨0,[]⟩
structure KO where
 acc:List Tok
 fin:Option (Int × Int)
def eQ (t:Tok) (e:Int):Sp Empty KO Bool:=fun st =>
 if st.fin.isSome then none
 else if e != 0 then some (.ok false { st with fin:=some (t.pos,e) })
 else if st.acc.length≤65536 then some (.ok true { st with acc:=st.acc++[t] }) else none
def fb (b:ByteArray):Option (Sum (Int × Int) (List Tok)):=match kp eQ b ⟨[],none⟩ with
 | some (.ok () st)=>some (match st.fin with
  | some x=>.inl x
  | none=>.inr st.acc)
 | _=>none
end Go.Proofs.YtjlgcpgjdgeejaaGreatDoor
end

section
namespace Go.Proofs.YtjlgcpgjdgeejaaGreatDoor
open Go Go.Shelf _root_.Go.RowKit Go.Lib
set_option linter.unusedVariables false
set_option linter.unusedSimpArgs false
variable {P:Program} {ρ:Ren}
set_option maxHeartbeats 4000000 in
set_option maxRecDepth 1000000 in
theorem AL (L:Lays.n152 P ρ) (s:ByteArray) (w:World) (has:∀ (j:Nat) b,s.data.toList[j]? = some b→b.toNat < 128) :
  Calls P (ρ.f 152) #[.string s,.int .i32 65533] w fun e w'=>e=.returned (.int .i64 (-1))∧∃ pos,w'=w.iter s pos:=by
 have HA:Aside (∀ (j:Nat) b,s.data.toList[j]? = some b→b.toNat < 128):=has
 clear has
 have t3:=L.t3; have a3:=L.a3; have z3:=L.z3; have v3:=L.v3
 have t4:=L.t4; have a4:=L.a4; have z4:=L.z4; have v4:=L.v4
 have t5:=L.t5; have a5:=L.a5; have z5:=L.z5; have v5:=L.v5
 have t9:=L.t9; have a9:=L.a9; have z9:=L.z9; have v9:=L.v9
 have t21:=L.t21; have a21:=L.a21; have z21:=L.z21; have v21:=L.v21
 go_enter L.f152,Body.n152_ntmps ρ
 go_wp2
 go_loopg [5,6] s.size (fun g _ _ wx=>∃ i:Nat,i+g=s.size∧wx=w.iter s i)
 case atStart=>exact ⟨0,by omega,rfl⟩
 case round =>
  obtain ⟨i,hig,rfl⟩:=hrel
  cases gk with
  | zero =>
   obtain rfl:i=s.size:=by omega
   have hnx:=run_next_end (P:=P) w s s.size
   go_wp2
   go_ret
   exact ⟨rfl,_,rfl⟩
  | succ g =>
   have hi:i < s.size:=by omega
   obtain ⟨x,hx⟩:∃ x:UInt8,s[i]'hi=x:=⟨_,rfl⟩
   have hxl:s.data.toList[i]? = some x:=by rw [← hx]; exact Lib.data_getElem? s i hi
   have hx128:x.toNat < 128:=HA.out i x hxl
   have hnx:=fun ty=>run_next_ascii (P:=P) w s i ty hi (by rw [hx]; exact hx128)
   rw [hx] at hnx
   have hne:((x.toNat:Int)==65533)=false:=beq_eq_false_iff_ne.2 (by omega)
   go_wp2
   go_roundg g
   case measure=>omega
   case rel=>exact ⟨i+1,by omega,rfl⟩
theorem DE:∀ (l:List UInt8) (c:UInt8),(∀ b∈l,b.toNat < 128)→128≤c.toNat→Lib.indexByte l c=-1
 | [],c,h,hc=>rfl
 | b::l,c,h,hc=>by
  have h1:=h b (List.mem_cons_self ..)
  have h2:=DE l c (fun b hb=>h b (List.mem_cons_of_mem _ hb)) hc
  have h3:(b==c)=false:=by
   rw [beq_eq_false_iff_ne]
   intro h; subst h; omega
  unfold Lib.indexByte
  rw [h3,h2]; rfl
theorem Gr {s:ByteArray} (h:∀ (j:Nat) b,s.data.toList[j]? = some b→b.toNat < 128) {c:UInt8} (hc:128≤c.toNat) (i j:Nat):Lib.indexByte (s.extract i j).data.toList (c.toNat:Int).toNat.toUInt8=-1:=by
 have e:((c.toNat:Int)).toNat.toUInt8=c:=by simp
 rw [e]
 refine DE _ _ (fun b hb=>?_) hc
 have hb2:b∈s.data.toList:=by
  rw [ByteArray.data_extract,Array.toList_extract] at hb
  exact List.mem_of_mem_drop (List.mem_of_mem_take hb)
 obtain ⟨k,hk⟩:=List.mem_iff_getElem?.1 hb2
 exact h k b hk
set_option maxHeartbeats 4000000 in
set_option maxRecDepth 1000000 in
theorem yL (L:Lays.n152 P ρ) (s:ByteArray) (r:Int) (w:World) (h4:s.size=4) (has:∀ (j:Nat) b,s.data.toList[j]? = some b→b.toNat < 128) (hr:128≤r) (hr2:r≤2147483647) (hne:r≠65533) :
  Calls P (ρ.f 152) #[.string s,.int .i32 r] w fun e w'=>e=.returned (.int .i64 (-1))∧Below w.heap.size w w':=by
 have HA:Aside (∀ (j:Nat) b,s.data.toList[j]? = some b→b.toNat < 128):=has
 clear has
 have t3:=L.t3; have a3:=L.a3; have z3:=L.z3; have v3:=L.v3
 have t4:=L.t4; have a4:=L.a4; have z4:=L.z4; have v4:=L.v4
 have t5:=L.t5; have a5:=L.a5; have z5:=L.z5; have v5:=L.v5
 have t9:=L.t9; have a9:=L.a9; have z9:=L.z9; have v9:=L.v9
 have t21:=L.t21; have a21:=L.a21; have z21:=L.z21; have v21:=L.v21
 have e137:∀ args w,(callFunc (ρ.f 137) args).run P w=.ok (.enter (ρ.f 137) args) w:=enters_of L.f137 (by kernel_rfl) rfl
 have e119:∀ args w,(callFunc (ρ.f 119) args).run P w=.ok (.enter (ρ.f 119) args) w:=enters_of L.f119 (by kernel_rfl) rfl
 have c1:decide (r < 128)=false:=decide_eq_false (by omega)
 have c2:(r==65533)=false:=beq_eq_false_iff_ne.2 hne
 go_enter L.f152,Body.n152_ntmps ρ
 cases hv:Lib.validRune r
 ·go_wp2_with (go_at_fn (ρ.f 119); refine (Any.utf8_ValidRune { L with } _ _).mono ?_; rintro e w' ⟨rfl,hw⟩; rw [hw,hv])
  go_ret
  exact ⟨rfl,Below.refl _ _⟩
 ·have hv2:Utf8.valid r=true:=by
   have h:=of_decide_eq_true (show decide ((0≤r∧r < 0xD800)∨(0xDFFF < r∧r≤0x10FFFF))=true from hv)
   unfold Utf8.valid
   rw [Bool.or_eq_true,Bool.and_eq_true,Bool.and_eq_true]
   simp only [decide_eq_true_eq]
   omega
  obtain ⟨hu1,hu2,hu3⟩:=encode_facts r hv2 hr
  have hcv:∀ w,(convert (ρ.t 21) (ρ.t 9) (.int .i32 r)).run P w=.ok (.string (Utf8.encode r)) w:=fun w=>run_convert_int_string w _ _ _ _ (by rw [t21]; rfl) t9
  have HV:Aside (Utf8.valid r=true):=hv2
  clear hv2
  generalize Utf8.encode r=u at hu1 hu2 hu3 hcv
  have mixed:=L.mixed
  obtain h2 | h2 | h2:u.size=2∨u.size=3∨u.size=4:=by omega
  ·go_wp2_with (go_at_fn (ρ.f 119); refine (Any.utf8_ValidRune { L with } _ _).mono ?_; rintro e w' ⟨rfl,rfl⟩; rw [hv])
   have s21:(P.underlying (ρ.t 21)).isSome=true:=by rw [t21]; rfl
   have u21:=run_underlying (P:=P) t21
   have u9:=run_underlying (P:=P) t9
   go_step3
   go_wp2
   obtain ⟨y,hy⟩:∃ y:UInt8,u[1]'(by omega)=y:=⟨_,rfl⟩
   obtain ⟨x,hx⟩:∃ x:UInt8,s[1]'(by omega)=x:=⟨_,rfl⟩
   have hyl:128≤y.toNat:=by
    have h:=hu3 (by omega)
    have e:u[u.size - 1]'(by omega)=u[1]'(by omega):=by congr 1; omega
    rw [e,hy] at h; exact h
   have hxl:x.toNat < 128:=HA.out 1 x (by rw [← hx]; exact Lib.data_getElem? s 1 (by omega))
   clear hu3
   go_loopg [9] 0 (fun g v wx=>v=.int .i64 1∧wx=w')
   case atStart=>exact ⟨rfl,rfl⟩
   case round =>
    obtain ⟨rfl,rfl⟩:=hrel
    have hne2:((x.toNat:Int)==(y.toNat:Int))=false:=beq_eq_false_iff_ne.2 (by omega)
    go_wp2
    go_step3
    go_wp2
    have hib:=Gr HA.out hyl 2 4
    go_region_o
    go_wp2
    go_region_with_o (go_at_fn (ρ.f 137); refine (Any.strings_IndexByte { L with } _ _ _).mono ?_; rintro e w' ⟨rfl,hw⟩; rw [hw,hib])
    all_goals go_wp2
    all_goals (simp only [Exit.noGoto_ret]; go_wp2)
    all_goals (simp only [Exit.noGoto_ret]; go_wp2)
    all_goals go_ret
    all_goals exact ⟨rfl,(Below.drew (Below.drew (Below.refl _ _)))⟩
  ·go_wp2_with (go_at_fn (ρ.f 119); refine (Any.utf8_ValidRune { L with } _ _).mono ?_; rintro e w' ⟨rfl,rfl⟩; rw [hv])
   have s21:(P.underlying (ρ.t 21)).isSome=true:=by rw [t21]; rfl
   have u21:=run_underlying (P:=P) t21
   have u9:=run_underlying (P:=P) t9
   go_step3
   go_wp2
   obtain ⟨y,hy⟩:∃ y:UInt8,u[2]'(by omega)=y:=⟨_,rfl⟩
   obtain ⟨x,hx⟩:∃ x:UInt8,s[2]'(by omega)=x:=⟨_,rfl⟩
   have hyl:128≤y.toNat:=by
    have h:=hu3 (by omega)
    have e:u[u.size - 1]'(by omega)=u[2]'(by omega):=by congr 1; omega
    rw [e,hy] at h; exact h
   have hxl:x.toNat < 128:=HA.out 2 x (by rw [← hx]; exact Lib.data_getElem? s 2 (by omega))
   clear hu3
   go_loopg [9] 0 (fun g v wx=>v=.int .i64 2∧wx=w')
   case atStart=>exact ⟨rfl,rfl⟩
   case round =>
    obtain ⟨rfl,rfl⟩:=hrel
    have hne2:((x.toNat:Int)==(y.toNat:Int))=false:=beq_eq_false_iff_ne.2 (by omega)
    go_wp2
    go_step3
    go_wp2
    have hib:=Gr HA.out hyl 3 4
    go_region_o
    go_wp2
    go_region_with_o (go_at_fn (ρ.f 137); refine (Any.strings_IndexByte { L with } _ _ _).mono ?_; rintro e w' ⟨rfl,hw⟩; rw [hw,hib])
    all_goals go_wp2
    all_goals (simp only [Exit.noGoto_ret]; go_wp2)
    all_goals (simp only [Exit.noGoto_ret]; go_wp2)
    all_goals go_ret
    all_goals exact ⟨rfl,(Below.drew (Below.drew (Below.refl _ _)))⟩
  ·go_wp2_with (go_at_fn (ρ.f 119); refine (Any.utf8_ValidRune { L with } _ _).mono ?_; rintro e w' ⟨rfl,rfl⟩; rw [hv])
   have s21:(P.underlying (ρ.t 21)).isSome=true:=by rw [t21]; rfl
   have u21:=run_underlying (P:=P) t21
   have u9:=run_underlying (P:=P) t9
   go_step3
   go_wp2
   obtain ⟨y,hy⟩:∃ y:UInt8,u[3]'(by omega)=y:=⟨_,rfl⟩
   obtain ⟨x,hx⟩:∃ x:UInt8,s[3]'(by omega)=x:=⟨_,rfl⟩
   have hyl:128≤y.toNat:=by
    have h:=hu3 (by omega)
    have e:u[u.size - 1]'(by omega)=u[3]'(by omega):=by congr 1; omega
    rw [e,hy] at h; exact h
   have hxl:x.toNat < 128:=HA.out 3 x (by rw [← hx]; exact Lib.data_getElem? s 3 (by omega))
   clear hu3
   go_loopg [9] 0 (fun g v wx=>v=.int .i64 3∧wx=w')
   case atStart=>exact ⟨rfl,rfl⟩
   case round =>
    obtain ⟨rfl,rfl⟩:=hrel
    have hne2:((x.toNat:Int)==(y.toNat:Int))=false:=beq_eq_false_iff_ne.2 (by omega)
    go_wp2
    go_step3
    go_wp2
    have hib:Lib.indexByte ByteArray.empty.data.toList (y.toNat:Int).toNat.toUInt8=-1:=rfl
    go_region_o
    go_wp2
    go_region_with_o (go_at_fn (ρ.f 137); refine (Any.strings_IndexByte { L with } _ _ _).mono ?_; rintro e w' ⟨rfl,hw⟩; rw [hw,hib])
    all_goals go_wp2
    all_goals (simp only [Exit.noGoto_ret]; go_wp2)
    all_goals (simp only [Exit.noGoto_ret]; go_wp2)
    all_goals go_ret
    all_goals exact ⟨rfl,(Below.drew (Below.drew (Below.refl _ _)))⟩
theorem AF (L:Lays.n152 P ρ) (s:ByteArray) (r:Int) (w:World) (h4:s.size=4) (has:∀ (j:Nat) b,s.data.toList[j]? = some b→b.toNat < 128) (hr:128≤r) (hr2:r≤2147483647) :
  Calls P (ρ.f 152) #[.string s,.int .i32 r] w fun e w'=>e=.returned (.int .i64 (-1))∧Below w.heap.size w w':=by
 by_cases h:r=65533
 ·subst h
  refine (AL L s w has).mono ?_
  rintro e w' ⟨h1,pos,rfl⟩
  exact ⟨h1,(Below.refl _ _).alloc (Nat.le_refl _) _⟩
 ·exact yL L s r w h4 has hr hr2 h
theorem Dv (s:ByteArray) (i:Nat) (h:i < s.size) (ha:128≤(s[i]'h).toNat):∀ k,k < (Utf8.decode s i).2→i+k < s.size∧128≤(s.get! (i+k)).toNat:=by
 have hn:¬ (s[i]'h).toNat < 128:=by omega
 have h0:128≤(s.get! (i+0)).toNat:=by rw [get_at s i h]; exact ha
 have one:∀ k,k < 1→i+k < s.size∧128≤(s.get! (i+k)).toNat:=fun k hk=>by
  obtain rfl:k=0:=by omega
  exact ⟨by omega,h0⟩
 simp only [Utf8.decode,get_at s i h,hn,if_false]
 split
 ·rename_i h1
  simp only [Bool.and_eq_true,decide_eq_true_eq,beq_iff_eq] at h1
  split
  ·intro k hk
   have hk':k < 2:=hk
   rcases (show k=0∨k=1 by omega) with rfl | rfl
   ·exact ⟨by omega,h0⟩
   ·exact ⟨by omega,by omega⟩
  ·exact one
 ·split
  ·rename_i h1
   simp only [Bool.and_eq_true,decide_eq_true_eq,beq_iff_eq] at h1
   split
   ·intro k hk
    have hk':k < 3:=hk
    rcases (show k=0∨k=1∨k=2 by omega) with rfl | rfl | rfl
    ·exact ⟨by omega,h0⟩
    ·exact ⟨by omega,by omega⟩
    ·exact ⟨by omega,by omega⟩
   ·exact one
  ·split
   ·rename_i h1
    simp only [Bool.and_eq_true,decide_eq_true_eq,beq_iff_eq] at h1
    split
    ·intro k hk
     have hk':k < 4:=hk
     rcases (show k=0∨k=1∨k=2∨k=3 by omega) with rfl | rfl | rfl | rfl
     ·exact ⟨by omega,h0⟩
     ·exact ⟨by omega,by omega⟩
     ·exact ⟨by omega,by omega⟩
     ·exact ⟨by omega,by omega⟩
    ·exact one
   ·exact one
def jr (w:World) (k:Nat) (o:Obj):World:={ w with heap:=w.heap.setIfInBounds k o }
theorem E7 {P:Program} (w:World) (k:Nat) (s:ByteArray) (pos:Nat) (ty:TypeId) (hk:w.heap[k]? = some (.stringIter s pos)) (h:pos < s.size) :
  (Instr.next (.pointer (some ⟨k,0,none⟩)) true ty).run P w=.ok (.tuple #[.bool true,.int .i64 pos,.int .i32 (Utf8.decode s pos).1]) (jr w k (.stringIter s (pos+(Utf8.decode s pos).2))):=by
 simp only [Instr.next,getObj,setObj,Sem.run_bind,Sem.run,hk,Result.andThen,h,if_true]
 simp [goInt,Sem.run,hk,jr]
theorem CX {P:Program} (w:World) (k:Nat) (s:ByteArray) (pos:Nat) (ty:TypeId) (hk:w.heap[k]? = some (.stringIter s pos)) (h:¬ pos < s.size) :
  (Instr.next (.pointer (some ⟨k,0,none⟩)) true ty).run P w=.ok (.tuple #[.bool false]) w:=by
 simp [Instr.next,getObj,Sem.run,hk,h]
theorem FA {w:World} {k:Nat} {o:Obj} (h:k < w.heap.size):(jr w k o).heap[k]? = some o:=by
 simp [jr,h]
theorem zp {w0 w:World} {k:Nat} {o:Obj} (h:Below k w0 w) (h0:w0.heap.size≤w.heap.size):Below k w0 (jr w k o):=by
 refine ⟨h.os,h.tape,h.output,by simpa [jr] using h0,fun i hi=>?_⟩
 show (w.heap.setIfInBounds k o)[i]? = _
 rw [Array.getElem?_setIfInBounds,if_neg (by omega)]
 exact h.block i hi
set_option maxHeartbeats 8000000 in
set_option maxRecDepth 1000000 in
theorem BL (L:Lays.n153 P ρ) (s chars:ByteArray) (w:World) (h4:chars.size=4) (hac:∀ (j:Nat) b,chars.data.toList[j]? = some b→b.toNat < 128) (h8:s.size≤8) :
  Calls P (ρ.f 153) #[.string s,.string chars] w fun e w'=>e=.returned (.int .i64 (Lib.indexAny s.data.toList chars.data.toList))∧Below w.heap.size w w':=by
 have HA:Aside (∀ (j:Nat) b,chars.data.toList[j]? = some b→b.toNat < 128):=hac
 clear hac
 have hemp:chars.toList.isEmpty=false:=by
  rw [Lib.toList_data]
  cases h:chars.data.toList with
  | nil=>have:=Lib.size_eq chars; rw [h,List.length_nil] at this; omega
  | cons _ _=>rfl
 have hn1:((chars.size:Int)==1)=false:=beq_eq_false_iff_ne.2 (by omega)
 have h8z:decide ((8:Int) < (s.size:Int))=false:=decide_eq_false (by omega)
 have t3:=L.t3; have a3:=L.a3; have z3:=L.z3; have v3:=L.v3
 have t4:=L.t4; have a4:=L.a4; have z4:=L.z4; have v4:=L.v4
 have t5:=L.t5; have a5:=L.a5; have z5:=L.z5; have v5:=L.v5
 have t9:=L.t9; have a9:=L.a9; have z9:=L.z9; have v9:=L.v9
 have t21:=L.t21; have a21:=L.a21; have z21:=L.z21; have v21:=L.v21
 have e152:∀ args w,(callFunc (ρ.f 152) args).run P w=.ok (.enter (ρ.f 152) args) w:=enters_of L.f152 (by kernel_rfl) rfl
 have e226:∀ args w,(callFunc (ρ.f 226) args).run P w=.ok (.enter (ρ.f 226) args) w:=enters_of L.f226 (by kernel_rfl) rfl
 go_enter L.f153,Body.n153_ntmps ρ
 go_wp2_with (go_at_fn (ρ.f 226); refine (Any.strings_shouldUseASCIISet { L with } _ _).mono ?_; rintro e w' ⟨rfl,hw⟩; rw [hw,h8z])
 go_loopg [9,10] s.size (fun g _ _ wx=>∃ i:Nat,i+g=s.size∧Below w.heap.size w wx∧wx.heap[w.heap.size]? = some (.stringIter s i)∧Lib.NoAny s.data.toList chars.data.toList i)
 case atStart=>exact ⟨0,by omega,(Below.refl _ _).alloc (Nat.le_refl _) _,World.iter_heap w s 0,Lib.NoAny.zero _ _⟩
 case round =>
  obtain ⟨i,hig,hbel,hk,hno⟩:=hrel
  have HN:Aside (Lib.NoAny s.data.toList chars.data.toList i):=hno
  clear hno
  cases gk with
  | zero =>
   obtain rfl:i=s.size:=by omega
   have hnx:=fun ty=>CX (P:=P) wr w.heap.size s s.size ty hk (by omega)
   have HB:Aside (Below w.heap.size w wr):=hbel
   clear hbel hk
   go_wp2
   go_ret
   exact ⟨by rw [Lib.indexAny_none (by rw [← Lib.size_eq]; exact HN.out)]; rfl,HB.out⟩
  | succ g =>
   have hi:i < s.size:=by omega
   obtain ⟨x,hx⟩:∃ x:UInt8,s[i]'hi=x:=⟨_,rfl⟩
   have hxl:s.data.toList[i]? = some x:=by rw [← hx]; exact Lib.data_getElem? s i hi
   have hks:w.heap.size < wr.heap.size:=by
    rcases Nat.lt_or_ge w.heap.size wr.heap.size with h | h
    ·exact h
    ·rw [Array.getElem?_eq_none h] at hk; cases hk
   have hnx:=fun ty=>E7 (P:=P) wr w.heap.size s i ty hk hi
   by_cases hx128:x.toNat < 128
   ·rw [decode_ascii s i hi (by rw [hx]; exact hx128),hx] at hnx
    have hnx2:∀ ty,(Instr.next (.pointer (some ⟨w.heap.size,0,none⟩)) true ty).run P wr=.ok (.tuple #[.bool true,.int .i64 i,.int .i32 x.toNat]) (jr wr w.heap.size (.stringIter s (i+1))):=hnx
    clear hnx
    have HK:Aside (Below w.heap.size w (jr wr w.heap.size (.stringIter s (i+1)))∧(jr wr w.heap.size (.stringIter s (i+1))).heap[w.heap.size]? = some (.stringIter s (i+1))):=⟨zp hbel (by omega),FA hks⟩
    clear hbel hk
    generalize jr wr w.heap.size (.stringIter s (i+1))=wn at hnx2 HK
    have Hx:Aside (s.data.toList[i]? = some x):=hxl
    clear hxl hx
    have hcon:=Lib.contains_iff_indexByte chars.data.toList x
    have hback:((x.toNat:Int)).toNat.toUInt8=x:=by simp
    cases hin:chars.data.toList.contains x
    ·rw [hin] at hcon
     have hlt:¬ ((0:Int)≤Lib.indexByte chars.data.toList x):=of_decide_eq_false hcon.symm
     clear hcon
     go_wp2_with (go_at_fn (ρ.f 152); refine (Any.strings_IndexRune_ascii { L with } _ _ _ (by omega) (by omega)).mono ?_; rintro e w' ⟨rfl,hw⟩; rw [hw,hback])
     go_roundg g
     case measure=>omega
     case rel=>exact ⟨i+1,by omega,HK.out.1,HK.out.2,HN.out.succ Hx.out hin⟩
    ·rw [hin] at hcon
     have hge:(0:Int)≤Lib.indexByte chars.data.toList x:=of_decide_eq_true hcon.symm
     clear hcon
     go_wp2_with (go_at_fn (ρ.f 152); refine (Any.strings_IndexRune_ascii { L with } _ _ _ (by omega) (by omega)).mono ?_; rintro e w' ⟨rfl,hw⟩; rw [hw,hback])
     go_ret
     exact ⟨by rw [Lib.indexAny_hit HN.out Hx.out hin]; rfl,HK.out.1⟩
   ·have hh:=decode_high s i hi (by rw [hx]; omega)
    have hl:=decode_le s i
    have hsp:=Dv s i hi (by rw [hx]; omega)
    generalize Utf8.decode s i=rd at hnx hh hl hsp
    obtain ⟨r,d⟩:=rd
    have hnx2:∀ ty,(Instr.next (.pointer (some ⟨w.heap.size,0,none⟩)) true ty).run P wr=.ok (.tuple #[.bool true,.int .i64 i,.int .i32 (r:Int)]) (jr wr w.heap.size (.stringIter s (i+d))):=hnx
    clear hnx
    have hr1:128≤(r:Int):=by have:=hh.1; have h:128≤r:=hh.1; omega
    have hr2:(r:Int)≤2147483647:=by have h:r≤2147483647:=hl; omega
    have hd:1≤d:=hh.2
    have HS:Aside (∀ k,k < d→i+k < s.size∧128≤(s.get! (i+k)).toNat):=hsp
    have HK:Aside (Below w.heap.size w (jr wr w.heap.size (.stringIter s (i+d)))∧(jr wr w.heap.size (.stringIter s (i+d))).heap[w.heap.size]? = some (.stringIter s (i+d))):=⟨zp hbel (by omega),FA hks⟩
    have hds:i+d≤s.size:=by have:=(hsp (d - 1) (by omega)).1; omega
    clear hsp hbel hk hh hl hxl hx
    have hws:w.heap.size < (jr wr w.heap.size (.stringIter s (i+d))).heap.size:=by simpa [jr] using hks
    clear hks
    generalize jr wr w.heap.size (.stringIter s (i+d))=wn at hnx2 HK hws
    have c152:=fun W=>AF (P:=P) (ρ:=ρ) { L with } chars (r:Int) W h4 HA.out hr1 hr2
    go_wp2_with (go_at_fn (ρ.f 152); refine (c152 _).mono ?_; rintro e w' ⟨rfl,hw⟩)
    go_roundg (s.size - (i+d))
    case measure=>omega
    case rel =>
     refine ⟨i+d,by omega,HK.out.1.trans (hw.mono (by omega)),?_,?_⟩
     ·rw [hw.block _ hws]; exact HK.out.2
     ·intro j b hj hb
      by_cases hji:j < i
      ·exact HN.out j b hji hb
      ·have h1:=HS.out (j - i) (by omega)
       rw [show i+(j - i)=j by omega] at h1
       have h2:=Lib.data_getElem? s j h1.1
       rw [hb] at h2
       have h3:s.get! j=s[j]'h1.1:=by have:=get_at s j h1.1; simpa using this
       have h4b:128≤b.toNat:=by
        cases h2
        rw [← h3]; exact h1.2
       rw [Bool.eq_false_iff]
       intro hc
       obtain ⟨k,hk⟩:=List.mem_iff_getElem?.1 (List.contains_iff_mem.1 hc)
       have:=HA.out k b hk
       omega
set_option maxHeartbeats 1000000 in
theorem wA (L:Lays.n150 P ρ) (s chars:ByteArray) (w:World) (h4:chars.size=4) (hac:∀ (j:Nat) b,chars.data.toList[j]? = some b→b.toNat < 128) (h8:s.size≤8) :
  Calls P (ρ.f 150) #[.string s,.string chars] w fun e w'=>e=.returned (.bool (Lib.containsAny s.data.toList chars.data.toList))∧Below w.heap.size w w':=by
 have c:=BL (P:=P) (ρ:=ρ) { L with } s chars w h4 hac h8
 have t3:=L.t3; have a3:=L.a3; have z3:=L.z3; have v3:=L.v3
 have t4:=L.t4; have a4:=L.a4; have z4:=L.z4; have v4:=L.v4
 have t9:=L.t9; have a9:=L.a9; have z9:=L.z9; have v9:=L.v9
 have e153:∀ args w,(callFunc (ρ.f 153) args).run P w=.ok (.enter (ρ.f 153) args) w:=enters_of L.f153 (by kernel_rfl) rfl
 go_enter L.f150,Body.n150_ntmps ρ
 go_wp2_with (go_at_fn (ρ.f 153); refine c.mono ?_; rintro e w' ⟨rfl,hw⟩)
 go_ret
 exact ⟨rfl,hw⟩
end Go.Proofs.YtjlgcpgjdgeejaaGreatDoor
namespace Go.Proofs.YtjlgcpgjdgeejaaGreatDoor
open Go
set_option maxRecDepth 1000000 in
theorem xA {ε:Type} (s:ByteArray) (hs:s.size≤3):Meets PG (I0:aN ε Unit) (aa kc #[.string s,.string ff]) tB (Pure.pure (JX s ff)) bm [] :=
 mc Tryz.func167 rfl rfl fun F hF w hw=>wA Tryz.lays150 s ff w (by kernel_rfl) (Dq (by kernel_rfl)) (by omega)
end Go.Proofs.YtjlgcpgjdgeejaaGreatDoor
end
