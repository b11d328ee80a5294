/- A part of the claim: general tools, trees of the program, and what its functions come to (PLaid to Lex1). Conditions: as its theorems say. -/
import Derived.Test.YtjlgcpgjdgeejaaGreatDoorClC
import Derived.Laws.Cover3
import Derived.Lib.AppendStr
import Derived.Lib.SlBytesConst
import Derived.Lib.UnsafeStr
import Derived.Test.YtjlgcpgjdgeejaaGreatDoorProg

section
namespace Go.Proofs.YtjlgcpgjdgeejaaGreatDoor
open Go
set_option linter.unusedSimpArgs false
set_option linter.unusedVariables false
set_option linter.constructorNameAsVariable false
set_option maxRecDepth 100000
structure FN where
 kind:Int
 text:ByteArray
 num:Int
 pos:Int
 kids:List Int
structure E where
 f:FN
 ks:aV
 K:ak
def f9 (e:E):List Value:=[.int .i64 e.f.kind,.string e.f.text,.int .i64 e.f.num,.slice e.ks.1 e.ks.2.1 e.ks.2.2,.int .i64 e.f.pos]
theorem et (e:E):(f9 e).length=5:=rfl
def MF (e:E):Prop:=Buf ar 1 e.ks (e.f.kids.map (Value.int .i64)) e.K
def iE (es:List E):ak:=es.flatMap (·.K)
def TreeP (es:List E) (x:aV) (K:ak):Prop:=∃ K0,K=K0++iE es∧Buf ci 5 x (rows f9 es) K0∧∀ e∈es,MF e
mutual
def N.size:N→Nat
 | .mk _ _ _ _ l=>1+N.sizes l
def N.sizes:List N→Nat
 | []=>0
 | n::l=>n.size+N.sizes l
end
theorem fj:∀ (a b:List N),N.sizes (a++b)=N.sizes a+N.sizes b
 | [],b=>by simp [N.sizes]
 | n::a,b=>by simp only [List.cons_append,N.sizes,fj a b]; omega
theorem N.size_eq (n:N):n.size=1+N.sizes n.kids:=by cases n; simp [N.size,N.kids]
theorem rl:∀ (a:List N),N.sizes a.reverse=N.sizes a
 | []=>rfl
 | n::a=>by simp only [List.reverse_cons,fj,rl a,N.sizes]; omega
theorem qX:∀ (l:List N),l.length≤N.sizes l
 | []=>by simp [N.sizes]
 | n::l=>by have:=qX l; have:=N.size_eq n; simp only [List.length_cons,N.sizes]; omega
def eS (ns:List FN) (p:Int) (i:Nat):List FN:=if 0≤p then ns.modify p.toNat (fun f=>{ f with kids:=f.kids++[(i:Int)] }) else ns
def dO:Nat→List (N × Int)→List FN→List FN
 | 0,_,ns=>ns
 | _+1,[],ns=>ns
 | k+1,(n,p)::rest,ns=>dO k (n.kids.map (fun c=>(c,(ns.length:Int)))++rest) (eS (ns++[⟨n.kind,n.text,n.num,n.pos,[]⟩]) p ns.length)
theorem vV (k:Nat) (ns:List FN):dO k [] ns=ns:=by cases k<;>rfl
theorem qV (ns:List FN) (p:Int) (i:Nat):(eS ns p i).length=ns.length:=by unfold eS; split<;>simp
def q9 (p:Option Addr × Int):List Value:=[.pointer p.1,.int .i64 p.2]
theorem mv (p:Option Addr × Int):(q9 p).length=2:=rfl
theorem lC {L:ak} {Γ:List Fact} {t e:TypeId} {size:Nat} {v z:Value} (row:List Value) (ht:oG PG t=some (e,size)) (hz:(PG.info? e).bind (·.zero)=some z) (h0:0 < size) (h1:size≤1000)
  (hf:Instr.fill (fun i=>some (i * size,size)) ((Array.range (1 * size)).map (z.cells[· % z.cells.size]!)) [(0,v)]=some row.toArray) :
  Loc PG (aG t 1 #[(0,v)]) ai L Γ fun y L' Γ'=>∃ b,y=(some ⟨b,0,none⟩,1,1)∧L'=L∧Γ'=Fact.at b (ap e row)::Γ :=
 Loc.val fun r w F H hF hsp=>⟨(some ⟨w.heap.size,0,none⟩,1,1),w.alloc (ap e row),L,_,F.ins w.heap.size (ap e row),.inl (by
   have:=k5 (P:=PG) (w:=w) (t:=t) (e:=e) (n:=1) (size:=size) (ps:=#[(0,v)]) (cells:=row.toArray) (zero:=z) ht (by omega) hz hf (by omega)
   have h2:(aG t 1 #[(0,v)]).run PG w=.ok (.value (.slice (some ⟨w.heap.size,0,none⟩) 1 1)) (w.alloc (ap e row)):=by simpa using this
   exact h2),hsp.new_le _,
  Holds.cons (by simp [Fact.at,Heap.ins]) (hF.mono (hsp.new_le _)),hsp.newF _,w.heap.size,rfl,rfl,rfl⟩
theorem pc {α:Type} (f:α→List Value) (l:List α) (x:α):rows f (l++[x])=rows f l++f x:=by rw [ma]; simp [rows]
theorem HL (es:List E) (e:E):iE (es++[e])=iE es++e.K:=by simp [iE]
theorem NodesAt.split {F:Heap} {p:Option Addr} {n:N}:∀ {ps:List (Option Addr)} {ns:List N},NodesAt F (ps++[p]) (ns++[n])→NodesAt F ps ns∧NodeAt F p n
 | [],[],h=>by cases h with | cons _ _ _ _ h1 h2=>exact ⟨.nil,h1⟩
 | [],m::ns,h=>by
  cases h with | cons _ _ _ _ h1 h2=>have:=NodesAt.length h2; simp at this
 | q::ps,[],h=>by
  cases h with | cons _ _ _ _ h1 h2=>have:=NodesAt.length h2; simp at this
 | q::ps,m::ns,h=>by
  cases h with
  | cons _ _ _ _ h1 h2 =>
   obtain ⟨g1,g2⟩:=NodesAt.split h2
   exact ⟨.cons _ _ _ _ h1 g1,g2⟩
theorem NodesAt.get {F:Heap}:∀ {ps:List (Option Addr)} {ns:List N},NodesAt F ps ns→∀ i (h:i < ns.length),∃ p,ps[i]? = some p∧NodeAt F p ns[i]
 | _,_,.nil,i,h=>by simp at h
 | _,_,.cons p n ps ns h1 h2,0,h=>⟨p,rfl,h1⟩
 | _,_,.cons p n ps ns h1 h2,i+1,h=>by
  obtain ⟨q,g1,g2⟩:=NodesAt.get h2 i (by simpa using h)
  exact ⟨q,by simpa using g1,by simpa using g2⟩
theorem ub {α:Type} (l:List α):l=[]∨∃ l' b,l=l'++[b]:=by
 rcases List.eq_nil_or_concat l with h | ⟨l',b,h⟩
 ·exact .inl h
 ·exact .inr ⟨l',b,by rw [h,List.concat_eq_append]⟩
section
variable {ε σ β:Type} {I:aN ε σ} {t:Ty} {Rel:β→t.den→ak→Fact} {Δ:Labels ε σ β} {q:Option Quiet} {L:ak} {Γ:List Fact} {s:Sp ε σ β}
theorem zh (g n:Nat):(⟨g,0,none⟩:Addr).add n=⟨g,n,none⟩:=by unfold Addr.add; simp; intro h; omega
theorem Hb {T1:TypeId} {n g:Nat} {x:aV} {i:Int} {k:Addr→T} (j:Nat) (ha:x.1=some ⟨g,0,none⟩) (ht:p8 PG T1=some n) (hi:i=j) (hj:j < x.2.1) (hk:Sim PG I t Rel Δ none (k ⟨g,j * n,none⟩) s L Γ) :
  Sim PG I t Rel Δ q (.op (bQ T1 (.slice x.1 x.2.1 x.2.2) (.int .i64 i)) tA k) s L Γ:=by
 refine aW (t1:=tA) (post:=fun y L' Γ'=>y=⟨g,j * n,none⟩∧L'=L∧Γ'=Γ) ?_ ?_
 ·refine Loc.val fun r w F H hF hsp=>⟨_,w,_,_,F,.inl ?_,Heap.le.refl F,hF,hsp,rfl,rfl,rfl⟩
  rw [hi,ha,ir ht (by omega) (by omega),zh]; rfl
 ·rintro _ _ _ ⟨rfl,rfl,rfl⟩; exact hk
theorem Hk {T1 T0:TypeId} {a:Addr} {bs:List B} {l:List Value} {k:HB bs→T} (x:HB bs) (hr:(a.block,ap T0 l)∈L) (hs:cK PG T1=some (true,(HB.enc bs x).length)) (ha:a.spot=none) (hv:(l.drop a.off).take (HB.enc bs x).length=HB.enc bs x)
  (hk:Sim PG I t Rel Δ none (k x) s L Γ):Sim PG I t Rel Δ q (.op (am T1 (.pointer (some a))) (.c (.agg bs)) k) s L Γ:=by
 refine aW (f5 x (Rd.own hr) hs ha hv) ?_
 rintro _ _ _ ⟨rfl,rfl,rfl⟩
 exact hk
theorem HU {T1 T0:TypeId} {a:Addr} {b1:B} {l:List Value} {k:b1.den→T} (x:b1.den) (hr:(a.block,ap T0 l)∈L) (hs:d5 PG T1=some true) (ha:a.spot=none) (hv:l[a.off]? = some (b1.enc x))
  (hk:Sim PG I t Rel Δ none (k x) s L Γ):Sim PG I t Rel Δ q (.op (am T1 (.pointer (some a))) (.c (.b b1)) k) s L Γ:=by
 refine aW (dt x (Rd.own hr) hs ha hv) ?_
 rintro _ _ _ ⟨rfl,rfl,rfl⟩
 exact hk
theorem Ht {T1:TypeId} {x:aV} {h:Int} {k:aV→T} (m:Nat) (hu:PG.underlying T1=some (.slice (PG.elem T1))) (hi:((PG.info? (PG.elem T1)).isSome)=true) (ha:∀ b,x.1=some b→b.spot=none) (hm:h=m) (hc:m≤x.2.2) (hk:Sim PG I t Rel Δ none (k (x.1,m,x.2.2)) s L Γ) :
  Sim PG I t Rel Δ q (.op (fV T1 (.slice x.1 x.2.1 x.2.2) none (some (.int .i64 h)) none) ai k) s L Γ:=by
 refine aW (t1:=ai) (post:=fun y L' Γ'=>y=(x.1,m,x.2.2)∧L'=L∧Γ'=Γ) ?_ ?_
 ·refine Loc.val fun r w F H hF hsp=>⟨_,w,_,_,F,.inl ?_,Heap.le.refl F,hF,hsp,rfl,rfl,rfl⟩
  rw [hm,Ci hu (Option.isSome_iff_exists.1 hi) ha (by omega) (by omega)]; rfl
 ·rintro _ _ _ ⟨rfl,rfl,rfl⟩; exact hk
end
theorem Fk (a b c vs:List Value) (o:Nat) (h:o+vs.length≤b.length):bW (a++(b++c)) (a.length+o) vs=a++(bW b o vs++c):=by
 unfold bW
 have e1:(a++(b++c)).take (a.length+o)=a++b.take o:=by
  rw [List.take_append,List.take_of_length_le (by omega),List.take_append,Nat.add_sub_cancel_left]
  have:o - b.length=0:=by omega
  rw [this]; simp
 have e2:(a++(b++c)).drop (a.length+o+vs.length)=b.drop (o+vs.length)++c:=by
  rw [List.drop_append,List.drop_eq_nil_of_le (by omega),List.nil_append,List.drop_append]
  have e3:a.length+o+vs.length - a.length=o+vs.length:=by omega
  have e4:o+vs.length - b.length=0:=by omega
  rw [e3,e4]; simp
 rw [e1,e2]; simp [List.append_assoc]
theorem E0 {α:Type} (l1 l2:List α) (y:α) (g:α→α):(l1++y::l2).modify l1.length g=l1++g y::l2:=by
 induction l1 with
 | nil=>rfl
 | cons x l1 ih=>simp only [List.cons_append,List.length_cons,List.modify_succ_cons,ih]
theorem Eq (K S:ak) (x:Nat × Obj) (A1 A2 B:ak):(K++(S++(x::(A1++(A2++B))))).Perm (S++((x::(A1++(K++A2)))++B)):=by
 have sw:∀ (a b c:ak),(a++(b++c)).Perm (b++(a++c)):=fun a b c=>by
  have h:=(List.perm_append_comm (l₁:=a) (l₂:=b)).append_right c
  simpa [List.append_assoc] using h
 have h1:=sw K S (x::(A1++(A2++B)))
 refine h1.trans (List.Perm.append_left S ?_)
 refine List.perm_middle.trans ?_
 rw [List.cons_append]
 refine List.Perm.cons x ?_
 have h2:=sw K A1 (A2++B)
 simpa [List.append_assoc] using h2
def dR (r1 r2:Nat) (x:aV):ak:=[(r2,ap aB [.slice x.1 x.2.1 x.2.2]),(r1,ap aB [.slice none 0 0])]
theorem E9 {ε σ β:Type} {I:aN ε σ} {t:Ty} {Rel:β→t.den→ak→Fact} {Δ:Labels ε σ β} {q:Option Quiet} {Γ:List Fact} {s:Sp ε σ β} {Kst KT:ak} {r1 r2 b7:Nat} {x:aV} {es:List E} {pp:Int} {qv:Value} {k:T} (c:Nat) (hT:TreeP es x KT) (j:Nat)
  (hj:j < es.length) (hpp:pp=j) (h7:Fact.at b7 (ap bJ [qv,.int .i64 pp])∈Γ) (hb:∀ e∈es,e.f.kids.length≤1099511627776)
  (hk:∀ es' KT',TreeP es' x KT'→es'.map (·.f)=eS (es.map (·.f)) pp c→Sim PG I t Rel Δ none k s (Kst++(KT'++dR r1 r2 x)) Γ) :
  Sim PG I t Rel Δ q (.draw<|.opq (am bf (.pointer (some ⟨r2,0,none⟩))) ai fun r19=>.opq (am ar (.pointer (some ⟨b7,0+1,none⟩))) tI fun r20=>.opq (am bf (.pointer (some ⟨r2,0,none⟩))) ai fun r21=>.opq (am ar (.pointer (some ⟨b7,0+1,none⟩))) tI fun r22 =>
   .opq (bQ bf (.slice r21.1 r21.2.1 r21.2.2) (.int .i64 r22)) tA fun r23=>.opq (am eB (.pointer (some ⟨r23.block,r23.off+3,none⟩))) ai fun r24=>.opl (aG eB 1 #[(0,.int .i64 (c:Int))]) ai fun r25 =>
   .opl (cW #[eB,eB] eB #[.slice r24.1 r24.2.1 r24.2.2,.slice r25.1 r25.2.1 r25.2.2]) ai fun r26=>.opq (bQ bf (.slice r19.1 r19.2.1 r19.2.2) (.int .i64 r20)) tA fun r27=>.op (a7 eB (.pointer (some ⟨r27.block,r27.off+3,none⟩)) (.slice r26.1 r26.2.1 r26.2.2)) tU fun _=>k) s
   (Kst++(KT++dR r1 r2 x)) Γ:=by
 obtain ⟨K0,rfl,hB,hE⟩:=hT
 have hlen:x.2.1=es.length:=by have h1:=hB.len; rw [dz et] at h1; omega
 obtain ⟨g,cells,rfl,ha,g3,g4,g5,g6,g7⟩:=hB.open (by omega)
 obtain ⟨E1,e,E2,rfl,hE1⟩:∃ E1 e E2,es=E1++e::E2∧E1.length=j:=⟨es.take j,es[j],es.drop (j+1),by rw [← List.drop_eq_getElem_cons hj,List.take_append_drop],by simp; omega⟩
 have heok:=hE e (by simp)
 have hrow:=Buf.row (e:=ci) (i:=j) g7 (by omega)
 have hrow2:((rows f9 (E1++e::E2)).drop (j * 5)).take 5=f9 e:=nT et (E1++e::E2) j e (by rw [← hE1]; simp)
 have hcell:cells[j * 5+3]? = some (.slice e.ks.1 e.ks.2.1 e.ks.2.2):=by
  have h1:((cells.drop (j * 5)).take 5)[3]? = some (.slice e.ks.1 e.ks.2.1 e.ks.2.2):=by rw [hrow,hrow2]; rfl
  rw [List.getElem?_take,if_pos (by decide),List.getElem?_drop] at h1
  exact h1
 subst hpp
 refine dD [(r2,ap aB [.slice x.1 x.2.1 x.2.2]),(g,ap ci cells)] (fun p hp=>by simp [dR] at hp ⊢; rcases hp with rfl | rfl<;>simp) ?_
 refine dv (t1:=ai) x (cf (QRd.own (List.mem_cons_self ..)) (by kernel_rfl) rfl rfl) ?_
 refine df (b1:=.int .i64) (j:Int) h7 (by kernel_rfl) rfl rfl ?_
 refine dv (t1:=ai) x (cf (QRd.own (List.mem_cons_self ..)) (by kernel_rfl) rfl rfl) ?_
 refine df (b1:=.int .i64) (j:Int) h7 (by kernel_rfl) rfl rfl ?_
 have hidx:∀ q,mK PG q (bQ bf (.slice x.1 x.2.1 x.2.2) (.int .i64 (j:Int))) (.pointer (some ⟨g,j * 5,none⟩)):=fun q=>mf fun w=>by
  rw [ha,ir (n:=5) (by kernel_rfl) (by omega) (by omega),zh]; rfl
 refine dv (t1:=tA) _ (hidx _) ?_
 refine dv (t1:=ai) e.ks (cf (T0:=ci) (l:=cells) (QRd.own (List.mem_cons_of_mem _ (List.mem_cons_self ..))) (by kernel_rfl) rfl hcell) ?_
 refine ed (lC (e:=ar) (size:=1) (z:=.int .i64 0) [.int .i64 (c:Int)] (by kernel_rfl) (by kernel_rfl) (by decide) (by decide) (by kernel_rfl)) ?_
 rintro _ _ _ ⟨bn,rfl,rfl,rfl⟩
 refine ⟨fun p hp=>by simp [dR] at hp ⊢; rcases hp with rfl | rfl<;>simp,?_⟩
 have hek:e.ks.2.1=e.f.kids.length:=by have h1:=heok.len; simp at h1; omega
 have hkb:=hb e (by simp)
 refine o3 (L':=e.K++(Kst++((g,ap ci cells)::(iE E1++(iE E2++dR r1 r2 x))))) ?_ ?_
 ·have h:=Eq e.K Kst (g,ap ci cells) (iE E1) (iE E2) (dR r1 r2 x)
  simpa [iE,List.append_assoc] using h
 refine ed (eZ (L0:=Kst++((g,ap ci cells)::(iE E1++(iE E2++dR r1 r2 x)))) (K:=e.K) (size:=1) (bytes:=8) (e:=ar) (m:=1) (news:=[.int .i64 (c:Int)]) (by kernel_rfl) rfl heok (Rd.at (List.mem_cons_self ..)) rfl rfl rfl (by decide) (by simp [Value.oneCell']) (by omega) (by omega)) ?_
 rintro y _ _ ⟨Ke,rfl,rfl,hy,hbuf⟩
 refine ⟨fun p hp=>by simp [dR] at hp ⊢; rcases hp with rfl | rfl<;>simp,?_⟩
 refine dv (t1:=tA) _ (hidx _) ?_
 have hcl:j * 5+3+1≤cells.length:=by
  have:x.2.1 * 5≤cells.length:=by rw [g6]; exact Nat.mul_le_mul_right _ g4
  omega
 refine aW (br (a:=⟨g,j * 5+3,none⟩) (L1:=Ke++Kst) (L2:=iE E1++(iE E2++dR r1 r2 x)) (l:=cells) (T:=eB) (T0:=ci) (c:=false) (by simp) (by kernel_rfl) rfl hcl (by simp [Value.cells,Value.oneCell'])) ?_
 rintro _ _ _ ⟨rfl,rfl⟩
 let e':E:=⟨{ e.f with kids:=e.f.kids++[(c:Int)] },y,Ke⟩
 have hrows:bW (rows f9 (E1++e::E2)) (j * 5+3) [.slice y.1 y.2.1 y.2.2]=rows f9 (E1++e'::E2):=by
  rw [ma,fF,ma,fF]
  have hl1:(rows f9 E1).length=j * 5:=by rw [dz et,hE1]; omega
  rw [show j * 5+3=(rows f9 E1).length+3 by rw [hl1],Fk _ _ _ _ _ (by simp [et])]
  rfl
 refine lw (L':=Kst++(((g,ap ci (bW cells (j * 5+3) [.slice y.1 y.2.1 y.2.2]))::iE (E1++e'::E2))++dR r1 r2 x)) ?_ ?_
 ·have h:=(Eq Ke Kst (g,ap ci (bW cells (j * 5+3) [.slice y.1 y.2.1 y.2.2])) (iE E1) (iE E2) (dR r1 r2 x)).symm
  simpa [iE,e',List.append_assoc,Value.cells] using h
 refine (hk (E1++e'::E2) _ ⟨[(g,ap ci (bW cells (j * 5+3) [.slice y.1 y.2.1 y.2.2]))],rfl,?_,?_⟩ ?_).weak fun A hA=>List.mem_cons_of_mem _ hA
 ·rw [← hrows]
  exact Buf.set ha g3 g4 g5 g6 g7 (by simp; omega)
 ·intro e2 he2
  simp only [List.mem_append,List.mem_cons] at he2
  rcases he2 with h | rfl | h
  ·exact hE e2 (by simp [h])
  ·show Buf ar 1 y ((e.f.kids++[(c:Int)]).map (Value.int .i64)) Ke
   simpa using hbuf
  ·exact hE e2 (by simp [h])
 ·unfold eS
  rw [if_pos (by omega)]
  simp only [List.map_append,List.map_cons,Int.toNat_natCast]
  rw [← hE1,show E1.length=(E1.map (·.f)).length by simp,E0]
theorem Dm {ε σ β:Type} {I:aN ε σ} {t:Ty} {Rel:β→t.den→ak→Fact} {Δ:Labels ε σ β} {q:Option Quiet} {Γ:List Fact} {s:Sp ε σ β} {Kst KT:ak} {r1 r2 b7:Nat} {x:aV} {es:List E} {pp:Int} {m:N} {qp:Option Addr} {k:T} (hT:TreeP es x KT)
  (h7:Fact.at b7 (ap bJ [.pointer qp,.int .i64 pp])∈Γ) (hm:NodeF m qp∈Γ) (hb:es.length≤1099511627776)
  (hk:∀ x' KT',TreeP (es++[⟨⟨m.kind,m.text,m.num,m.pos,[]⟩,(none,0,0),[]⟩]) x' KT'→Sim PG I t Rel Δ none k s (Kst++(KT'++dR r1 r2 x')) Γ) :
  Sim PG I t Rel Δ q (.draw<|.opq (am bf (.pointer (some ⟨r2,0,none⟩))) ai fun r11=>.opq (am bl (.pointer (some ⟨b7,0,none⟩))) tP fun r12=>.opq (cg (.pointer r12)) tA fun r13 =>
   .opq (am ci (.pointer (some r13))) (.c (.agg [.int .i64,.str,.int .i64,.slice,.int .i64])) fun r14 =>
   .opl (aG bf 1 #[(0,.agg #[.int .i64 r14.1,.string r14.2.1,.int .i64 r14.2.2.1,.slice r14.2.2.2.1.1 r14.2.2.2.1.2.1 r14.2.2.2.1.2.2,.int .i64 r14.2.2.2.2.1])]) ai fun r15 =>
   .opl (cW #[bf,bf] bf #[.slice r11.1 r11.2.1 r11.2.2,.slice r15.1 r15.2.1 r15.2.2]) ai fun r16 =>
   .op (a7 bf (.pointer (some ⟨r2,0,none⟩)) (.slice r16.1 r16.2.1 r16.2.2)) tU fun _=>k) s (Kst++(KT++dR r1 r2 x)) Γ:=by
 obtain ⟨K0,rfl,hB,hE⟩:=hT
 have hlen:x.2.1=es.length:=by have h1:=hB.len; rw [dz et] at h1; omega
 refine jG hm fun bn sln hq=>?_
 subst hq
 refine dD [(r2,ap aB [.slice x.1 x.2.1 x.2.2])] (fun p hp=>by simp [dR] at hp ⊢; rcases hp with rfl | rfl<;>simp) ?_
 refine dv (t1:=ai) x (cf (QRd.own (List.mem_cons_self ..)) (by kernel_rfl) rfl rfl) ?_
 refine df (b1:=.ptr) (some ⟨bn,0,none⟩) (List.mem_cons_of_mem _ h7) (by kernel_rfl) rfl rfl ?_
 refine HW ?_
 refine dv (t1:=.c (.agg [.int .i64,.str,.int .i64,.slice,.int .i64])) (m.kind,m.text,m.num,(none,0,0),m.pos,()) (HI (QRd.of (fun F hF=>hF (Fact.at bn _) (List.mem_cons_self ..))) (by kernel_rfl) rfl rfl) ?_
 refine ed (lC (e:=ci) (size:=5) (z:=.agg #[.int .i64 0,.string kE,.int .i64 0,.slice none 0 0,.int .i64 0]) [.int .i64 m.kind,.string m.text,.int .i64 m.num,.slice none 0 0,.int .i64 m.pos] (by kernel_rfl) (by kernel_rfl) (by decide) (by decide) (by kernel_rfl)) ?_
 rintro _ _ _ ⟨b8,rfl,rfl,rfl⟩
 refine ⟨fun p hp=>by simp [dR] at hp ⊢; rcases hp with rfl | rfl<;>simp,?_⟩
 refine o3 (L':=K0++(Kst++(iE es++dR r1 r2 x))) ?_ ?_
 ·have h:=(List.perm_append_comm (l₁:=K0) (l₂:=Kst)).append_right (iE es++dR r1 r2 x)
  simpa [List.append_assoc] using h
 refine ed (eZ (L0:=Kst++(iE es++dR r1 r2 x)) (K:=K0) (size:=5) (bytes:=64) (e:=ci) (m:=1) (news:=[.int .i64 m.kind,.string m.text,.int .i64 m.num,.slice none 0 0,.int .i64 m.pos]) (by kernel_rfl) rfl hB (Rd.at (List.mem_cons_self ..)) rfl rfl rfl (by decide) (by simp [Value.oneCell']) (by omega) (by omega)) ?_
 rintro y _ _ ⟨K0',rfl,rfl,hy,hbuf⟩
 refine ⟨fun p hp=>by simp [dR] at hp ⊢; rcases hp with rfl | rfl<;>simp,?_⟩
 refine aW (br (L1:=K0'++(Kst++iE es)) (L2:=[(r1,ap aB [.slice none 0 0])]) (l:=[.slice x.1 x.2.1 x.2.2]) (T:=bf) (T0:=aB) (c:=false) (by simp [dR]) (by kernel_rfl) rfl (Nat.le_of_ble_eq_true rfl) (by simp [Value.cells,Value.oneCell'])) ?_
 rintro _ _ _ ⟨rfl,rfl⟩
 refine lw (L':=Kst++((K0'++iE es)++dR r1 r2 y)) ?_ ?_
 ·have h:=(List.perm_append_comm (l₁:=Kst) (l₂:=K0')).append_right (iE es++dR r1 r2 y)
  simpa [List.append_assoc,dR,bW,Value.cells] using h
 refine (hk y _ ⟨K0',?_,?_,?_⟩).weak fun A hA=>List.mem_cons_of_mem _ (List.mem_cons_of_mem _ hA)
 ·rw [HL]; simp
 ·rw [pc]; exact hbuf
 ·intro e he
  simp only [List.mem_append,List.mem_singleton] at he
  rcases he with he | rfl
  ·exact hE e he
  ·exact Buf.nil ..
def jk (S:List (N × Int)) (m:N) (c:Int) (i:Nat):List (N × Int):=S++(m.kids.drop i).reverse.map (fun n=>(n,c))
theorem Cb {S:List (N × Int)} {m:N} {c:Int} {i:Nat} (h:i < m.kids.length):jk S m c i=jk S m c (i+1)++[(m.kids[i],c)]:=by
 unfold jk
 rw [List.drop_eq_getElem_cons h,List.reverse_cons,List.map_append,List.append_assoc]; rfl
theorem Br {ε σ β:Type} {I:aN ε σ} {t:Ty} {Rel:β→t.den→ak→Fact} {Δ:Labels ε σ β} {q:Option Quiet} {Γ:List Fact} {s:Sp ε σ β} {K1 Lr:ak} {b7:Nat} {m:N} {qp:Option Addr} {pp:Int} {sl:aV} {S:List (N × Int)} {PS:List (Option Addr × Int)} (c:Nat) {ksl:aV}
  (h7:Fact.at b7 (ap bJ [.pointer qp,.int .i64 pp])∈Γ) (hm:NodeF m qp∈Γ) (hst:Buf bJ 2 sl (rows q9 PS) K1) (hPS:PS.map (·.2)=S.map (·.2)) (hN:dc (S.map (·.1)) (PS.map (·.1))∈Γ)
  (hb:S.length+m.kids.length≤1099511627776) (hkl:ksl.2.1=m.kids.length)
  (hk:∀ sl' K1' PS' Γ',Buf bJ 2 sl' (rows q9 PS') K1'→PS'.map (·.2)=(jk S m c 0).map (·.2)→dc ((jk S m c 0).map (·.1)) (PS'.map (·.1))∈Γ' →
   ∀ x,Sim PG I t Rel (Δ.set 2 x) none (.out 1 [.slice sl'.1 sl'.2.1 sl'.2.2]) s (K1'++Lr) Γ') :
  Sim PG I t Rel Δ q (.loop 2 [.b .slice,.b (.int .i64)] [.slice sl.1 sl.2.1 sl.2.2,.int .i64 (IntKind.i64.wrap ((ksl.2.1:Int) - 1))] fun x33 =>
     .ite (decide ((x33.2.1:Int)≥0)) (
      .op (am bl (.pointer (some ⟨b7,0,none⟩))) tP fun r34=>.op (cg (.pointer r34)) tA fun r35=>.op (am ae (.pointer (some ⟨r35.block,r35.off+5,none⟩))) ai fun r36 =>
      .op (bQ ae (.slice r36.1 r36.2.1 r36.2.2) (.int .i64 x33.2.1)) tA fun r37=>.op (am bl (.pointer (some r37))) tP fun r38 =>
      .op (aG cP 1 #[(0,.agg #[.pointer r38,.int .i64 (c:Int)])]) ai fun r39 =>
      .op (cW #[cP,cP] cP #[.slice x33.1.1 x33.1.2.1 x33.1.2.2,.slice r39.1 r39.2.1 r39.2.2]) ai fun r40 =>
      .out 2 [.slice r40.1 r40.2.1 r40.2.2,.int .i64 (IntKind.i64.wrap (x33.2.1 - 1))]) (
      .out 1 [.slice x33.1.1 x33.1.2.1 x33.1.2.2])) s (K1++Lr) Γ:=by
 refine gH (x:={ ι:={ i:Nat // i≤m.kids.length },sp:=fun _=>s,J:=fun i vs L'=>Fact.ex fun sl:aV=>Fact.ex fun K1:ak=>Fact.ex fun PS:List (Option Addr × Int) =>
   (Fact.prop (vs=[.slice sl.1 sl.2.1 sl.2.2,.int .i64 ((i.1:Int) - 1)]∧L'=K1++Lr∧Buf bJ 2 sl (rows q9 PS) K1∧PS.map (·.2)=(jk S m c i.1).map (·.2))).both (dc ((jk S m c i.1).map (·.1)) (PS.map (·.1))) }) (fun i=>i.1) ⟨m.kids.length,Nat.le_refl _⟩ rfl ?_ ?_ ?_
 ·have e:jk S m c m.kids.length=S:=by unfold jk; simp
  refine fun F hF=>⟨sl,K1,PS,⟨?_,rfl,hst,by rw [e]; exact hPS⟩,by show NodesAt F _ ((jk S m c m.kids.length).map (·.1)); rw [e]; exact hF _ hN⟩
  rw [hkl,bg (by omega) (by omega)]
 ·rintro i vs L' F ⟨sl,K1,PS,⟨rfl,_⟩,_⟩; exact ⟨(sl,(i.1:Int) - 1,()),rfl⟩
 ·rintro ⟨i,hi⟩ L' ⟨sl',i',⟨⟩⟩
  refine Sim.ex fun sl=>Sim.ex fun K1=>Sim.ex fun PS=>Sim.both (Sim.prop fun ⟨hv,hL,hst,hPS⟩=>?_)
  subst hL
  obtain rfl:sl'=sl:=by
   obtain ⟨a,b,c⟩:=sl'; obtain ⟨a2,b2,c2⟩:=sl
   have e1:Value.slice a b c=Value.slice a2 b2 c2:=(List.cons.inj hv).1
   cases e1; rfl
  have hi':i'=(i:Int) - 1:=by
   have e1:Value.int .i64 i'=Value.int .i64 ((i:Int) - 1):=(List.cons.inj (List.cons.inj hv).2).1
   cases e1; rfl
  subst hi'
  refine qE (fun h=>?_) (fun h=>?_)
  ·have hpos:(0:Int)≤(i:Int) - 1:=of_decide_eq_true h
   obtain ⟨j,rfl⟩:∃ j,i=j+1:=⟨i - 1,by omega⟩
   have hjlt:j < m.kids.length:=hi
   refine jS (A:=dc ((jk S m c (j+1)).map (·.1)) (PS.map (·.1))) (List.mem_cons_self ..) ?_
   refine aS (b1:=.ptr) qp (List.mem_cons_of_mem _ (List.mem_cons_of_mem _ h7)) (by kernel_rfl) rfl rfl ?_
   refine nb (n:=m) (x:=qp) (List.mem_cons_of_mem _ (List.mem_cons_of_mem _ hm)) fun bn sln psn hq=>?_
   subst hq
   refine iY ?_
   refine aS (b1:=.slice) sln (List.mem_cons_self ..) (by kernel_rfl) rfl rfl ?_
   refine Sim.note (φ:=psn.length=m.kids.length) (fun F hF=>NodesAt.length (hF (dc m.kids psn) (by repeat (first | exact mz | apply ms)))) fun hpl=>?_
   refine Sim.note (φ:=∃ a,sln.1=some a∧a.spot=none) (fun F hF=>Sl.addr (hF (Sl 1 eo sln psn) (by repeat (first | exact mz | apply ms))) (by omega)) fun ⟨a,ha,_⟩=>?_
   refine aW (p3 (f:=eo) (l:=psn) ha (fun F hF=>hF _ (by repeat (first | exact mz | apply ms))) (by kernel_rfl) j (by show ((j+1:Nat):Int) - 1=_; push_cast; omega) (by omega)) ?_
   rintro _ _ _ ⟨rfl,rfl,rfl⟩
   have hpj:psn[j]? = some psn[j]:=List.getElem?_eq_getElem (by omega)
   refine aW (rI (f:=eo) (b:=.ptr) wi ha (fun F hF=>hF _ (by repeat (first | exact mz | apply ms))) hpj (by kernel_rfl) psn[j] rfl) ?_
   rintro _ _ _ ⟨rfl,rfl,rfl⟩
   refine aW (lC (e:=bJ) (size:=2) (z:=.agg #[.pointer none,.int .i64 0]) [.pointer psn[j],.int .i64 (c:Int)] (by kernel_rfl) (by kernel_rfl) (by decide) (by decide) (by kernel_rfl)) ?_
   rintro _ _ _ ⟨bp,rfl,rfl,rfl⟩
   have hPl:PS.length=(jk S m c (j+1)).length:=by have:=congrArg List.length hPS; simpa using this
   have hsl:sl'.2.1=PS.length:=by have h1:=hst.len; rw [dz mv] at h1; omega
   have hstl:(jk S m c (j+1)).length+(j+1)≤1099511627776:=by unfold jk; simp; omega
   refine aW (eZ (L0:=Lr) (K:=K1) (size:=2) (bytes:=16) (e:=bJ) (m:=1) (news:=[.pointer psn[j],.int .i64 (c:Int)]) (by kernel_rfl) rfl hst (Rd.at (List.mem_cons_self ..)) rfl rfl rfl (by decide) (by simp [Value.oneCell']) (by show (sl'.2.1+1) * 16≤_; omega) (by show sl'.2.1+1≤_; omega)) ?_
   rintro y _ _ ⟨K1',rfl,rfl,hy,hbuf⟩
   refine cQ rfl ⟨⟨j,by omega⟩,Nat.lt_succ_self j⟩ rfl fun F hF=>⟨y,K1',PS++[(psn[j],(c:Int))],⟨?_,rfl,?_,?_⟩,?_⟩
   ·show [Value.slice y.1 y.2.1 y.2.2,.int .i64 (IntKind.i64.wrap ((((j+1:Nat):Int) - 1) - 1))]=_
    rw [bg (by omega) (by omega)]
    congr 3; push_cast; omega
   ·rw [pc]; exact hbuf
   ·rw [Cb hjlt,List.map_append,List.map_append,hPS]; rfl
   ·show NodesAt F _ _
    rw [Cb hjlt,List.map_append,List.map_append]
    have h1:(dc ((jk S m c (j+1)).map (fun s:N × Int=>s.1)) (PS.map (fun s:Option Addr × Int=>s.1))).p F:=hF _ (by repeat (first | exact mz | apply ms))
    have h2:NodesAt F psn m.kids:=hF (dc m.kids psn) (by repeat (first | exact mz | apply ms))
    obtain ⟨p,g1,g2⟩:=NodesAt.get h2 j hjlt
    rw [hpj] at g1; cases g1
    exact NodesAt.snoc g2 h1
  ·have h0:¬ (0:Int)≤(i:Int) - 1:=of_decide_eq_false h
   obtain rfl:i=0:=by omega
   exact hk sl' K1 PS _ hst hPS (List.mem_cons_self ..) _
def Im (K1 KT:ak) (r1 r2:Nat) (x:aV):ak:=K1++(KT++dR r1 r2 x)
structure LaidOk (k:Nat) (S:List (N × Int)) (ns:List FN):Prop where
 sz:N.sizes (S.map (·.1))≤k
 bd:ns.length+k≤1099511627776
 pr:∀ s∈S,-1≤s.2∧s.2 < ns.length
 kl:∀ f∈ns,f.kids.length≤ns.length
theorem vL {α:Type} {g:α→α} {x:α}:∀ {l:List α} {i:Nat},x∈l.modify i g→x∈l∨∃ y∈l,x=g y
 | [],i,h=>by cases i<;>simp at h
 | y::l,0,h=>by
  simp only [List.modify_zero_cons,List.mem_cons] at h
  rcases h with rfl | h
  ·exact .inr ⟨y,by simp,rfl⟩
  ·exact .inl (by simp [h])
 | y::l,i+1,h=>by
  simp only [List.modify_succ_cons,List.mem_cons] at h
  rcases h with rfl | h
  ·exact .inl (by simp)
  ·rcases vL h with h | ⟨z,h1,h2⟩
   ·exact .inl (by simp [h])
   ·exact .inr ⟨z,by simp [h1],h2⟩
theorem LaidOk.step {k:Nat} {S:List (N × Int)} {ns:List FN} {m:N} {pp:Int} (h:LaidOk (k+1) (S++[(m,pp)]) ns):LaidOk k (jk S m ns.length 0) (eS (ns++[⟨m.kind,m.text,m.num,m.pos,[]⟩]) pp ns.length):=by
 obtain ⟨h1,h2,h3,h4⟩:=h
 refine ⟨?_,?_,?_,?_⟩
 ·have e:(jk S m ns.length 0).map (·.1)=S.map (·.1)++m.kids.reverse:=by simp [jk,Function.comp_def]
  rw [e,fj,rl]
  simp only [List.map_append,List.map_cons,List.map_nil,fj,N.sizes] at h1
  have:=N.size_eq m
  omega
 ·rw [qV]; simp; omega
 ·intro s hs
  rw [qV]
  simp only [jk,List.drop_zero,List.mem_append,List.mem_map,List.mem_reverse] at hs
  rcases hs with hs | ⟨n,_,rfl⟩
  ·have:=h3 s (by simp [hs]); simp; omega
  ·simp; omega
 ·intro f hf
  rw [qV]
  unfold eS at hf
  split at hf
  ·rcases vL hf with hf | ⟨y,hy,rfl⟩
   ·simp only [List.mem_append,List.mem_singleton] at hf
    rcases hf with hf | rfl
    ·have:=h4 f hf; simp; omega
    ·simp
   ·simp only [List.mem_append,List.mem_singleton] at hy
    rcases hy with hy | rfl
    ·have:=h4 y hy; simp; omega
    ·simp
  ·simp only [List.mem_append,List.mem_singleton] at hf
   rcases hf with hf | rfl
   ·have:=h4 f hf; simp; omega
   ·simp
theorem CY (k:Nat) (S:List (N × Int)) (ns:List FN) (m:N) (pp:Int):dO (k+1) (S++[(m,pp)]).reverse ns=dO k (jk S m ns.length 0).reverse (eS (ns++[⟨m.kind,m.text,m.num,m.pos,[]⟩]) pp ns.length):=by
 simp [jk,dO]
def vM (r1 r2:Nat) (res:List FN) {ε σ:Type}:Label ε σ (List FN) :=
 {ι:={ j:Nat × List (N × Int) × List FN // LaidOk j.1 j.2.1 j.2.2∧dO j.1 j.2.1.reverse j.2.2=res },sp:=fun _=>Pure.pure res,
  J:=fun j vs L'=>Fact.ex fun sl:aV=>Fact.ex fun K1:ak=>Fact.ex fun PS:List (Option Addr × Int)=>Fact.ex fun x:aV=>Fact.ex fun es:List E=>Fact.ex fun KT:ak =>
   (Fact.prop (vs=[.slice sl.1 sl.2.1 sl.2.2]∧L'=Im K1 KT r1 r2 x∧Buf bJ 2 sl (rows q9 PS) K1∧TreeP es x KT∧es.map (·.f)=j.1.2.2∧PS.map (·.2)=j.1.2.1.map (·.2))).both (dc (j.1.2.1.map (·.1)) (PS.map (·.1))) }
def ED {ε σ:Type} (n:N):Sp ε σ (List FN):=if n.size≤549755813888 then Pure.pure (dO n.size [(n,-1)] []) else Sp.stop
def tl (l:List FN) (x:HB [.slice]) (K:ak):Fact:=Fact.ex fun es:List E=>Fact.prop (es.map (·.f)=l∧TreeP es x.1 K)
theorem KF {ε σ:Type} (I:aN ε σ) (n:N) (p:Option Addr):MeetsO PG I (aa mT #[.pointer p]) (.c (.agg [.slice])) (ED n) tl [NodeF n p]:=by
 refine A5 p ?_
 unfold ng ED
 by_cases hsz:n.size≤549755813888
 case neg=>rw [if_neg hsz]; exact B3
 rw [if_pos hsz]
 refine aW (bT (z:=[.slice none 0 0]) (by kernel_rfl)) ?_
 rintro _ _ _ ⟨r1,rfl,rfl,rfl⟩
 refine aW (bT (z:=[.slice none 0 0]) (by kernel_rfl)) ?_
 rintro _ _ _ ⟨r2,rfl,rfl,rfl⟩
 -- the stack's first place
 refine aW (t1:=ai) (post:=fun y L' Γ'=>∃ b,y=(some ⟨b,0,none⟩,1,1)∧L'=(b,ap bJ [.pointer p,.int .i64 (-1)])::[(r2,ap aB [.slice none 0 0]),(r1,ap aB [.slice none 0 0])]∧Γ'=[NodeF n p]) ?_ ?_
 ·refine Loc.val fun r w F H hF hsp=>⟨(some ⟨w.heap.size,0,none⟩,1,1),w.alloc (ap bJ [.pointer p,.int .i64 (-1)]),_,_,F,.inl ?_,Heap.le.refl F,hF,(hsp.new _).perm List.perm_middle,w.heap.size,rfl,rfl,rfl⟩
  have:=k5 (P:=PG) (w:=w) (t:=cP) (e:=bJ) (n:=1) (size:=2) (ps:=#[(0,.agg #[.pointer p,.int .i64 (-1)])]) (cells:=#[.pointer p,.int .i64 (-1)]) (zero:=.agg #[.pointer none,.int .i64 0]) (by kernel_rfl) (by decide) (by kernel_rfl) (by kernel_rfl) (by decide)
  have h2:(aG cP 1 #[(0,.agg #[.pointer p,.int .i64 (-1)])]).run PG w=.ok (.value (.slice (some ⟨w.heap.size,0,none⟩) 1 1)) (w.alloc (ap bJ [.pointer p,.int .i64 (-1)])):=by simpa using this
  exact h2
 rintro _ _ _ ⟨bs,rfl,rfl,rfl⟩
 generalize hres:dO n.size [(n,-1)] []=res
 refine eu (x:={ ι:=Unit,sp:=fun _=>Pure.pure res,J:=fun _ vs L'=>Fact.ex fun x:aV=>Fact.ex fun es:List E=>Fact.ex fun KT:ak=>Fact.prop (vs=[]∧L'=KT++[(r2,ap aB [.slice x.1 x.2.1 x.2.2]),(r1,ap aB [.slice none 0 0])]∧TreeP es x KT∧es.map (·.f)=res) }) ?_ fun _ vs L'=>⟨?_,?_⟩
 ·refine gH (x:=vM r1 r2 res) (fun j=>j.1.1) ⟨(n.size,[(n,-1)],[]),⟨by simp [N.sizes],by simp; omega,by simp,by simp⟩,hres⟩ rfl
   (fun F hF=>⟨(some ⟨bs,0,none⟩,1,1),[(bs,ap bJ [.pointer p,.int .i64 (-1)])],[(p,-1)],(none,0,0),[],[],⟨rfl,rfl,?_,⟨[],rfl,Buf.nil ..,by simp⟩,rfl,rfl⟩,NodesAt.one (hF _ (List.mem_cons_self ..))⟩) ?_ ?_
  ·exact .inr ⟨bs,_,rfl,rfl,rfl,Nat.le_refl _,by show (1:Nat)≤maxLen; unfold maxLen; decide,rfl,rfl⟩
  ·rintro j vs L' F ⟨sl,K1,PS,x,es,KT,⟨rfl,_⟩,_⟩; exact ⟨(sl,()),rfl⟩
  ·rintro ⟨⟨k,S,ns⟩,hok,hgo⟩ L' ⟨sl',⟨⟩⟩
   refine Sim.ex fun sl=>Sim.ex fun K1=>Sim.ex fun PS=>Sim.ex fun x=>Sim.ex fun es=>Sim.ex fun KT=>Sim.both (Sim.prop fun ⟨hv,hL,hst,htr,hes,hPS⟩=>?_)
   subst hL
   obtain rfl:sl'=sl:=by
    obtain ⟨a,b,c⟩:=sl'; obtain ⟨a2,b2,c2⟩:=sl
    have e1:Value.slice a b c=Value.slice a2 b2 c2:=(List.cons.inj hv).1
    cases e1; rfl
   replace hgo:dO k S.reverse ns=res:=hgo
   replace hok:LaidOk k S ns:=hok
   replace hes:es.map (·.f)=ns:=hes
   replace hPS:PS.map (·.2)=S.map (·.2):=hPS
   have hlen:PS.length=S.length:=by have:=congrArg List.length hPS; simpa using this
   have hsl:sl'.2.1=PS.length:=by
    have h1:=hst.len
    rw [dz mv] at h1; omega
   refine qE (fun h=>?_) (fun h=>?_)
   ·-- a place is taken from the stack
    have hpos:0 < PS.length:=by have h':(0:Int) < (sl'.2.1:Int):=of_decide_eq_true h; omega
    rcases ub PS with rfl | ⟨PS',⟨q,pp⟩,rfl⟩
    ·simp at hpos
    rcases ub S with rfl | ⟨S',⟨m,pm⟩,rfl⟩
    ·simp at hlen
    simp only [List.map_append,List.map_cons,List.map_nil] at hPS
    obtain ⟨hPS',hpp⟩:=List.append_inj' hPS rfl
    obtain rfl:pp=pm:=by simpa using hpp
    obtain ⟨g,cells,rfl,ha,g3,g4,g5,g6,g7⟩:=hst.open (by omega)
    have hl1:sl'.2.1=PS'.length+1:=by rw [hsl]; simp
    have hw:IntKind.i64.wrap ((sl'.2.1:Int) - 1)=((PS'.length:Nat):Int):=by
     have hb1:S'.length+1≤1099511627776:=by
      have h1:=qX ((S'++[(m,pp)]).map (·.1)); have h2:=hok.sz; have h3:=hok.bd; simp at h1 h2; omega
     have hl2:PS'.length=S'.length:=by simpa using hlen
     rw [bg (by omega) (by omega)]; omega
    have hrow:=Buf.row (e:=bJ) (i:=PS'.length) g7 (by omega)
    have hrow2:((rows q9 (PS'++[(q,pp)])).drop (PS'.length * 2)).take 2=[.pointer q,.int .i64 pp]:=by
     rw [pc,List.drop_append,List.drop_of_length_le (by rw [dz mv]; omega),dz mv,Nat.mul_comm,Nat.sub_self]; rfl
    refine Sim.know (A:=dc (S'.map (·.1)) (PS'.map (·.1))) (fun F hF=>?_) (Sim.know (A:=NodeF m q) (fun F hF=>?_) ?_)
    ·have h1:NodesAt F ((PS'++[(q,pp)]).map (·.1)) ((S'++[(m,pp)]).map (·.1)):=hF _ (List.mem_cons_self ..)
     simp only [List.map_append,List.map_cons,List.map_nil] at h1
     exact (NodesAt.split h1).1
    ·have h1:NodesAt F ((PS'++[(q,pp)]).map (·.1)) ((S'++[(m,pp)]).map (·.1)):=hF _ (List.mem_cons_of_mem _ (List.mem_cons_self ..))
     simp only [List.map_append,List.map_cons,List.map_nil] at h1
     exact (NodesAt.split h1).2
    refine Sim.weak (Γ':=[NodeF m q,dc (S'.map (·.1)) (PS'.map (·.1))]) ?_ (fun A hA=>by simp only [List.mem_cons,List.not_mem_nil,or_false] at hA; rcases hA with rfl | rfl<;>exact (by repeat (first | exact mz | apply ms)))
    refine Hb (n:=2) (x:=sl') PS'.length ha (by kernel_rfl) hw (by omega) ?_
    refine Hk (T0:=bJ) (l:=cells) (bs:=[.ptr,.int .i64]) (q,pp,()) (List.mem_cons_self ..) (by kernel_rfl) rfl (by
     show ((cells.drop (PS'.length * 2)).take 2)=_
     rw [hrow,hrow2]; rfl) ?_
    refine gB (c:=true) (z:=[.pointer none,.int .i64 0]) (by kernel_rfl) (by kernel_rfl) rfl (by simp [Value.cells,Value.oneCell']) fun b7=>?_
    refine Ht (x:=sl') PS'.length (by kernel_rfl) (by kernel_rfl) (fun b hb=>by rw [ha] at hb; cases hb; rfl) hw (by omega) ?_
    refine HU (T0:=aB) (l:=[.slice x.1 x.2.1 x.2.2]) (b1:=.slice) x (by simp [Im,dR]) (by kernel_rfl) rfl rfl ?_
    have hel:es.length=ns.length:=by rw [← hes]; simp
    have hxl:x.2.1=ns.length:=by
     obtain ⟨K0,_,hB,_⟩:=htr
     have h1:=hB.len; rw [dz et] at h1; omega
    have hk0:0 < k:=by have h1:=hok.sz; simp only [List.map_append,List.map_cons,List.map_nil,fj,N.sizes] at h1; have:=N.size_eq m; omega
    obtain ⟨k',rfl⟩:∃ k',k=k'+1:=⟨k - 1,by omega⟩
    have hbd:=hok.bd
    have hpr:=hok.pr (m,pp) (by simp)
    refine Dm (Kst:=[(g,ap bJ cells)]) (b7:=b7) (pp:=pp) (m:=m) (qp:=q) htr (by repeat (first | exact mz | apply ms)) (by repeat (first | exact mz | apply ms)) (by omega) fun x2 KT2 htr2=>?_
    refine aS (b1:=.int .i64) pp (by repeat (first | exact mz | apply ms)) (by kernel_rfl) rfl rfl ?_
    refine eu (x:={ ι:=Unit,sp:=fun _=>Pure.pure res,J:=fun _ vs L'=>Fact.ex fun es3:List E=>Fact.ex fun KT3:ak=>Fact.prop (vs=[]∧L'=[(g,ap bJ cells)]++(KT3++dR r1 r2 x2)∧TreeP es3 x2 KT3∧es3.map (·.f)=eS (ns++[⟨m.kind,m.text,m.num,m.pos,[]⟩]) pp ns.length) }) ?_ fun _ vs L'=>⟨?_,?_⟩
    ·refine qE (fun h=>?_) (fun h=>?_)
     ·have hpp0:(0:Int)≤pp:=of_decide_eq_true h
      have hpl:pp < (ns.length:Int):=hpr.2
      refine E9 (b7:=b7) (pp:=pp) (qv:=.pointer q) x.2.1 htr2 pp.toNat (by simp; omega) (by omega) (by repeat (first | exact mz | apply ms)) ?_ fun es3 KT3 htr3 he3=>?_
      ·intro e he
       have hf:e.f∈ns∨e.f=⟨m.kind,m.text,m.num,m.pos,[]⟩:=by
        simp only [List.mem_append,List.mem_singleton] at he
        rcases he with he | rfl
        ·left; rw [← hes]; exact List.mem_map.2 ⟨e,he,rfl⟩
        ·exact .inr rfl
       rcases hf with hf | hf
       ·have:=hok.kl _ hf; omega
       ·rw [hf]; simp
      ·refine cQ rfl () rfl fun F hF=>⟨es3,KT3,rfl,rfl,htr3,?_⟩
       rw [he3,hxl,List.map_append,hes]; rfl
     ·have hpp0:¬ (0:Int)≤pp:=of_decide_eq_false h
      refine cQ rfl () rfl fun F hF=>⟨_,KT2,rfl,rfl,htr2,?_⟩
      unfold eS
      rw [if_neg hpp0,List.map_append,hes]; rfl
    ·rintro F ⟨es3,KT3,rfl,_⟩; exact ⟨(),rfl⟩
    ·rintro ⟨⟩
     refine Sim.ex fun es3=>Sim.ex fun KT3=>Sim.prop fun ⟨_,hL,htr3,he3⟩=>?_
     subst hL
     refine aS (b1:=.ptr) q (by repeat (first | exact mz | apply ms)) (by kernel_rfl) rfl rfl ?_
     refine nb (n:=m) (x:=q) (by repeat (first | exact mz | apply ms)) fun bn sln psn hq=>?_
     subst hq
     refine iY ?_
     refine aS (b1:=.slice) sln (List.mem_cons_self ..) (by kernel_rfl) rfl rfl ?_
     refine Sim.note (φ:=sln.2.1=m.kids.length) (fun F hF=>?_) fun hkl=>?_
     ·have h1:NodesAt F psn m.kids:=hF (dc m.kids psn) (by repeat (first | exact mz | apply ms))
      rw [(hF (Sl 1 eo sln psn) (by repeat (first | exact mz | apply ms))).1,NodesAt.length h1]
     have htk:Buf bJ 2 (sl'.1,PS'.length,sl'.2.2) (rows q9 PS') [(g,ap bJ cells)]:=by
      have h1:=hst.take (m:=PS'.length) (by omega)
      rw [pc,List.take_left' (by rw [dz mv]; omega)] at h1
      exact h1
     have hsz:=hok.sz
     simp only [List.map_append,List.map_cons,List.map_nil,fj,N.sizes] at hsz
     have hs1:=qX (S'.map (·.1))
     have hs2:=qX m.kids
     have hs3:=N.size_eq m
     simp only [List.length_map] at hs1
     rw [show (x.2.1:Int)=((ns.length:Nat):Int) by rw [hxl]]
     refine Br (b7:=b7) (m:=m) (pp:=pp) (sl:=(sl'.1,PS'.length,sl'.2.2)) (S:=S') (PS:=PS') ns.length (ksl:=sln) (by repeat (first | exact mz | apply ms)) (by repeat (first | exact mz | apply ms)) htk hPS' (by repeat (first | exact mz | apply ms)) (by omega) hkl fun sl3 K3 PS3 Γ3 hb3 hp3 hn3 xl=>?_
     refine cQ (x:={ ι:={ j:(vM (ε:=ε) (σ:=σ) r1 r2 res).ι // j.1.1 < k'+1 },sp:=fun j=>(vM r1 r2 res).sp j.1,J:=fun j vs L=>(vM (ε:=ε) (σ:=σ) r1 r2 res).J j.1 vs L }) (by simp [Labels.set]) ⟨⟨(k',jk S' m ns.length 0,eS (ns++[⟨m.kind,m.text,m.num,m.pos,[]⟩]) pp ns.length),hok.step,by rw [← CY]; exact hgo⟩,Nat.lt_succ_self k'⟩ rfl
      fun F hF=>⟨sl3,K3,PS3,x2,es3,KT3,⟨rfl,rfl,hb3,htr3,he3,hp3⟩,hF _ hn3⟩
   ·have h0:PS.length=0:=by have h':¬ (0:Int) < (sl'.2.1:Int):=of_decide_eq_false h; omega
    have hS0:S=[]:=List.length_eq_zero_iff.1 (by omega)
    subst hS0
    refine up (L':=KT++[(r2,ap aB [.slice x.1 x.2.1 x.2.2]),(r1,ap aB [.slice none 0 0])]) (List.sublist_append_right ..) ?_
    refine cQ rfl () rfl fun F hF=>⟨x,es,KT,rfl,rfl,htr,?_⟩
    rw [hes,← hgo]; simp [vV]
 ·rintro F ⟨x,es,KT,rfl,_⟩; exact ⟨(),rfl⟩
 ·rintro ⟨⟩
  refine Sim.ex fun x=>Sim.ex fun es=>Sim.ex fun KT=>Sim.prop fun ⟨_,hL,htr,hes⟩=>?_
  subst hL
  refine aW (f5 (bs:=[.slice]) (x:=(x,())) (Rd.own (b:=r2) (o:=ap aB [.slice x.1 x.2.1 x.2.2]) (List.mem_append_right _ (List.mem_cons_self ..))) (by kernel_rfl) rfl rfl) ?_
  rintro _ _ _ ⟨rfl,rfl,rfl⟩
  refine aW (br (L1:=KT++[(r2,ap aB [.slice x.1 x.2.1 x.2.2])]) (L2:=[]) (T:=aB) (T0:=aB) (l:=[.slice none 0 0]) (c:=true) (by simp) (by kernel_rfl) rfl (Nat.le_of_ble_eq_true rfl) (by simp [Value.cells,Value.oneCell'])) ?_
  rintro _ _ _ ⟨rfl,rfl⟩
  refine uF KT (by simp) (x,()) (fun r w F H hF hsp=>eX (vs:=[.slice x.1 x.2.1 x.2.2]) (by kernel_rfl) (hsp.own r1 (ap aB [.slice x.1 x.2.1 x.2.2]) (by simp [bW,Value.cells])) rfl rfl) (fun F hF=>⟨es,hes,htr⟩)
end Go.Proofs.YtjlgcpgjdgeejaaGreatDoor
end

section
namespace Go.Proofs.YtjlgcpgjdgeejaaGreatDoor
open Go
set_option linter.unusedVariables false
set_option maxRecDepth 100000
noncomputable section
def xu:An :=
 .s (.r [none]) (.s (.r [none,none,none,none,none,none,none,none,none,none,none,none,none,none,none,none,none,none,none,none,none,none,none]) (.x))
def mG (a0_c:Int):T :=
 .ite (decide ((a0_c:Int)≥97)) (
 .ite (decide ((a0_c:Int)≤122)) (
 .ret #[.v (.bool true)]) (
 .ite (decide ((a0_c:Int)≥65)) (
 .ite (decide ((a0_c:Int)≤90)) (
 .ret #[.v (.bool true)]) (
 .ite ((a0_c:Int)==95) (
 .ret #[.v (.bool true)]) (
 .ret #[.v (.bool ((a0_c:Int)==36))]))) (
 .ite ((a0_c:Int)==95) (
 .ret #[.v (.bool true)]) (
 .ret #[.v (.bool ((a0_c:Int)==36))])))) (
 .ite (decide ((a0_c:Int)≥65)) (
 .ite (decide ((a0_c:Int)≤90)) (
 .ret #[.v (.bool true)]) (
 .ite ((a0_c:Int)==95) (
 .ret #[.v (.bool true)]) (
 .ret #[.v (.bool ((a0_c:Int)==36))]))) (
 .ite ((a0_c:Int)==95) (
 .ret #[.v (.bool true)]) (
 .ret #[.v (.bool ((a0_c:Int)==36))])))
theorem AM (a0_c:Int):cc Tryz.prog Tryz.f107 xu [.int .u8 a0_c]=mG a0_c:=by kernel_rfl
theorem A7 {ε σ β:Type} {I:aN ε σ} {t:Ty} {s:Sp ε σ β} {Rel:β→t.den→ak→Fact} {Γ:List Fact} (a0_c:Int) (h:Sim Tryz.prog I t Rel noLabel none (mG a0_c) s [] Γ):MeetsO Tryz.prog I (aa gP #[.int .u8 a0_c]) t s Rel Γ :=
 aq (args:=[.int .u8 a0_c]) Tryz.func107 rfl rfl (Nat.le_of_ble_eq_true rfl) (by rw [AM]; exact h)
def zX:An :=
 .s (.r [none]) (.s (.r [none,none,none,none,none,none,none]) (.x))
def oI (a0_c:Int):T :=
 .ite (decide ((a0_c:Int)≥48)) (
 .ret #[.v (.bool (decide ((a0_c:Int)≤57)))]) (
 .ret #[.v (.bool false)])
theorem Ch (a0_c:Int):cc Tryz.prog Tryz.f109 zX [.int .u8 a0_c]=oI a0_c:=by kernel_rfl
theorem BO {ε σ β:Type} {I:aN ε σ} {t:Ty} {s:Sp ε σ β} {Rel:β→t.den→ak→Fact} {Γ:List Fact} (a0_c:Int) (h:Sim Tryz.prog I t Rel noLabel none (oI a0_c) s [] Γ):MeetsO Tryz.prog I (aa iC #[.int .u8 a0_c]) t s Rel Γ :=
 aq (args:=[.int .u8 a0_c]) Tryz.func109 rfl rfl (Nat.le_of_ble_eq_true rfl) (by rw [Ch]; exact h)
def ud:An :=
 .s (.r [none]) (.s (.r [none,some tS,some tS,some tB,none]) (.x))
def kR (a0_s:ByteArray):T :=
 .op (cU .add aK (.string k_sp) (.string a0_s)) tS fun r1 =>
 .op (cU .add aK (.string r1) (.string k_sp)) tS fun r2 =>
 .op (aa ix #[.string D6,.string r2]) tB fun r3 =>
 .ret #[.v (.bool r3)]
theorem wF (a0_s:ByteArray):cc Tryz.prog Tryz.f165 ud [.string a0_s]=kR a0_s:=by kernel_rfl
theorem vj {ε σ β:Type} {I:aN ε σ} {t:Ty} {s:Sp ε σ β} {Rel:β→t.den→ak→Fact} {Γ:List Fact} (a0_s:ByteArray) (h:Sim Tryz.prog I t Rel noLabel none (kR a0_s) s [] Γ):MeetsO Tryz.prog I (aa kq #[.string a0_s]) t s Rel Γ :=
 aq (args:=[.string a0_s]) Tryz.func165 rfl rfl (Nat.le_of_ble_eq_true rfl) (by rw [wF]; exact h)
def AX:An :=
 .s (.r [none]) (.s (.r [none,none,some tA,none]) (.x))
def oD (a0_b:Option Addr × Nat × Nat):T :=
 .op (iK ck (.agg #[.slice a0_b.1 a0_b.2.1 a0_b.2.2,.int .i64 0,.slice none 0 0])) tA fun r1 =>
 .ret #[.v (.pointer (some r1))]
theorem Cz (a0_b:Option Addr × Nat × Nat):cc Tryz.prog Tryz.f71 AX [.slice a0_b.1 a0_b.2.1 a0_b.2.2]=oD a0_b:=by kernel_rfl
theorem Ca {ε σ β:Type} {I:aN ε σ} {t:Ty} {s:Sp ε σ β} {Rel:β→t.den→ak→Fact} {Γ:List Fact} (a0_b:Option Addr × Nat × Nat) (h:Sim Tryz.prog I t Rel noLabel none (oD a0_b) s [] Γ):MeetsO Tryz.prog I (aa oP #[.slice a0_b.1 a0_b.2.1 a0_b.2.2]) t s Rel Γ :=
 aq (args:=[.slice a0_b.1 a0_b.2.1 a0_b.2.2]) Tryz.func71 rfl rfl (Nat.le_of_ble_eq_true rfl) (by rw [Cz]; exact h)
def yO:An :=
 .s (.r [none]) (.s (.r [none,none,none,some ai,none,none,none,none,none,none,none,none,none,none,some ai,none,none,none,none,none,some ai,some tS,none,none,none,none]) (.x))
def mQ (a0_s:Addr) (a1_at:Int) (a2_x:ByteArray):T :=
 .op (am aj (.pointer (some a0_s))) ai fun r1 =>
 .ite (decide ((IntKind.i64.wrap ((r1.2.1:Int) - a1_at):Int)≥(a2_x.size:Int))) (
 .op (am aj (.pointer (some a0_s))) ai fun r2 =>
 .op (fV aj (.slice r2.1 r2.2.1 r2.2.2) (some (.int .i64 a1_at)) (some (.int .i64 (IntKind.i64.wrap (a1_at+(a2_x.size:Int))))) none) ai fun r3 =>
 .op (ig aj aK (.slice r3.1 r3.2.1 r3.2.2)) tS fun r4 =>
 .ret #[.v (.bool (r4.toList==a2_x.toList))]) (
 .ret #[.v (.bool false)])
theorem Ax (a0_s:Addr) (a1_at:Int) (a2_x:ByteArray):cc Tryz.prog Tryz.f162 yO [.pointer (some a0_s),.int .i64 a1_at,.string a2_x]=mQ a0_s a1_at a2_x:=by kernel_rfl
theorem zT {ε σ β:Type} {I:aN ε σ} {t:Ty} {s:Sp ε σ β} {Rel:β→t.den→ak→Fact} {Γ:List Fact} (a0_s:Addr) (a1_at:Int) (a2_x:ByteArray) (h:Sim Tryz.prog I t Rel noLabel none (mQ a0_s a1_at a2_x) s [] Γ):MeetsO Tryz.prog I (aa eF #[.pointer (some a0_s),.int .i64 a1_at,.string a2_x]) t s Rel Γ :=
 aq (args:=[.pointer (some a0_s),.int .i64 a1_at,.string a2_x]) Tryz.func162 rfl rfl (Nat.le_of_ble_eq_true rfl) (by rw [Ax]; exact h)
def xG:An :=
 .s (.r [some tA]) (.s (.d (.q 0 none (.q 1 none (.q 2 none (.q 3 none (.q 4 (some ai) (.q 5 none (.q 6 none (.q 7 none (.q 8 (some tI) (.q 9 none (.q 10 (some ai) (.q 11 (some tS) (.q 12 none (.q 13 none (.q 14 none (.q 15 (some tI) (.q 16 none (.q 17 none (.l 18 (some tU) (.e))))))))))))))))))))) (.x))
def mE (a0_s:Addr) (a1_kind:Int) (a2_end:Int):T :=
 .op (bD ad) tA fun r1 =>
 .draw <|
 .opq (am aj (.pointer (some a0_s))) ai fun r2 =>
 .opq (am ar (.pointer (some ⟨a0_s.block,a0_s.off+1,none⟩))) tI fun r3 =>
 .opq (fV aj (.slice r2.1 r2.2.1 r2.2.2) (some (.int .i64 r3)) (some (.int .i64 a2_end)) none) ai fun r4 =>
 .opq (ig aj aK (.slice r4.1 r4.2.1 r4.2.2)) tS fun r5 =>
 .opq (am ar (.pointer (some ⟨a0_s.block,a0_s.off+1,none⟩))) tI fun r6 =>
 .op (a7 ad (.pointer (some r1)) (.agg #[.int .i64 a1_kind,.string r5,.int .i64 r6,.int .i64 a2_end])) tU fun _ =>
 .ret #[.c (.pointer (some r1)) ad]
theorem AS (a0_s:Addr) (a1_kind:Int) (a2_end:Int):cc Tryz.prog Tryz.f164 xG [.pointer (some a0_s),.int .i64 a1_kind,.int .i64 a2_end]=mE a0_s a1_kind a2_end:=by kernel_rfl
theorem zZ {ε σ β:Type} {I:aN ε σ} {t:Ty} {s:Sp ε σ β} {Rel:β→t.den→ak→Fact} {Γ:List Fact} (a0_s:Addr) (a1_kind:Int) (a2_end:Int) (h:Sim Tryz.prog I t Rel noLabel none (mE a0_s a1_kind a2_end) s [] Γ):MeetsO Tryz.prog I (aa gS #[.pointer (some a0_s),.int .i64 a1_kind,.int .i64 a2_end]) t s Rel Γ :=
 aq (args:=[.pointer (some a0_s),.int .i64 a1_kind,.int .i64 a2_end]) Tryz.func164 rfl rfl (Nat.le_of_ble_eq_true rfl) (by rw [AS]; exact h)
def wK:An :=
 .s (.r [some tA]) (.s (.r [none,none,none,some tI,none]) (.s (.j [(3,.b (.int .i64))] (.b (.l [(3,.b (.int .i64))] (.s (.s (.r [none,none,none,none,some ai,none,none,none,none,none,none,some ai,none,some tA,some cR,some tB,none,none,none,none,some ai,none,some tA,some cR,some tB,none,none]) (.c (.x) (.x))) (.b (.r [none,none,none])))))) (.s (.r [none,none,some (.c (.agg [.int .i64,.str,.int .i64,.int .i64])),some tA,some tU]) (.s (.s (.r [none,some tS,some tB]) (.c (.r [none,some tU]) (.x))) (.s (.r [some (.c (.agg [.int .i64,.str,.int .i64,.int .i64])),some tU]) (.x))))))
def lE (a0_s:Addr):T :=
 .op (bD ad) tA fun r1 =>
 .op (am ar (.pointer (some ⟨a0_s.block,a0_s.off+1,none⟩))) tI fun r2 =>
 .join 0 [.b (.int .i64)] (
 .loop 1 [.b (.int .i64)] [.int .i64 r2] fun x3 =>
 .op (am aj (.pointer (some a0_s))) ai fun r4 =>
 .ite (decide ((x3.1:Int) < (r4.2.1:Int))) (
 .op (am aj (.pointer (some a0_s))) ai fun r5 =>
 .op (bQ aj (.slice r5.1 r5.2.1 r5.2.2) (.int .i64 x3.1)) tA fun r6 =>
 .op (am ax (.pointer (some r6))) cR fun r7 =>
 .op (aa gP #[.int .u8 r7]) tB fun r8 =>
 .ite r8 (
 .out 1 [.int .i64 (IntKind.i64.wrap (x3.1+1))]) (
 .op (am aj (.pointer (some a0_s))) ai fun r9 =>
 .op (bQ aj (.slice r9.1 r9.2.1 r9.2.2) (.int .i64 x3.1)) tA fun r10 =>
 .op (am ax (.pointer (some r10))) cR fun r11 =>
 .op (aa iC #[.int .u8 r11]) tB fun r12 =>
 .ite r12 (
 .out 1 [.int .i64 (IntKind.i64.wrap (x3.1+1))]) (
 .out 0 [.int .i64 x3.1]))) (
 .out 0 [.int .i64 x3.1])) fun x13 =>
 .op (aa gS #[.pointer (some a0_s),.int .i64 1,.int .i64 x13.1]) (.c (.agg [.int .i64,.str,.int .i64,.int .i64])) fun r14 =>
 .op (bD ad) tA fun r15 =>
 .op (a7 ad (.pointer (some r15)) (.agg #[.int .i64 r14.1,.string r14.2.1,.int .i64 r14.2.2.1,.int .i64 r14.2.2.2.1])) tU fun _ =>
 .op (am aK (.pointer (some ⟨r15.block,r15.off+1,none⟩))) tS fun r17 =>
 .op (aa kq #[.string r17]) tB fun r18 =>
 .ite r18 (
 .op (a7 ar (.pointer (some r15)) (.int .i64 2)) tU fun _ =>
 .op (am ad (.pointer (some r15))) (.c (.agg [.int .i64,.str,.int .i64,.int .i64])) fun r20 =>
 .op (a7 ad (.pointer (some r1)) (.agg #[.int .i64 r20.1,.string r20.2.1,.int .i64 r20.2.2.1,.int .i64 r20.2.2.2.1])) tU fun _ =>
 .ret #[.c (.pointer (some r1)) ad]) (
 .op (am ad (.pointer (some r15))) (.c (.agg [.int .i64,.str,.int .i64,.int .i64])) fun r22 =>
 .op (a7 ad (.pointer (some r1)) (.agg #[.int .i64 r22.1,.string r22.2.1,.int .i64 r22.2.2.1,.int .i64 r22.2.2.2.1])) tU fun _ =>
 .ret #[.c (.pointer (some r1)) ad])
theorem xU (a0_s:Addr):cc Tryz.prog Tryz.f108 wK [.pointer (some a0_s)]=lE a0_s:=by kernel_rfl
theorem xr {ε σ β:Type} {I:aN ε σ} {t:Ty} {s:Sp ε σ β} {Rel:β→t.den→ak→Fact} {Γ:List Fact} (a0_s:Addr) (h:Sim Tryz.prog I t Rel noLabel none (lE a0_s) s [] Γ):MeetsO Tryz.prog I (aa ly #[.pointer (some a0_s)]) t s Rel Γ :=
 aq (args:=[.pointer (some a0_s)]) Tryz.func108 rfl rfl (Nat.le_of_ble_eq_true rfl) (by rw [xU]; exact h)
def tr:An :=
 .s (.r [some tA]) (.s (.r [none,none,none,some tI,none,none]) (.s (.j [(3,.b (.int .i64)),(4,.b (.int .i64))] (.b (.l [(3,.b (.int .i64)),(4,.b (.int .i64))] (.s (.s (.j [(25,.b .bool)] (.r [none,none,none,none,some ai,none,none,none,none,none,none,some ai,none,some tA,some cR,some tB,none])) (.c (.x) (.x))) (.s (.b (.r [none,none,none,none,none,some ai,none,some tA,some cR,none,none,none,none,none])) (.r [none,none,none])))))) (.s (.b (.s (.s (.r [none,none,none]) (.j [(41,.b .bool)] (.c (.x) (.s (.j [(41,.b .bool)] (.d (.q 0 none (.q 1 none (.q 2 none (.q 3 (some ai) (.q 4 none (.q 5 none (.q 6 none (.q 7 (some tI) (.q 8 (some tA) (.q 9 (some cR) (.q 10 none (.q 11 none (.q 12 none (.q 13 none (.q 14 none (.q 15 none (.q 16 (some tI) (.q 17 none (.q 18 none (.q 19 none (.q 20 none (.e)))))))))))))))))))))))) (.c (.x) (.r [none,none,none,none,some ai,none,none,none,none,none,none,some ai,none,some tA,some cR,some tB,none,none])))))) (.c (.s (.r [none,some tU]) (.x)) (.x)))) (.s (.r [none,none,some (.c (.agg [.int .i64,.str,.int .i64,.int .i64])),some tU]) (.x)))))
def j4 (a0_a0:Addr):T :=
 .op (bD ad) tA fun r1 =>
 .op (am ar (.pointer (some ⟨a0_a0.block,a0_a0.off+1,none⟩))) tI fun r2 =>
 .join 0 [.b (.int .i64),.b (.int .i64)] (
 .loop 1 [.b (.int .i64),.b (.int .i64)] [.int .i64 r2,.int .i64 0] fun x3 =>
 .join 2 [.b .bool] (
 .op (am aj (.pointer (some a0_a0))) ai fun r4 =>
 .ite (decide ((x3.1:Int) < (r4.2.1:Int))) (
 .op (am aj (.pointer (some a0_a0))) ai fun r5 =>
 .op (bQ aj (.slice r5.1 r5.2.1 r5.2.2) (.int .i64 x3.1)) tA fun r6 =>
 .op (am ax (.pointer (some r6))) cR fun r7 =>
 .op (aa iC #[.int .u8 r7]) tB fun r8 =>
 .out 2 [.bool r8]) (
 .out 2 [.bool false])) fun x9 =>
 .ite x9.1 (
 .op (am aj (.pointer (some a0_a0))) ai fun r10 =>
 .op (bQ aj (.slice r10.1 r10.2.1 r10.2.2) (.int .i64 x3.1)) tA fun r11 =>
 .op (am ax (.pointer (some r11))) cR fun r12 =>
 .out 1 [.int .i64 (IntKind.i64.wrap (x3.1+1)),.int .i64 (if (9007199254740992:Int) < (IntKind.i64.wrap ((IntKind.i64.wrap (x3.2.1 * 10))+(IntKind.i64.wrap (IntKind.u8.wrap (r12 - 48))))) then 9007199254740992 else IntKind.i64.wrap ((IntKind.i64.wrap (x3.2.1 * 10))+(IntKind.i64.wrap (IntKind.u8.wrap (r12 - 48)))))]) (
 .out 0 [.int .i64 x3.1,.int .i64 x3.2.1])) fun x13 =>
 .join 0 [.b .bool] (
 .ite (decide ((x13.2.1:Int) > 9007199254740991)) (
 .out 0 [.bool true]) (
 .join 1 [.b .bool] (
 .draw <|
 .opq (am aj (.pointer (some a0_a0))) ai fun r14 =>
 .opq (am ar (.pointer (some ⟨a0_a0.block,a0_a0.off+1,none⟩))) tI fun r15 =>
 .opq (bQ aj (.slice r14.1 r14.2.1 r14.2.2) (.int .i64 r15)) tA fun r16 =>
 .opq (am ax (.pointer (some r16))) cR fun r17 =>
 .ite ((r17:Int)==48) (
 .opq (am ar (.pointer (some ⟨a0_a0.block,a0_a0.off+1,none⟩))) tI fun r18 =>
 .out 1 [.bool (decide ((x13.1:Int) > (IntKind.i64.wrap (r18+1))))]) (
 .out 1 [.bool false])) fun x19 =>
 .ite x19.1 (
 .out 0 [.bool true]) (
 .op (am aj (.pointer (some a0_a0))) ai fun r20 =>
 .ite (decide ((x13.1:Int) < (r20.2.1:Int))) (
 .op (am aj (.pointer (some a0_a0))) ai fun r21 =>
 .op (bQ aj (.slice r21.1 r21.2.1 r21.2.2) (.int .i64 x13.1)) tA fun r22 =>
 .op (am ax (.pointer (some r22))) cR fun r23 =>
 .op (aa gP #[.int .u8 r23]) tB fun r24 =>
 .out 0 [.bool r24]) (
 .out 0 [.bool false])))) fun x25 =>
 .ite x25.1 (
 .op (a7 ad (.pointer (some r1)) (.agg #[.int .i64 0,.string kE,.int .i64 0,.int .i64 0])) tU fun _ =>
 .ret #[.c (.pointer (some r1)) ad]) (
 .op (aa gS #[.pointer (some a0_a0),.int .i64 3,.int .i64 x13.1]) (.c (.agg [.int .i64,.str,.int .i64,.int .i64])) fun r27 =>
 .op (a7 ad (.pointer (some r1)) (.agg #[.int .i64 r27.1,.string r27.2.1,.int .i64 r27.2.2.1,.int .i64 r27.2.2.2.1])) tU fun _ =>
 .ret #[.c (.pointer (some r1)) ad])
theorem um (a0_a0:Addr):cc Tryz.prog Tryz.f110 tr [.pointer (some a0_a0)]=j4 a0_a0:=by kernel_rfl
theorem uR {ε σ β:Type} {I:aN ε σ} {t:Ty} {s:Sp ε σ β} {Rel:β→t.den→ak→Fact} {Γ:List Fact} (a0_a0:Addr) (h:Sim Tryz.prog I t Rel noLabel none (j4 a0_a0) s [] Γ):MeetsO Tryz.prog I (aa j6 #[.pointer (some a0_a0)]) t s Rel Γ :=
 aq (args:=[.pointer (some a0_a0)]) Tryz.func110 rfl rfl (Nat.le_of_ble_eq_true rfl) (by rw [um]; exact h)
def tp:An :=
 .s (.r [none]) (.b (.s (.x) (.s (.b (.l [] (.s (.s (.d (.q 0 none (.q 1 none (.q 2 none (.q 3 (some tI) (.q 4 none (.q 5 none (.q 6 none (.q 7 (some ai) (.q 8 none (.q 9 none (.e)))))))))))) (.c (.x) (.x))) (.b (.b (.s (.d (.q 0 none (.q 1 none (.q 2 none (.q 3 (some ai) (.q 4 none (.q 5 none (.q 6 none (.q 7 (some tI) (.q 8 (some tA) (.q 9 (some cR) (.l 10 (some tI) (.q 11 none (.q 12 none (.e))))))))))))))) (.c (.r [none,none,none,some tI,none,none,none,some tU]) (.s (.r [none,none,none,none,some tI,some tB,none]) (.c (.b (.l [] (.s (.s (.j [(63,.b .bool)] (.d (.q 0 none (.q 1 none (.q 2 none (.q 3 (some tI) (.q 4 none (.q 5 none (.q 6 none (.q 7 (some ai) (.q 8 none (.q 9 none (.q 10 none (.q 11 none (.q 12 none (.q 13 none (.q 14 (some ai) (.q 15 none (.q 16 none (.q 17 none (.q 18 (some tI) (.q 19 (some tA) (.q 20 (some cR) (.q 21 none (.q 22 none (.e)))))))))))))))))))))))))) (.c (.x) (.x))) (.b (.r [none,none,none,some tI,none,none,none,some tU]))))) (.s (.r [none,none,none,none,some tI,some tB,none]) (.c (.s (.d (.q 0 none (.q 1 none (.q 2 none (.q 3 (some ai) (.q 4 none (.q 5 none (.q 6 none (.q 7 (some tI) (.q 8 none (.q 9 (some ai) (.q 10 (some tS) (.l 11 (some tI) (.q 12 none (.e))))))))))))))) (.s (.s (.r [none,none]) (.c (.s (.r [none]) (.x)) (.x))) (.r [none,none,none,some tI,none,none,none,none,none,some tU]))) (.x)))))))))))) (.s (.r [none]) (.x)))))
def jV (a0_a0:Addr):T :=
 .loop 0 [] [] fun x1 =>
 .draw <|
 .opq (am ar (.pointer (some ⟨a0_a0.block,a0_a0.off+1,none⟩))) tI fun r2 =>
 .opq (am aj (.pointer (some a0_a0))) ai fun r3 =>
 .ite (decide ((r2:Int) < (r3.2.1:Int))) (
 .draw <|
 .opq (am aj (.pointer (some a0_a0))) ai fun r4 =>
 .opq (am ar (.pointer (some ⟨a0_a0.block,a0_a0.off+1,none⟩))) tI fun r5 =>
 .opq (bQ aj (.slice r4.1 r4.2.1 r4.2.2) (.int .i64 r5)) tA fun r6 =>
 .opq (am ax (.pointer (some r6))) cR fun r7 =>
 .opl (aa hO #[.string i9,.int .u8 r7]) tI fun r8 =>
 .ite (decide ((r8:Int)≥0)) (
 .op (am ar (.pointer (some ⟨a0_a0.block,a0_a0.off+1,none⟩))) tI fun r9 =>
 .op (a7 ar (.pointer (some ⟨a0_a0.block,a0_a0.off+1,none⟩)) (.int .i64 (IntKind.i64.wrap (r9+1)))) tU fun _ =>
 .out 0 []) (
 .op (am ar (.pointer (some ⟨a0_a0.block,a0_a0.off+1,none⟩))) tI fun r11 =>
 .op (aa eF #[.pointer (some a0_a0),.int .i64 r11,.string k_sl_sl]) tB fun r12 =>
 .ite r12 (
 .loop 1 [] [] fun x13 =>
 .join 2 [.b .bool] (
 .draw <|
 .opq (am ar (.pointer (some ⟨a0_a0.block,a0_a0.off+1,none⟩))) tI fun r14 =>
 .opq (am aj (.pointer (some a0_a0))) ai fun r15 =>
 .ite (decide ((r14:Int) < (r15.2.1:Int))) (
 .opq (am aj (.pointer (some a0_a0))) ai fun r16 =>
 .opq (am ar (.pointer (some ⟨a0_a0.block,a0_a0.off+1,none⟩))) tI fun r17 =>
 .opq (bQ aj (.slice r16.1 r16.2.1 r16.2.2) (.int .i64 r17)) tA fun r18 =>
 .opq (am ax (.pointer (some r18))) cR fun r19 =>
 .out 2 [.bool ((r19:Int) != 10)]) (
 .out 2 [.bool false])) fun x20 =>
 .ite x20.1 (
 .op (am ar (.pointer (some ⟨a0_a0.block,a0_a0.off+1,none⟩))) tI fun r21 =>
 .op (a7 ar (.pointer (some ⟨a0_a0.block,a0_a0.off+1,none⟩)) (.int .i64 (IntKind.i64.wrap (r21+1)))) tU fun _ =>
 .out 1 []) (
 .out 0 [])) (
 .op (am ar (.pointer (some ⟨a0_a0.block,a0_a0.off+1,none⟩))) tI fun r23 =>
 .op (aa eF #[.pointer (some a0_a0),.int .i64 r23,.string k_sl_star]) tB fun r24 =>
 .ite r24 (
 .draw <|
 .opq (am aj (.pointer (some a0_a0))) ai fun r25 =>
 .opq (am ar (.pointer (some ⟨a0_a0.block,a0_a0.off+1,none⟩))) tI fun r26 =>
 .opq (fV aj (.slice r25.1 r25.2.1 r25.2.2) (some (.int .i64 (IntKind.i64.wrap (r26+2)))) none none) ai fun r27 =>
 .opq (ig aj aK (.slice r27.1 r27.2.1 r27.2.2)) tS fun r28 =>
 .opl (aa o0 #[.string r28,.string k_star_sl]) tI fun r29 =>
 .ite (decide ((r29:Int) < 0)) (
 .ret #[.v (.bool false)]) (
 .op (am ar (.pointer (some ⟨a0_a0.block,a0_a0.off+1,none⟩))) tI fun r30 =>
 .op (a7 ar (.pointer (some ⟨a0_a0.block,a0_a0.off+1,none⟩)) (.int .i64 (IntKind.i64.wrap (r30+(IntKind.i64.wrap (r29+4)))))) tU fun _ =>
 .out 0 [])) (
 .ret #[.v (.bool true)])))) (
 .ret #[.v (.bool true)])
theorem uu (a0_a0:Addr):cc Tryz.prog Tryz.f106 tp [.pointer (some a0_a0)]=jV a0_a0:=by kernel_rfl
theorem uP {ε σ β:Type} {I:aN ε σ} {t:Ty} {s:Sp ε σ β} {Rel:β→t.den→ak→Fact} {Γ:List Fact} (a0_a0:Addr) (h:Sim Tryz.prog I t Rel noLabel none (jV a0_a0) s [] Γ):MeetsO Tryz.prog I (aa j5 #[.pointer (some a0_a0)]) t s Rel Γ :=
 aq (args:=[.pointer (some a0_a0)]) Tryz.func106 rfl rfl (Nat.le_of_ble_eq_true rfl) (by rw [uu]; exact h)
def vN:An :=
 .s (.r [some tA]) (.s (.r [none,some tA,some tU]) (.s (.s (.r [some (.c (.agg [.str,.str,.str])),none]) (.j [] (.b (.l [(10,.b (.int .i64))] (.s (.r [none]) (.s (.c (.x) (.x)) (.s (.b (.s (.r [none,some tS,none,none]) (.s (.r [none,none,none]) (.s (.s (.d (.q 0 none (.q 1 none (.q 2 none (.q 3 (some ai) (.q 4 none (.q 5 none (.q 6 none (.q 7 none (.q 8 (some tI) (.q 9 none (.q 10 none (.q 11 none (.e)))))))))))))) (.c (.x) (.x))) (.s (.r [none,none,none,none,some tI,none,none,some (.c (.agg [.int .i64,.str,.int .i64,.int .i64])),some tA,some tU]) (.s (.s (.j [(47,.b .bool)] (.r [none,some tS,some tB,none,none,none,some tS,some tS,some tS,some tB,none,none])) (.c (.x) (.x))) (.s (.s (.r [none,some tS]) (.b (.s (.r [none,none]) (.c (.r [none,none,none,none,some ai,some ai,some ai,none,none,some tU]) (.s (.r [none,none]) (.c (.d (.q 0 none (.q 1 none (.q 2 none (.q 3 none (.q 4 (some ai) (.q 5 none (.q 6 none (.q 7 none (.q 8 (some ai) (.q 9 none (.q 10 none (.q 11 none (.q 12 (some ai) (.q 13 none (.q 14 none (.l 15 (some tU) (.e)))))))))))))))))) (.x))))))) (.s (.r [some (.c (.agg [.int .i64,.str,.int .i64,.int .i64])),some tU]) (.x))))))))) (.r [none,none])))))))) (.s (.r [none,some tU]) (.x))))
def lG (a0_a0:Addr):T :=
 .op (bD ad) tA fun r1 =>
 .op (bD eU) tA fun r2 =>
 .op (a7 eU (.pointer (some r2)) (.agg #[.string qi,.string pN,.string p4])) tU fun _ =>
 .op (am eU (.pointer (some r2))) (.c (.agg [.str,.str,.str])) fun r4 =>
 .join 0 [] (
 .loop 1 [.b (.int .i64)] [.int .i64 0] fun x5 =>
 .ite (decide ((x5.1:Int) < 3)) (
 .op (yr eU (.agg #[.string r4.1,.string r4.2.1,.string r4.2.2.1]) (.int .i64 x5.1)) tS fun r6 =>
 .draw <|
 .opq (am aj (.pointer (some a0_a0))) ai fun r7 =>
 .opq (am ar (.pointer (some ⟨a0_a0.block,a0_a0.off+1,none⟩))) tI fun r8 =>
 .ite (decide ((IntKind.i64.wrap ((r7.2.1:Int) - r8):Int) < (IntKind.i64.wrap (3 - x5.1)))) (
 .out 1 [.int .i64 (IntKind.i64.wrap (x5.1+1))]) (
 .op (am ar (.pointer (some ⟨a0_a0.block,a0_a0.off+1,none⟩))) tI fun r9 =>
 .op (aa gS #[.pointer (some a0_a0),.int .i64 9,.int .i64 (IntKind.i64.wrap (r9+(IntKind.i64.wrap (3 - x5.1))))]) (.c (.agg [.int .i64,.str,.int .i64,.int .i64])) fun r10 =>
 .op (bD ad) tA fun r11 =>
 .op (a7 ad (.pointer (some r11)) (.agg #[.int .i64 r10.1,.string r10.2.1,.int .i64 r10.2.2.1,.int .i64 r10.2.2.2.1])) tU fun _ =>
 .join 2 [.b .bool] (
 .op (am aK (.pointer (some ⟨r11.block,r11.off+1,none⟩))) tS fun r13 =>
 .op (aa kc #[.string r13,.string ff]) tB fun r14 =>
 .ite r14 (
 .out 2 [.bool true]) (
 .op (am aK (.pointer (some ⟨r11.block,r11.off+1,none⟩))) tS fun r15 =>
 .op (cU .add aK (.string k_sp) (.string r15)) tS fun r16 =>
 .op (cU .add aK (.string r16) (.string k_sp)) tS fun r17 =>
 .op (aa ix #[.string r6,.string r17]) tB fun r18 =>
 .out 2 [.bool (!r18)])) fun x19 =>
 .ite x19.1 (
 .out 1 [.int .i64 (IntKind.i64.wrap (x5.1+1))]) (
 .op (am aK (.pointer (some ⟨r11.block,r11.off+1,none⟩))) tS fun r20 =>
 .ite (r20.toList==k_lc.toList) (
 .op (am bZ (.pointer (some ⟨a0_a0.block,a0_a0.off+2,none⟩))) ai fun r21 =>
 .op (aG bZ 1 #[(0,.bool false)]) ai fun r22 =>
 .op (cW #[bZ,bZ] bZ #[.slice r21.1 r21.2.1 r21.2.2,.slice r22.1 r22.2.1 r22.2.2]) ai fun r23 =>
 .op (a7 bZ (.pointer (some ⟨a0_a0.block,a0_a0.off+2,none⟩)) (.slice r23.1 r23.2.1 r23.2.2)) tU fun _ =>
 .op (am ad (.pointer (some r11))) (.c (.agg [.int .i64,.str,.int .i64,.int .i64])) fun r25 =>
 .op (a7 ad (.pointer (some r1)) (.agg #[.int .i64 r25.1,.string r25.2.1,.int .i64 r25.2.2.1,.int .i64 r25.2.2.2.1])) tU fun _ =>
 .ret #[.c (.pointer (some r1)) ad]) (
 .ite (r20.toList==k_rc.toList) (
 .draw <|
 .opq (am bZ (.pointer (some ⟨a0_a0.block,a0_a0.off+2,none⟩))) ai fun r27 =>
 .opq (am bZ (.pointer (some ⟨a0_a0.block,a0_a0.off+2,none⟩))) ai fun r28 =>
 .opq (fV bZ (.slice r27.1 r27.2.1 r27.2.2) none (some (.int .i64 (if (IntKind.i64.wrap ((r28.2.1:Int) - 1):Int) > 0 then IntKind.i64.wrap ((r28.2.1:Int) - 1) else 0))) none) ai fun r29 =>
 .op (a7 bZ (.pointer (some ⟨a0_a0.block,a0_a0.off+2,none⟩)) (.slice r29.1 r29.2.1 r29.2.2)) tU fun _ =>
 .op (am ad (.pointer (some r11))) (.c (.agg [.int .i64,.str,.int .i64,.int .i64])) fun r31 =>
 .op (a7 ad (.pointer (some r1)) (.agg #[.int .i64 r31.1,.string r31.2.1,.int .i64 r31.2.2.1,.int .i64 r31.2.2.2.1])) tU fun _ =>
 .ret #[.c (.pointer (some r1)) ad]) (
 .op (am ad (.pointer (some r11))) (.c (.agg [.int .i64,.str,.int .i64,.int .i64])) fun r33 =>
 .op (a7 ad (.pointer (some r1)) (.agg #[.int .i64 r33.1,.string r33.2.1,.int .i64 r33.2.2.1,.int .i64 r33.2.2.2.1])) tU fun _ =>
 .ret #[.c (.pointer (some r1)) ad]))))) (
 .out 0 [])) fun x35 =>
 .op (a7 ad (.pointer (some r1)) (.agg #[.int .i64 0,.string kE,.int .i64 0,.int .i64 0])) tU fun _ =>
 .ret #[.c (.pointer (some r1)) ad]
theorem yN (a0_a0:Addr):cc Tryz.prog Tryz.f113 vN [.pointer (some a0_a0)]=lG a0_a0:=by kernel_rfl
theorem yn {ε σ β:Type} {I:aN ε σ} {t:Ty} {s:Sp ε σ β} {Rel:β→t.den→ak→Fact} {Γ:List Fact} (a0_a0:Addr) (h:Sim Tryz.prog I t Rel noLabel none (lG a0_a0) s [] Γ):MeetsO Tryz.prog I (aa lQ #[.pointer (some a0_a0)]) t s Rel Γ :=
 aq (args:=[.pointer (some a0_a0)]) Tryz.func113 rfl rfl (Nat.le_of_ble_eq_true rfl) (by rw [yN]; exact h)
end
end Go.Proofs.YtjlgcpgjdgeejaaGreatDoor
end

section
namespace Go.Proofs.YtjlgcpgjdgeejaaGreatDoor
open Go
set_option linter.unusedSimpArgs false
set_option linter.unusedVariables false
set_option linter.constructorNameAsVariable false
set_option maxRecDepth 100000
def eg (sl:aV) (p:Nat) (osl:aV):List Value:=[.slice sl.1 sl.2.1 sl.2.2,.int .i64 p,.slice osl.1 osl.2.1 osl.2.2]
def SI (b:ByteArray) (sl:aV) (pb:Nat):aN Empty cM where
 inv s H:=Fact.ex fun osl:aV=>Fact.ex fun K:ak=>Fact.prop (H=(pb,ap ck (eg sl s.pos osl))::K∧Buf bE 1 osl (s.opn.map Value.bool) K∧s.pos≤b.size)
 err _ _:=False
section
variable {b:ByteArray} {sl:aV} {pb:Nat} {β:Type} {t:Ty} {Rel:β→t.den→ak→Fact} {Δ:Labels Empty cM β} {md:cS} {L Lq:ak} {Γ Γq:List Fact} {st:cM} {run:Option (Res Empty cM β)}
theorem B0 {m:T} (h:st.pos≤b.size→ay PG (SI b sl pb) t Rel Δ md st m run L Γ):ay PG (SI b sl pb) t Rel Δ md st m run L Γ :=
 Lm (fun H F ⟨_,_,_,_,h⟩=>h) h
theorem jl {k:aV→T} (hk:ay PG (SI b sl pb) t Rel Δ none st (k sl) run L Γ):ay PG (SI b sl pb) t Rel Δ md st (.op (am aj (.pointer (some ⟨pb,0,none⟩))) ai k) run L Γ :=
 KP (b1:=.slice) sl (by kernel_rfl) rfl (fun H F ⟨osl,K,hH,_⟩=>⟨eg sl st.pos osl,ck,hH▸List.mem_cons_self ..,rfl⟩) hk
theorem pI {k:aV→T} (hk:ay PG (SI b sl pb) t Rel Δ (some (Γq,Lq)) st (k sl) run L Γ):ay PG (SI b sl pb) t Rel Δ (some (Γq,Lq)) st (.opq (am aj (.pointer (some ⟨pb,0,none⟩))) ai k) run L Γ :=
 Iz (b1:=.slice) sl (by kernel_rfl) rfl (fun H F ⟨osl,K,hH,_⟩=>⟨eg sl st.pos osl,ck,hH▸List.mem_cons_self ..,rfl⟩) hk
theorem jJ {k:Int→T} (hk:ay PG (SI b sl pb) t Rel Δ none st (k st.pos) run L Γ):ay PG (SI b sl pb) t Rel Δ md st (.op (am ar (.pointer (some ⟨pb,0+1,none⟩))) tI k) run L Γ :=
 KP (b1:=.int .i64) (st.pos:Int) (by kernel_rfl) rfl (fun H F ⟨osl,K,hH,_⟩=>⟨eg sl st.pos osl,ck,hH▸List.mem_cons_self ..,rfl⟩) hk
theorem eP {k:Int→T} (hk:ay PG (SI b sl pb) t Rel Δ (some (Γq,Lq)) st (k st.pos) run L Γ):ay PG (SI b sl pb) t Rel Δ (some (Γq,Lq)) st (.opq (am ar (.pointer (some ⟨pb,0+1,none⟩))) tI k) run L Γ :=
 Iz (b1:=.int .i64) (st.pos:Int) (by kernel_rfl) rfl (fun H F ⟨osl,K,hH,_⟩=>⟨eg sl st.pos osl,ck,hH▸List.mem_cons_self ..,rfl⟩) hk
theorem Bj {k:T} {v:Int} (n:Nat) (hv:v=n) (hn:n≤b.size) (hk:ay PG (SI b sl pb) t Rel Δ none { st with pos:=n } k run L Γ) :
  ay PG (SI b sl pb) t Rel Δ md st (.op (a7 ar (.pointer (some ⟨pb,0+1,none⟩)) (.int .i64 v)) tU fun _=>k) run L Γ :=
 Lw (c:=false) { st with pos:=n } (by kernel_rfl) rfl (by simp [Value.cells,Value.oneCell']) (fun H F ⟨osl,K,hH,hB,hp⟩=>⟨[],_,_,K,hH,Nat.le_of_ble_eq_true rfl,osl,K,by subst hv; rfl,hB,hn⟩) hk
theorem FQ {k:T} {c:Bool} (hlen:st.opn.length < 1048576) (hk:ay PG (SI b sl pb) t Rel Δ none { st with opn:=st.opn++[c] } k run L Γ) :
  ay PG (SI b sl pb) t Rel Δ md st (.op (am bZ (.pointer (some ⟨pb,0+2,none⟩))) ai fun r21=>.op (aG bZ 1 #[(0,.bool c)]) ai fun r22=>.op (cW #[bZ,bZ] bZ #[.slice r21.1 r21.2.1 r21.2.2,.slice r22.1 r22.2.1 r22.2.2]) ai fun r23 =>
   .op (a7 bZ (.pointer (some ⟨pb,0+2,none⟩)) (.slice r23.1 r23.2.1 r23.2.2)) tU fun _=>k) run L Γ:=by
 refine gM fun H=>l3 fun osl=>l3 fun K=>nM fun ⟨hH,hB,hp⟩=>?_
 subst hH
 refine bA (dt (b1:=.slice) osl (Rd.own (List.mem_cons_self ..)) (by kernel_rfl) rfl rfl) ?_
 rintro _ _ _ ⟨rfl,rfl,rfl⟩
 refine bA (lC (e:=bE) (size:=1) (z:=.bool false) [.bool c] (by kernel_rfl) (by kernel_rfl) (by decide) (by decide) (by kernel_rfl)) ?_
 rintro _ _ _ ⟨bn,rfl,rfl,rfl⟩
 have hl:=hB.len
 simp only [List.length_map] at hl
 refine DN (L':=K++((pb,ap ck (eg sl st.pos osl))::L)) List.perm_middle ?_
 refine bA (eZ (L0:=(pb,ap ck (eg sl st.pos osl))::L) (K:=K) (size:=1) (bytes:=1) (e:=bE) (m:=1) (news:=[.bool c]) (by kernel_rfl) rfl hB (Rd.at (List.mem_cons_self ..)) rfl rfl rfl (by decide) (by simp [Value.oneCell']) (by omega) (by omega)) ?_
 rintro x _ _ ⟨K',rfl,rfl,hx,hb'⟩
 refine bA (br (L1:=K') (L2:=L) (l:=eg sl st.pos osl) (T:=bZ) (T0:=ck) (c:=false) rfl (by kernel_rfl) rfl (Nat.le_of_ble_eq_true rfl) (by simp [Value.cells,Value.oneCell'])) ?_
 rintro _ _ _ ⟨rfl,rfl⟩
 intro r w F res S hs hF hsp hq
 refine hk ((pb,ap ck (eg sl st.pos x))::K') r w F res S hs (Holds.cons ⟨x,K',rfl,by simpa using hb',hp⟩ fun A hA=>hF A (List.mem_cons_of_mem _ hA)) ?_ trivial
 exact hsp.perm (List.perm_middle (a:=(pb,ap ck (eg sl st.pos x))) (l₁:=K') (l₂:=L)).symm
theorem Iv {k:T} {f:Int→Int} (hf:∀ n:Nat,n=st.opn.length→n≤9223372036854775807→f n=((n - 1:Nat):Int)) (hk:ay PG (SI b sl pb) t Rel Δ none { st with opn:=st.opn.take (st.opn.length - 1) } k run L Γ) :
  ay PG (SI b sl pb) t Rel Δ md st (.draw<|.opq (am bZ (.pointer (some ⟨pb,0+2,none⟩))) ai fun r27=>.opq (am bZ (.pointer (some ⟨pb,0+2,none⟩))) ai fun r28 =>
   .opq (fV bZ (.slice r27.1 r27.2.1 r27.2.2) none (some (.int .i64 (f (r28.2.1:Int)))) none) ai fun r29 =>
   .op (a7 bZ (.pointer (some ⟨pb,0+2,none⟩)) (.slice r29.1 r29.2.1 r29.2.2)) tU fun _=>k) run L Γ:=by
 refine gM fun H=>l3 fun osl=>l3 fun K=>nM fun ⟨hH,hB,hp⟩=>?_
 subst hH
 have hl:=hB.len
 simp only [List.length_map,Nat.mul_one] at hl
 have hcap:osl.2.1≤osl.2.2∧osl.2.2≤maxLen∧∀ a,osl.1=some a→a.spot=none:=by
  rcases hB with ⟨_,rfl,_⟩ | ⟨g,cells,_,h2,_,h4,h5,_⟩
  ·exact ⟨Nat.le_refl _,by decide,fun a h=>by cases h⟩
  ·exact ⟨h4,h5,fun a h=>by rw [h2] at h; cases h; rfl⟩
 have hf':=hf osl.2.1 hl.symm (by have:=hcap.1; have:=hcap.2.1; unfold maxLen at this; omega)
 refine iR [(pb,ap ck (eg sl st.pos osl))] (fun p hp=>by simp at hp; simp [hp]) ?_
 refine c8 (t1:=ai) osl (cf (QRd.own (List.mem_cons_self ..)) (by kernel_rfl) rfl rfl) ?_
 refine c8 (t1:=ai) osl (cf (QRd.own (List.mem_cons_self ..)) (by kernel_rfl) rfl rfl) ?_
 refine c8 (t1:=ai) (osl.1,osl.2.1 - 1,osl.2.2) (mf fun w=>?_) ?_
 ·show (fV bZ (.slice osl.1 osl.2.1 osl.2.2) none (some (.int .i64 (f (osl.2.1:Int)))) none).run PG w=_
  rw [hf']
  rw [Ci (k:=.i64) (by kernel_rfl) ⟨_,rfl⟩ hcap.2.2 (by omega) (by have:=hcap.1; omega)]
  simp [Ty.enc,C.enc,B.enc]
 refine bA (br (L1:=[]) (L2:=K++L) (l:=eg sl st.pos osl) (T:=bZ) (T0:=ck) (c:=false) rfl (by kernel_rfl) rfl (Nat.le_of_ble_eq_true rfl) (by simp [Value.cells,Value.oneCell'])) ?_
 rintro _ _ _ ⟨rfl,rfl⟩
 intro r w F res S hs hF hsp hq
 refine hk ((pb,ap ck (eg sl st.pos (osl.1,osl.2.1 - 1,osl.2.2)))::K) r w F res S hs (Holds.cons ⟨_,K,rfl,?_,hp⟩ fun A hA=>hF A hA) hsp trivial
 have:=hB.take (m:=osl.2.1 - 1) (by omega)
 simpa [List.map_take,hl] using this
end
theorem uz {ε:Type} (c:Int):Meets PG (I0:aN ε Unit) (aa gP #[.int .u8 c]) tB (Pure.pure (d1 c)) bm []:=by
 refine A7 c (c5 fun st=>?_)
 unfold mG
 repeat' (first | refine aT (fun h=>?_) (fun h=>?_) | refine f8 (t:=tB) _ rfl ?_)
 all_goals (show _=_; simp_all [d1,Pure.pure,Sp.pure]<;>omega)
theorem yd {ε:Type} (c:Int):Meets PG (I0:aN ε Unit) (aa iC #[.int .u8 c]) tB (Pure.pure (c6 c)) bm []:=by
 refine BO c (c5 fun st=>?_)
 unfold oI
 repeat' (first | refine aT (fun h=>?_) (fun h=>?_) | refine f8 (t:=tB) _ rfl ?_)
 all_goals (show _=_; simp_all [c6,Pure.pure,Sp.pure]<;>omega)
theorem EE {ε:Type} (s:ByteArray) (hs:s.size≤1048576):Meets PG (I0:aN ε Unit) (aa kq #[.string s]) tB (Pure.pure (iA s)) bm [MxF]:=by
 refine vj s (c5 fun st=>?_)
 unfold kR
 refine dK (t1:=tS) (k_sp++s) (PVal.pure fun w=>pO _ _ (by have:k_sp.size=1:=rfl; omega)) ?_
 refine dK (t1:=tS) (k_sp++s++k_sp) (PVal.pure fun w=>pO _ _ (by have:k_sp.size=1:=rfl; simp; omega)) ?_
 refine fy (vA _ _ (by decide)) (fun A hA=>hA) ?_
 exact f8 (t:=tB) _ rfl rfl
end Go.Proofs.YtjlgcpgjdgeejaaGreatDoor
end

section
namespace Go.Proofs.YtjlgcpgjdgeejaaGreatDoor
open Go
set_option linter.unusedSimpArgs false
set_option linter.unusedVariables false
set_option linter.constructorNameAsVariable false
set_option maxRecDepth 100000
section
variable {b:ByteArray} {sl:aV} {pb:Nat}
def CN (b:ByteArray) (k:Nat) (x:ByteArray):Sp Empty cM Bool:=fun st=>some (.ok (dX b k x) st)
theorem vQ (hb:b.size≤65536) (k:Nat) (hk:k≤131072) (x:ByteArray) (hx:0 < x.size∧x.size≤1000):Meets PG (SI b sl pb) (aa eF #[.pointer (some ⟨pb,0,none⟩),.int .i64 k,.string x]) tB (CN b k x) bm [ByF sl b]:=by
 refine zT ⟨pb,0,none⟩ (k:Int) x (c5 fun st=>?_)
 unfold mQ
 refine jl (fX (by repeat (first | exact mz | apply ms)) fun hl=>?_)
 rw [hl,bg (by omega) (by omega)]
 refine aT (fun h=>?_) (fun h=>?_)
 ·have h':k+x.size≤b.size:=by have:=of_decide_eq_true h; omega
  refine jl ?_
  rw [bg (by omega) (by omega)]
  refine dK (t1:=ai) (gE sl k (k+x.size)) (Cw (by repeat (first | exact mz | apply ms)) k (k+x.size) rfl (by simp) (by omega) h') ?_
  refine dK (t1:=tS) _ (CQ (by repeat (first | exact mz | apply ms)) k (k+x.size) (by omega) h' (by omega)) ?_
  exact f8 (t:=tB) _ rfl (by simp [CN,dX,h'])
 ·have h':¬ k+x.size≤b.size:=by have:=of_decide_eq_false h; omega
  exact f8 (t:=tB) _ rfl (by simp [CN,dX,h'])
def sr (b:ByteArray) (kind:Int) (j:Nat):Sp Empty cM Tok:=fun st=>if st.pos < j∧j≤b.size then some (.ok (dy b kind st.pos j) st) else none
theorem EH (hb:b.size≤65536) (kind:Int) (j:Nat):Meets PG (SI b sl pb) (aa gS #[.pointer (some ⟨pb,0,none⟩),.int .i64 kind,.int .i64 j]) ek (sr b kind j) bm [ByF sl b]:=by
 refine zZ ⟨pb,0,none⟩ kind (j:Int) (c5 fun st=>?_)
 unfold sr
 by_cases hj:st.pos < j∧j≤b.size
 case neg=>rw [if_neg hj]; exact cZ rfl
 rw [if_pos hj]
 unfold mE
 refine cT (bT (z:=[.int .i64 0,.string kE,.int .i64 0,.int .i64 0]) (by kernel_rfl)) ?_
 rintro _ _ _ ⟨b1,rfl,rfl,rfl⟩
 refine ft [] (fun _ h=>nomatch h) (pI (eP ?_))
 refine kQ (t1:=ai) (gE sl st.pos j) (Cw (b:=b) (by repeat (first | exact mz | apply ms)) st.pos j rfl rfl (by omega) hj.2) ?_
 refine kQ (t1:=tS) (b.extract st.pos j) (CQ (by repeat (first | exact mz | apply ms)) st.pos j (by omega) hj.2 (by omega)) (eP ?_)
 refine cT (br (L1:=[]) (L2:=[]) (l:=[.int .i64 0,.string kE,.int .i64 0,.int .i64 0]) (T:=ad) (T0:=ad) (c:=true) rfl (by kernel_rfl) rfl (Nat.le_of_ble_eq_true rfl) (by simp [Value.cells,Value.oneCell'])) ?_
 rintro _ _ _ ⟨rfl,rfl⟩
 refine eW (t:=ek) (dy b kind st.pos j) (dy b kind st.pos j) rfl (fun r w F H hF hsp=>?_) fun F hF=>rfl
 exact eX (a:=⟨b1,0,none⟩) (T0:=ad) (l:=[.int .i64 kind,.string (b.extract st.pos j),.int .i64 st.pos,.int .i64 j]) (vs:=[.int .i64 kind,.string (b.extract st.pos j),.int .i64 st.pos,.int .i64 j]) (by kernel_rfl) (hsp.own _ _ (List.mem_append_right _ (List.mem_cons_self ..))) rfl rfl
theorem gU {ε σ:Type} {I:aN ε σ} {Δ:Labels ε σ Tok} {md:cS} {L L1 L2:ak} {Γ:List Fact} {st:σ} {run:Option (Res ε σ Tok)} {b1:Nat} {l:List Value} (x:Tok) (hL:L=L1++(b1,ap ad l)::L2) (hl:l.length=4) (hrun:run=some (.ok x st)) :
  ay PG I ek (pl bm) Δ md st (.op (a7 ad (.pointer (some ⟨b1,0,none⟩)) (.agg #[.int .i64 x.1,.string x.2.1,.int .i64 x.2.2.1,.int .i64 x.2.2.2.1])) tU fun _=>.ret #[.c (.pointer (some ⟨b1,0,none⟩)) ad]) run L Γ:=by
 refine cT (br (L1:=L1) (L2:=L2) (l:=l) (T:=ad) (T0:=ad) (c:=true) hL (by kernel_rfl) rfl (by simp [Value.cells,hl]) (by simp [Value.cells,Value.oneCell'])) ?_
 rintro _ _ _ ⟨rfl,rfl⟩
 have hs:bW l 0 (Value.agg #[.int .i64 x.1,.string x.2.1,.int .i64 x.2.2.1,.int .i64 x.2.2.2.1]).cells.toList=aP x:=by
  rw [q4 (by simp [Value.cells,hl])]; rfl
 refine eW (t:=ek) x x hrun (fun r w F H hF hsp=>?_) fun F hF=>rfl
 refine eX (a:=⟨b1,0,none⟩) (T0:=ad) (l:=aP x) (vs:=aP x) (by kernel_rfl) (hsp.own _ _ (List.mem_append_right _ (List.mem_append_right _ ?_))) rfl rfl
 show _∈(b1,ap ad (bW l 0 (Value.agg #[.int .i64 x.1,.string x.2.1,.int .i64 x.2.2.1,.int .i64 x.2.2.2.1]).cells.toList))::L2
 rw [hs]; exact List.mem_cons_self ..
theorem rM {ε σ β:Type} {I:aN ε σ} {t:Ty} {Rel:β→t.den→ak→Fact} {Δ:Labels ε σ β} {md:cS} {L:ak} {Γ:List Fact} {st:σ} {run:Option (Res ε σ β)} {k:Addr→T} (x:Tok)
  (hk:∀ b1,ay PG I t Rel Δ none st (k ⟨b1,0,none⟩) run ((b1,ap ad (aP x))::L) Γ) :
  ay PG I t Rel Δ md st (.op (bD ad) tA fun r=>.op (a7 ad (.pointer (some r)) (.agg #[.int .i64 x.1,.string x.2.1,.int .i64 x.2.2.1,.int .i64 x.2.2.2.1])) tU fun _=>k r) run L Γ:=by
 refine cT (bT (z:=[.int .i64 0,.string kE,.int .i64 0,.int .i64 0]) (by kernel_rfl)) ?_
 rintro _ _ _ ⟨b1,rfl,rfl,rfl⟩
 refine cT (br (L1:=[]) (L2:=L) (l:=[.int .i64 0,.string kE,.int .i64 0,.int .i64 0]) (T:=ad) (T0:=ad) (c:=true) rfl (by kernel_rfl) rfl (Nat.le_of_ble_eq_true rfl) (by simp [Value.cells,Value.oneCell'])) ?_
 rintro _ _ _ ⟨rfl,rfl⟩
 exact hk b1
theorem nJ {ε σ β:Type} {I:aN ε σ} {t:Ty} {Rel:β→t.den→ak→Fact} {Δ:Labels ε σ β} {md:cS} {L:ak} {Γ:List Fact} {st:σ} {run:Option (Res ε σ β)} {k:Addr→T}
  (hk:∀ b1,ay PG I t Rel Δ none st (k ⟨b1,0,none⟩) run ((b1,ap ad (aP bt))::L) Γ):ay PG I t Rel Δ md st (.op (bD ad) tA k) run L Γ:=by
 refine cT (bT (z:=[.int .i64 0,.string kE,.int .i64 0,.int .i64 0]) (by kernel_rfl)) ?_
 rintro _ _ _ ⟨b1,rfl,rfl,rfl⟩
 exact hk b1
theorem fQ {ε σ β:Type} {P:Program} {I:aN ε σ} {t:Ty} {Rel:β→t.den→ak→Fact} {Δ:Labels ε σ β} {md:cS} {L:ak} {Γ:List Fact} {st:σ} {run:Option (Res ε σ β)} {T1 T0:TypeId} {a:Addr} {b1:B} {l:List Value} {k:b1.den→T} (x:b1.den) (hr:(a.block,ap T0 l)∈L) (hs:d5 P T1=some true) (ha:a.spot=none) (hv:l[a.off]? = some (b1.enc x))
  (hk:ay P I t Rel Δ none st (k x) run L Γ):ay P I t Rel Δ md st (.op (am T1 (.pointer (some a))) (.c (.b b1)) k) run L Γ:=by
 refine cT (dt x (Rd.own hr) hs ha hv) ?_
 rintro _ _ _ ⟨rfl,rfl,rfl⟩
 exact hk
theorem nB {ε σ β:Type} {I:aN ε σ} {t:Ty} {Rel:β→t.den→ak→Fact} {Δ:Labels ε σ β} {md:cS} {L:ak} {Γ:List Fact} {st:σ} {run:Option (Res ε σ β)} {b1:Nat} {k:Tok→T} (x:Tok) (hr:(b1,ap ad (aP x))∈L)
  (hk:ay PG I t Rel Δ none st (k x) run L Γ):ay PG I t Rel Δ md st (.op (am ad (.pointer (some ⟨b1,0,none⟩))) (.c (.agg el)) k) run L Γ:=by
 refine cT (f5 x (Rd.own hr) (by kernel_rfl) rfl rfl) ?_
 rintro _ _ _ ⟨rfl,rfl,rfl⟩
 exact hk
def wH (b:ByteArray):Sp Empty cM Tok:=fun st=>(nG b st.pos).map fun t=>.ok t st
def ia (b:ByteArray) (x:Int):Sp Empty cM Tok:=fun st=>if 0≤x∧(st.pos:Int) < x∧x≤b.size then some (.ok (dy b (if iA (b.extract st.pos x.toNat) then 2 else 1) st.pos x.toNat) st) else none
def jf (b:ByteArray) (n:Nat) (x:Int):Sp Empty cM Tok:=fun st=>if 0≤x then (match fh b n x.toNat with
 | none=>none
 | some j=>ia b (j:Int) st) else none
theorem zf {j:Nat} {st:cM} (h:st.pos < j∧j≤b.size):ia b (j:Int) st=some (.ok (dy b (if iA (b.extract st.pos j) then 2 else 1) st.pos j) st):=by
 simp only [ia,Int.toNat_natCast]
 rw [if_pos (show (0:Int)≤(j:Int)∧(st.pos:Int) < (j:Int)∧(j:Int)≤(b.size:Int) by omega)]
theorem FH {j:Nat} {st:cM} (h:¬ (st.pos < j∧j≤b.size)):ia b (j:Int) st=none:=by
 simp only [ia,Int.toNat_natCast]
 rw [if_neg (show ¬ ((0:Int)≤(j:Int)∧(st.pos:Int) < (j:Int)∧(j:Int)≤(b.size:Int)) by omega)]
theorem JT (hb:b.size≤65536):Meets PG (SI b sl pb) (aa ly #[.pointer (some ⟨pb,0,none⟩)]) ek (wH b) bm [ByF sl b,MxF]:=by
 refine xr ⟨pb,0,none⟩ (c5 fun st=>?_)
 unfold lE
 refine nJ fun b1=>jJ ?_
 refine kU (fun x=>ia b x.1) (qj (fun n x=>jf b n x.1) (b.size+1) ((st.pos:Int),()) rfl ?_ (fun y st=>?_) fun n y st=>?_) fun y st=>?_
 ·show wH b st=jf b (b.size+1) (st.pos:Int) st
  simp only [jf,wH,nG,Int.toNat_natCast]
  rw [if_pos (by omega)]
  cases fh b (b.size+1) st.pos with
  | none=>rfl
  | some j =>
   by_cases h:st.pos < j∧j≤b.size
   ·simp only [zf h]; rw [if_pos h]; rfl
   ·simp only [FH h]; rw [if_neg h]; rfl
 ·simp [jf,fh]
 ·obtain ⟨y,⟨⟩⟩:=y
  by_cases h0:0≤y
  case neg=>exact cZ (by show jf b (n+1) y st=none; simp only [jf]; rw [if_neg h0])
  obtain ⟨j,rfl⟩:=Int.eq_ofNat_of_zero_le h0
  have hw:jf b (n+1) (j:Int) st=(match (if j < b.size then (if d1 (aY b j)||c6 (aY b j) then fh b n (j+1) else some j) else some j) with
   | none=>none
   | some j=>ia b (j:Int) st):=by simp only [jf,Int.toNat_natCast,if_pos h0,fh]
  refine jl (fX (by repeat (first | exact mz | apply ms)) fun hl=>?_)
  have next:∀ {Δ:Labels Empty cM Tok},(if d1 (aY b j)||c6 (aY b j) then fh b n (j+1) else some j)=fh b n (j+1)→j < b.size→jf b (n+1) (j:Int) st=jf b n (IntKind.i64.wrap ((j:Int)+1)) st:=fun {_} h1 h2=>by
   rw [hw,if_pos h2,h1,bg (by omega) (by omega)]
   simp only [jf]
   rw [if_pos (by omega),show ((j:Int)+1).toNat=j+1 by omega]
  refine aT (fun h=>?_) (fun h=>?_)
  ·have hj:j < b.size:=by have:=of_decide_eq_true h; rw [hl] at this; exact Int.ofNat_lt.1 this
   refine jl (f7 j (by repeat (first | exact mz | apply ms)) rfl hj ?_)
   refine fy (uz _) (fun _ h=>nomatch h) (aT (fun h1=>?_) (fun h1=>?_))
   ·exact gQ (IntKind.i64.wrap ((j:Int)+1),()) co rfl (next (Δ:=noLabel) (by rw [h1]; rfl) hj)
   ·refine jl (f7 j (by repeat (first | exact mz | apply ms)) rfl hj ?_)
    refine fy (yd _) (fun _ h=>nomatch h) (aT (fun h2=>?_) (fun h2=>?_))
    ·exact gQ (IntKind.i64.wrap ((j:Int)+1),()) co rfl (next (Δ:=noLabel) (by rw [h2,Bool.or_true]; rfl) hj)
    ·exact em (s':=fun x:HC [.b (.int .i64)]=>ia b x.1) ((j:Int),()) (BN (by decide) co) rfl (by show jf b (n+1) (j:Int) st=_; rw [hw,if_pos hj,h1,h2]; rfl)
  ·have hj:¬ j < b.size:=by have:=of_decide_eq_false h; rw [hl] at this; exact fun h'=>this (Int.ofNat_lt.2 h')
   exact em (s':=fun x:HC [.b (.int .i64)]=>ia b x.1) ((j:Int),()) (BN (by decide) co) rfl (by show jf b (n+1) (j:Int) st=_; rw [hw,if_neg hj])
 ·obtain ⟨y,⟨⟩⟩:=y
  by_cases h0:0≤y∧(st.pos:Int) < y∧y≤b.size
  case neg=>exact cZ (by show ia b y st=none; simp only [ia]; rw [if_neg h0])
  obtain ⟨j,rfl⟩:=Int.eq_ofNat_of_zero_le h0.1
  have hj:st.pos < j∧j≤b.size:=⟨Int.ofNat_lt.1 h0.2.1,Int.ofNat_le.1 h0.2.2⟩
  have hT:ia b (j:Int) st=some (.ok (dy b (if iA (b.extract st.pos j) then 2 else 1) st.pos j) st):=zf hj
  refine eb (EH hb 1 j) (by simp) (fun h=>by simp only [sr] at h; rw [if_pos hj] at h; cases h) (fun e=>e.elim) fun x t st' h=>?_
  simp only [sr] at h; rw [if_pos hj] at h
  simp only [Option.some.injEq,Res.ok.injEq] at h
  obtain ⟨rfl,rfl⟩:=h
  refine bX fun F hx=>?_
  obtain rfl:x=dy b 1 st.pos j:=hx
  refine rM _ fun b2=>?_
  refine fQ (b1:=.str) (b.extract st.pos j) (List.mem_cons_self ..) (by kernel_rfl) rfl rfl ?_
  refine fy (EE _ (by simp; omega)) (by simp) (aT (fun h=>?_) (fun h=>?_))
  ·refine cT (br (L1:=[]) (L2:=[(b1,ap ad (aP bt))]) (l:=aP (dy b 1 st.pos j)) (T:=ar) (T0:=ad) (c:=false) rfl (by kernel_rfl) rfl (Nat.le_of_ble_eq_true rfl) (by simp [Value.cells,Value.oneCell'])) ?_
   rintro _ _ _ ⟨rfl,rfl⟩
   refine nB (dy b 2 st.pos j) (List.mem_cons_self ..) ?_
   exact gU (L1:=[_]) (L2:=[]) (dy b 2 st.pos j) rfl rfl (by show ia b (j:Int) st=_; rw [hT,if_pos h])
  ·refine nB (dy b 1 st.pos j) (List.mem_cons_self ..) ?_
   exact gU (L1:=[_]) (L2:=[]) (dy b 1 st.pos j) rfl rfl (by show ia b (j:Int) st=_; rw [hT,if_neg (by simp [h])])
end
end Go.Proofs.YtjlgcpgjdgeejaaGreatDoor
end

section
namespace Go.Proofs.YtjlgcpgjdgeejaaGreatDoor
open Go
set_option linter.unusedSimpArgs false
set_option linter.unusedVariables false
set_option linter.constructorNameAsVariable false
set_option maxRecDepth 100000
section
variable {b:ByteArray} {sl:aV} {pb:Nat}
theorem H7 {n:Int} (h0:0≤n) (h1:n≤255):IntKind.u8.wrap n=n:=IntWalk.u8_in _ ⟨h0,h1⟩
def qx (b:ByteArray):Sp Empty cM Tok:=fun st=>(iQ b st.pos).map fun t=>.ok t st
def hG (b:ByteArray) (j:Int) (c:Bool):Sp Empty cM Tok:=fun st=>if 0≤j∧(st.pos:Int) < j∧j≤b.size then some (.ok (if c then bt else dy b 3 st.pos j.toNat) st) else none
def mC (b:ByteArray) (j v:Int):Sp Empty cM Tok:=fun st=>hG b j (oE b st.pos j.toNat v) st
def jp (b:ByteArray) (n:Nat) (j v:Int):Sp Empty cM Tok:=fun st=>if 0≤j then (match gp b n j.toNat v with
 | none=>none
 | some (i,v)=>mC b (i:Int) v st) else none
theorem CC {j:Nat} {c:Bool} {st:cM} (h:st.pos < j∧j≤b.size):hG b (j:Int) c st=some (.ok (if c then bt else dy b 3 st.pos j) st):=by
 simp only [hG,Int.toNat_natCast]
 rw [if_pos (show (0:Int)≤(j:Int)∧(st.pos:Int) < (j:Int)∧(j:Int)≤(b.size:Int) by omega)]
theorem B6 {j:Nat} {c:Bool} {st:cM} (h:¬ (st.pos < j∧j≤b.size)):hG b (j:Int) c st=none:=by
 simp only [hG]
 rw [if_neg (show ¬ ((0:Int)≤(j:Int)∧(st.pos:Int) < (j:Int)∧(j:Int)≤(b.size:Int)) by omega)]
theorem GB (hb:b.size≤65536):Meets PG (SI b sl pb) (aa j6 #[.pointer (some ⟨pb,0,none⟩)]) ek (qx b) bm [ByF sl b,MxF]:=by
 refine uR ⟨pb,0,none⟩ (c5 fun st=>?_)
 unfold j4
 refine nJ fun b1=>jJ ?_
 refine kU (fun x=>mC b x.1 x.2.1) (qj (fun n x=>jp b n x.1 x.2.1) (b.size+1) ((st.pos:Int),(0:Int),()) rfl ?_ (fun y st=>?_) fun n y st=>?_) fun y st=>?_
 ·show qx b st=jp b (b.size+1) (st.pos:Int) 0 st
  simp only [jp,qx,iQ,mC,Int.toNat_natCast]
  rw [if_pos (by omega)]
  cases gp b (b.size+1) st.pos 0 with
  | none=>rfl
  | some j =>
   obtain ⟨j,v⟩:=j
   by_cases h:st.pos < j∧j≤b.size
   ·simp only [CC h]; rw [if_pos h]; rfl
   ·simp only [B6 h]; rw [if_neg h]; rfl
 ·simp [jp,gp]
 ·obtain ⟨(y:Int),(v:Int),⟨⟩⟩:=y
  have hdef:jp b (n+1) y v st=if 0≤y then (match gp b (n+1) y.toNat v with
   | none=>none
   | some (i,v)=>mC b (i:Int) v st) else none:=rfl
  by_cases h0:0≤y
  case neg=>exact cZ (by show jp b (n+1) y v st=none; rw [hdef,if_neg h0])
  obtain ⟨j,rfl⟩:=Int.eq_ofNat_of_zero_le h0
  rw [if_pos h0] at hdef
  simp only [gp,Int.toNat_natCast] at hdef
  by_cases hv:0≤v∧v≤9007199254740992
  case neg=>exact cZ (by show jp b (n+1) (j:Int) v st=none; rw [hdef,if_neg hv])
  rw [if_pos hv] at hdef
  have hdef:∀ st,jp b (n+1) (j:Int) v st=(match (if j < b.size∧c6 (aY b j)=true then gp b n (j+1) (if 9007199254740992 < v * 10+(aY b j - 48) then 9007199254740992 else v * 10+(aY b j - 48)) else some (j,v)) with
   | none=>none
   | some (i,v)=>mC b (i:Int) v st):=fun st=>by simp only [jp,gp,Int.toNat_natCast]; rw [if_pos h0,if_pos hv]
  refine kU (fun x st=>if x.1=true then (if j < b.size∧c6 (aY b j)=true then jp b (n+1) (j:Int) v st else none) else if j < b.size∧c6 (aY b j)=true then none else mC b (j:Int) v st) ?_ fun y2 st2=>?_
  ·refine jl (fX (by repeat (first | exact mz | apply ms)) fun hl=>aT (fun h=>?_) (fun h=>?_))
   ·have hj:j < b.size:=by have:=of_decide_eq_true h; rw [hl] at this; exact Int.ofNat_lt.1 this
    refine jl (f7 j (by repeat (first | exact mz | apply ms)) rfl hj ?_)
    refine fy (yd _) (fun _ h=>nomatch h) ?_
    refine em (ts:=[.b .bool]) (c6 (aY b j),()) co rfl ?_
    show jp b (n+1) (j:Int) v st=_
    cases hd:c6 (aY b j) with
    | true=>simp [hj]
    | false=>rw [hdef]; simp [hd]
   ·have hj:¬ j < b.size:=by have:=of_decide_eq_false h; rw [hl] at this; exact fun h'=>this (Int.ofNat_lt.2 h')
    refine em (ts:=[.b .bool]) (false,()) co rfl ?_
    show jp b (n+1) (j:Int) v st=_
    rw [hdef]; simp [hj]
  ·obtain ⟨c,⟨⟩⟩:=y2
   refine aT (fun h=>?_) (fun h=>?_)
   ·obtain rfl:c=true:=h
    by_cases hd:j < b.size∧c6 (aY b j)=true
    case neg=>exact cZ (by show (if true=true then (if j < b.size∧c6 (aY b j)=true then jp b (n+1) (j:Int) v st2 else none) else _)=none; rw [if_pos rfl,if_neg hd])
    refine jl (f7 j (by repeat (first | exact mz | apply ms)) rfl hd.1 ?_)
    have hc:=hd.2
    simp only [c6,Bool.and_eq_true,decide_eq_true_eq] at hc
    refine gQ (ts:=[.b (.int .i64),.b (.int .i64)]) (((j+1:Nat):Int),(if 9007199254740992 < v * 10+(aY b j - 48) then 9007199254740992 else v * 10+(aY b j - 48):Int),()) co ?_ ?_
    ·rw [H7 (n:=aY b j - 48) (by omega) (by omega),bg (n:=aY b j - 48) (by omega) (by omega),bg (n:=v * 10) (by omega) (by omega),bg (by omega) (by omega),bg (by omega) (by omega)]
     rfl
    ·show (if true=true then (if j < b.size∧c6 (aY b j)=true then jp b (n+1) (j:Int) v st2 else none) else _)=jp b n ((j+1:Nat):Int) _ st2
     rw [if_pos rfl,if_pos hd,hdef,if_pos hd]
     simp only [jp,Int.toNat_natCast]
     rw [if_pos (show (0:Int)≤((j+1:Nat):Int) by omega)]
   ·obtain rfl:c=false:=h
    by_cases hd:j < b.size∧c6 (aY b j)=true
    ·exact cZ (by show (if false=true then _ else (if j < b.size∧c6 (aY b j)=true then none else mC b (j:Int) v st2))=none; rw [if_neg (by decide),if_pos hd])
    ·refine em (s':=fun x:HC [.b (.int .i64),.b (.int .i64)]=>mC b x.1 x.2.1) ((j:Int),v,()) (BN (by decide) co) rfl ?_
     show (if false=true then _ else (if j < b.size∧c6 (aY b j)=true then none else mC b (j:Int) v st2))=mC b (j:Int) v st2
     rw [if_neg (by decide),if_neg hd]
 ·obtain ⟨(y:Int),(v:Int),⟨⟩⟩:=y
  show ay _ _ _ _ _ _ _ _ (mC b y v st) _ _
  by_cases h0:0≤y∧(st.pos:Int) < y∧y≤b.size
  case neg=>exact cZ (by simp only [mC,hG]; rw [if_neg h0])
  obtain ⟨j,rfl⟩:=Int.eq_ofNat_of_zero_le h0.1
  have hj:st.pos < j∧j≤b.size:=⟨Int.ofNat_lt.1 h0.2.1,Int.ofNat_le.1 h0.2.2⟩
  refine kU (fun x=>hG b (j:Int) x.1) ?_ fun y2 st2=>?_
  ·refine aT (fun h=>?_) (fun h=>?_)
   ·refine em (s':=fun x:HC [.b .bool]=>hG b (j:Int) x.1) (true,()) co rfl ?_
    show hG b (j:Int) (oE b st.pos j v) st=_
    have:decide (v > 9007199254740991)=true:=h
    simp only [oE,this,Bool.true_or]
   ·have hv:decide (v > 9007199254740991)=false:=h
    refine kU (fun x st=>hG b (j:Int) (x.1||(decide (j < b.size)&&d1 (aY b j))) st) ?_ fun y3 st3=>?_
    ·refine ft [] (fun _ h=>nomatch h) (pI (eP ?_))
     refine sO st.pos (by repeat (first | exact mz | apply ms)) (by repeat (first | exact mz | apply ms)) rfl (by omega) ?_
     refine aT (fun h2=>?_) (fun h2=>?_)
     ·refine eP (em (s':=fun (x:HC [.b .bool]) st=>hG b (j:Int) (x.1||(decide (j < b.size)&&d1 (aY b j))) st) (decide (j > st.pos+1),()) co ?_ ?_)
      ·rw [bg (by omega) (by omega)]
       show [Value.bool (decide ((j:Int) > (st.pos:Int)+1))]=[Value.bool (decide (j > st.pos+1))]
       congr 2
       exact decide_eq_decide.2 (by omega)
      ·show hG b (j:Int) (oE b st.pos j v) st=_
       simp only [oE,hv,h2,Bool.false_or,Bool.true_and]
     ·refine em (s':=fun (x:HC [.b .bool]) st=>hG b (j:Int) (x.1||(decide (j < b.size)&&d1 (aY b j))) st) (false,()) co rfl ?_
      show hG b (j:Int) (oE b st.pos j v) st=_
      simp only [oE,hv,h2,Bool.false_or,Bool.false_and]
    ·obtain ⟨c,⟨⟩⟩:=y3
     refine aT (fun h=>?_) (fun h=>?_)
     ·obtain rfl:c=true:=h
      exact em (s':=fun x:HC [.b .bool]=>hG b (j:Int) x.1) (true,()) co rfl (by simp only [Bool.true_or])
     ·obtain rfl:c=false:=h
      refine jl (fX (by repeat (first | exact mz | apply ms)) fun hl=>aT (fun h=>?_) (fun h=>?_))
      ·have hj2:j < b.size:=by have:=of_decide_eq_true h; rw [hl] at this; exact Int.ofNat_lt.1 this
       refine jl (f7 j (by repeat (first | exact mz | apply ms)) rfl hj2 ?_)
       refine fy (uz _) (fun _ h=>nomatch h) ?_
       exact em (s':=fun x:HC [.b .bool]=>hG b (j:Int) x.1) (d1 (aY b j),()) co rfl (by simp only [Bool.false_or,hj2,decide_true,Bool.true_and])
      ·have hj2:¬ j < b.size:=by have:=of_decide_eq_false h; rw [hl] at this; exact fun h'=>this (Int.ofNat_lt.2 h')
       exact em (s':=fun x:HC [.b .bool]=>hG b (j:Int) x.1) (false,()) co rfl (by simp only [Bool.false_or,hj2,decide_false,Bool.false_and])
  ·obtain ⟨c,⟨⟩⟩:=y2
   show ay _ _ _ _ _ _ _ _ (hG b (j:Int) c st2) _ _
   by_cases hj:st2.pos < j∧j≤b.size
   case neg=>exact cZ (B6 hj)
   rw [CC hj]
   refine aT (fun h=>?_) (fun h=>?_)
   ·obtain rfl:c=true:=h
    exact gU (L1:=[]) (L2:=[]) bt rfl rfl rfl
   ·obtain rfl:c=false:=h
    refine eb (EH hb 3 j) (by simp) (fun h=>by simp only [sr] at h; rw [if_pos hj] at h; cases h) (fun e=>e.elim) fun x t st' h=>?_
    simp only [sr] at h; rw [if_pos hj] at h
    simp only [Option.some.injEq,Res.ok.injEq] at h
    obtain ⟨rfl,rfl⟩:=h
    refine bX fun F hx=>?_
    obtain rfl:x=dy b 3 st2.pos j:=hx
    exact gU (L1:=[]) (L2:=[]) (dy b 3 st2.pos j) rfl rfl rfl
end
end Go.Proofs.YtjlgcpgjdgeejaaGreatDoor
end

section
namespace Go.Proofs.YtjlgcpgjdgeejaaGreatDoor
open Go
set_option linter.unusedSimpArgs false
set_option linter.unusedVariables false
set_option linter.constructorNameAsVariable false
set_option maxRecDepth 100000
section
variable {b:ByteArray} {sl:aV} {pb:Nat}
def dA (b:ByteArray) (n:Nat):Sp Empty cM Bool:=fun st=>(d2 b n st.pos).map fun x=>.ok x.2 { st with pos:=x.1 }
def o7 (b:ByteArray) (n m:Nat):Sp Empty cM Bool:=fun st=>match gg b m st.pos with
 | none=>none
 | some j=>dA b n { st with pos:=j }
theorem GY (hb:b.size≤65536):Meets PG (SI b sl pb) (aa j5 #[.pointer (some ⟨pb,0,none⟩)]) tB (dA b (b.size+1)) bm [ByF sl b,MxF]:=by
 refine uP ⟨pb,0,none⟩ (c5 fun st=>?_)
 unfold jV
 refine qj (fun n _=>dA b n) (b.size+1) () rfl rfl (fun y st=>rfl) fun n y st=>?_
 show ay _ _ _ _ _ _ _ _ (dA b (n+1) st) _ _
 refine ft [] (fun _ h=>nomatch h) (eP (pI (B0 fun hle=>fX (by repeat (first | exact mz | apply ms)) fun hl=>aT (fun h=>?_) (fun h=>?_))))
 ·have hj:st.pos < b.size:=kg hl h
  have hdef:d2 b (n+1) st.pos=(if decide (Ep i9 (aY b st.pos)≥0) then d2 b n (st.pos+1)
   else if dX b st.pos k_sl_sl then (match gg b (b.size+1) st.pos with
    | none=>none
    | some j=>d2 b n j)
   else if dX b st.pos k_sl_star then
    if decide (oa (b.extract (st.pos+2) b.size) k_star_sl < 0) then some (st.pos,false)
    else if st.pos+(oa (b.extract (st.pos+2) b.size) k_star_sl+4).toNat≤b.size then d2 b n (st.pos+(oa (b.extract (st.pos+2) b.size) k_star_sl+4).toNat) else none
   else some (st.pos,true)):=by rw [d2,if_pos hj]; rfl
  refine ft [] (fun _ h=>nomatch h) (pI (eP ?_))
  refine sO st.pos (by repeat (first | exact mz | apply ms)) (by repeat (first | exact mz | apply ms)) rfl hj ?_
  refine FP (t8 _ _) (fun _ h=>nomatch h) (fun _ h=>nomatch h) (aT (fun h1=>?_) (fun h1=>?_))
  ·refine jJ (Bj (st.pos+1) (by rw [bg (by omega) (by omega)]; simp) (by omega) ?_)
   refine gQ (sp:=fun n (_:HC [])=>dA b n) () co rfl ?_
   simp only [dA,hdef,h1,if_pos]
  ·refine jJ ?_
   refine eb (vQ hb st.pos (by omega) k_sl_sl (by decide)) (by simp) (fun h=>by cases h) (fun e=>e.elim) fun x c st' h=>?_
   simp only [CN,Option.some.injEq,Res.ok.injEq] at h
   obtain ⟨rfl,rfl⟩:=h
   refine bX fun F hx=>?_
   obtain rfl:x=dX b st.pos k_sl_sl:=hx
   refine aT (fun h2=>?_) (fun h2=>?_)
   ·refine qj (fun m _=>o7 b n m) (b.size+1) () rfl ?_ (fun y st=>rfl) fun m y st=>?_
    ·simp only [dA,o7,hdef,h1,h2,if_pos]
     rw [if_neg (by decide)]
     cases gg b (b.size+1) st.pos<;>rfl
    ·show ay _ _ _ _ _ _ _ _ (o7 b n (m+1) st) _ _
     have hd:∀ st,o7 b n (m+1) st=(match (if st.pos < b.size then (if aY b st.pos != 10 then gg b m (st.pos+1) else some st.pos) else some st.pos) with
      | none=>none
      | some j=>dA b n { st with pos:=j }):=fun st=>rfl
     refine kU (fun x st=>if x.1=true then (if st.pos < b.size then o7 b n m { st with pos:=st.pos+1 } else none) else dA b n st) ?_ fun y2 st2=>?_
     ·refine ft [] (fun _ h=>nomatch h) (eP (pI (fX (by repeat (first | exact mz | apply ms)) fun hl=>aT (fun h=>?_) (fun h=>?_))))
      ·have hj:st.pos < b.size:=kg hl h
       refine pI (eP ?_)
       refine sO st.pos (by repeat (first | exact mz | apply ms)) (by repeat (first | exact mz | apply ms)) rfl hj ?_
       refine em (s':=fun (x:HC [.b .bool]) st=>if x.1=true then (if st.pos < b.size then o7 b n m { st with pos:=st.pos+1 } else none) else dA b n st) ((aY b st.pos != 10:Bool),()) co rfl ?_
       rw [hd,if_pos hj]
       cases hc:(aY b st.pos != 10) with
       | true=>simp only [if_pos,hj]; rfl
       | false=>rfl
      ·have hj:¬ st.pos < b.size:=kf hl h
       refine em (s':=fun (x:HC [.b .bool]) st=>if x.1=true then (if st.pos < b.size then o7 b n m { st with pos:=st.pos+1 } else none) else dA b n st) (false,()) co rfl ?_
       rw [hd,if_neg hj]; rfl
     ·obtain ⟨c,⟨⟩⟩:=y2
      refine aT (fun h=>?_) (fun h=>?_)
      ·obtain rfl:c=true:=h
       by_cases hj:st2.pos < b.size
       case neg=>exact cZ (by show (if true=true then (if st2.pos < b.size then _ else none) else _)=none; rw [if_pos rfl,if_neg hj])
       refine jJ (Bj (st2.pos+1) (by rw [bg (by omega) (by omega)]; simp) (by omega) ?_)
       refine gQ (sp:=fun m (_:HC [])=>o7 b n m) () co rfl ?_
       show (if true=true then (if st2.pos < b.size then _ else none) else _)=_
       rw [if_pos rfl,if_pos hj]
      ·obtain rfl:c=false:=h
       exact gQ (sp:=fun n (_:HC [])=>dA b n) () (BN (by decide) co) rfl rfl
   ·refine jJ ?_
    refine eb (vQ hb st.pos (by omega) k_sl_star (by decide)) (by simp) (fun h=>by cases h) (fun e=>e.elim) fun x c st' h=>?_
    simp only [CN,Option.some.injEq,Res.ok.injEq] at h
    obtain ⟨rfl,rfl⟩:=h
    refine bX fun F hx=>?_
    obtain rfl:x=dX b st.pos k_sl_star:=hx
    have h1':decide (Ep i9 (aY b st.pos)≥0)=false:=h1
    refine aT (fun h3=>?_) (fun h3=>?_)
    ·have h3':=h3
     simp only [dX,Bool.and_eq_true,decide_eq_true_eq,show k_sl_star.size=2 from rfl] at h3'
     have hle2:=h3'.1
     rw [h1',h2,h3,if_neg (by decide),if_neg (by decide),if_pos rfl] at hdef
     refine ft [] (fun _ h=>nomatch h) (pI (eP ?_))
     rw [bg (by omega) (by omega)]
     refine kQ (t1:=ai) (gE sl (st.pos+2) b.size) (I9 (by repeat (first | exact mz | apply ms)) (st.pos+2) (by simp) hle2) ?_
     refine kQ (t1:=tS) (b.extract (st.pos+2) b.size) (CQ (by repeat (first | exact mz | apply ms)) _ _ hle2 (Nat.le_refl _) (by omega)) ?_
     refine FP (Ja _ _ (by simp; omega)) (by simp) (fun _ h=>nomatch h) (aT (fun h4=>?_) (fun h4=>?_))
     ·rw [if_pos h4] at hdef
      exact f8 (t:=tB) _ rfl (by simp only [dA,hdef]; rfl)
     ·have h4':¬ oa (b.extract (st.pos+2) b.size) k_star_sl < (0:Int):=of_decide_eq_false h4
      rw [if_neg (by rw [h4]; decide)] at hdef
      by_cases h5:st.pos+(oa (b.extract (st.pos+2) b.size) k_star_sl+4).toNat≤b.size
      case neg=>exact cZ (by simp only [dA,hdef,if_neg h5]; rfl)
      rw [if_pos h5] at hdef
      refine jJ (Bj (st.pos+(oa (b.extract (st.pos+2) b.size) k_star_sl+4).toNat) ?_ h5 ?_)
      ·rw [bg (n:=oa (b.extract (st.pos+2) b.size) k_star_sl+4) (by omega) (by omega),bg (by omega) (by omega)]
       omega
      ·refine gQ (sp:=fun n (_:HC [])=>dA b n) () co rfl ?_
       simp only [dA,hdef]
    ·rw [h1',h2,h3,if_neg (by decide),if_neg (by decide),if_neg (by decide)] at hdef
     exact f8 (t:=tB) _ rfl (by simp only [dA,hdef]; rfl)
 ·have hj:¬ st.pos < b.size:=kf hl h
  exact f8 (t:=tB) _ rfl (by simp only [dA,d2,if_neg hj]; rfl)
def vB (b:ByteArray):Sp Empty cM Tok:=fun st=>If (qF b st)
def jN (st:cM):Option (Option Tok)→Option (Res Empty cM Tok)
 | none=>none
 | some none=>some (.ok bt st)
 | some (some t)=>(nF t.text st.opn).map fun o=>.ok t { st with opn:=o }
def jb (b:ByteArray) (f:Nat) (k:Int):Sp Empty cM Tok:=fun st=>if 0≤k then jN st (fv b st.pos f k.toNat) else none
theorem Ia {Γ:List Fact} {k:Nat} (hk:k < 3):PVal PG Γ (yr eU (.agg #[.string qi,.string pN,.string p4]) (.int .i64 (k:Int))) (.string (jj k)):=PVal.pure fun w=>by
 have hu:PG.underlying eU=some (.array 3 aK):=by kernel_rfl
 have hs:cK PG aK=some (false,1):=by kernel_rfl
 have h3:k=0∨k=1∨k=2:=by omega
 rcases h3 with rfl | rfl | rfl<;>simp [yr,cG,Instr.index,asIntOf,run_underlying hu,(dG hs).1,(dG hs).2,jj,part]
theorem EQ (k:Nat):(jj k).size < 4294967281:=by
 unfold jj
 split<;>decide
theorem J6 (hb:b.size≤65536):Meets PG (SI b sl pb) (aa lQ #[.pointer (some ⟨pb,0,none⟩)]) ek (vB b) bm [ByF sl b,MxF]:=by
 refine yn ⟨pb,0,none⟩ (c5 fun st=>?_)
 unfold lG
 refine nJ fun b1=>?_
 refine cT (bT (z:=[.string kE,.string kE,.string kE]) (by kernel_rfl)) ?_
 rintro _ _ _ ⟨b2,rfl,rfl,rfl⟩
 refine cT (br (L1:=[]) (L2:=[(b1,ap ad (aP bt))]) (l:=[.string kE,.string kE,.string kE]) (T:=eU) (T0:=eU) (c:=true) rfl (by kernel_rfl) rfl (Nat.le_of_ble_eq_true rfl) (by simp [Value.cells,Value.oneCell'])) ?_
 rintro _ _ _ ⟨rfl,rfl⟩
 refine cT (f5 (bs:=[.str,.str,.str]) (l:=[.string qi,.string pN,.string p4]) (T0:=eU) (qi,pN,p4,()) (Rd.own (List.mem_cons_self ..)) (by kernel_rfl) rfl rfl) ?_
 rintro _ _ _ ⟨rfl,rfl,rfl⟩
 refine wt (L':=[(b1,ap ad (aP bt))]) (List.sublist_cons_self ..) ?_
 refine kU (fun _ st=>some (.ok bt st)) (qj (fun f x=>jb b f x.1) 4 ((0:Int),()) rfl ?_ (fun y st=>?_) fun f y st=>?_) fun y st=>?_
 ·show vB b st=jb b 4 0 st
  simp only [jb,vB,qF,If]
  rw [if_pos (by decide)]
  show Option.map _ (match fv b st.pos 4 0 with | none=>none | some none=>some (bt,st) | some (some t)=>Option.map (fun o=>(t,{ st with opn:=o })) (nF t.text st.opn))=jN st (fv b st.pos 4 0)
  cases fv b st.pos 4 0 with
  | none=>rfl
  | some x =>
   cases x with
   | none=>rfl
   | some t=>simp only [jN,Option.map_map]; rfl
 ·show jb b 0 y.1 st=none
  simp [jb,fv,jN]
 ·obtain ⟨(k:Int),⟨⟩⟩:=y
  show ay _ _ _ _ _ _ _ _ (jb b (f+1) k st) _ _
  by_cases h0:0≤k
  case neg=>exact cZ (by simp only [jb]; rw [if_neg h0])
  obtain ⟨k,rfl⟩:=Int.eq_ofNat_of_zero_le h0
  have hdef:jb b (f+1) (k:Int) st=jN st (fv b st.pos (f+1) k):=by simp only [jb,Int.toNat_natCast]; rw [if_pos h0]
  refine aT (fun h=>?_) (fun h=>?_)
  ·have hk:k < 3:=by have:(k:Int) < 3:=of_decide_eq_true h; omega
   have hnext:∀ st:cM,jb b f (IntKind.i64.wrap ((k:Int)+1)) st=jN st (fv b st.pos f (k+1)):=fun st=>by
    rw [bg (by omega) (by omega)]
    simp only [jb]
    rw [if_pos (by omega),show ((k:Int)+1).toNat=k+1 by omega]
   simp only [fv,if_pos hk] at hdef
   refine dK (t1:=tS) (jj k) (Ia hk) ?_
   refine ft [] (fun _ h=>nomatch h) (pI (eP (B0 fun hle=>fX (by repeat (first | exact mz | apply ms)) fun hl=>?_)))
   rw [hl,bg (n:=(b.size:Int) - (st.pos:Int)) (by omega) (by omega),bg (n:=3 - (k:Int)) (by omega) (by omega)]
   refine aT (fun h1=>?_) (fun h1=>?_)
   ·rw [if_pos h1] at hdef
    exact gQ (sp:=fun f (x:HC [.b (.int .i64)])=>jb b f x.1) (IntKind.i64.wrap ((k:Int)+1),()) co rfl (by rw [hdef,hnext])
   ·rw [if_neg (by rw [h1]; decide)] at hdef
    have h1':¬ (b.size:Int) - st.pos < 3 - (k:Int):=of_decide_eq_false h1
    have hn:st.pos < st.pos+(3 - k)∧st.pos+(3 - k)≤b.size:=by omega
    refine jJ ?_
    rw [bg (by omega) (by omega),show (st.pos:Int)+(3 - (k:Int))=((st.pos+(3 - k):Nat):Int) by omega]
    refine eb (EH hb 9 (st.pos+(3 - k))) (by simp) (fun h=>by simp only [sr] at h; rw [if_pos hn] at h; cases h) (fun e=>e.elim) fun x t st' h=>?_
    simp only [sr] at h; rw [if_pos hn] at h
    simp only [Option.some.injEq,Res.ok.injEq] at h
    obtain ⟨rfl,rfl⟩:=h
    refine bX fun F hx=>?_
    obtain rfl:x=dy b 9 st.pos (st.pos+(3 - k)):=hx
    refine rM _ fun b3=>?_
    let X:=b.extract st.pos (st.pos+(3 - k))
    have hX:X.size≤3:=by show (b.extract st.pos (st.pos+(3 - k))).size≤3; simp; omega
    refine kU (fun x st'=>if st'=st then (if x.1=true then jN st (fv b st.pos f (k+1)) else jN st (some (some (dy b 9 st.pos (st.pos+(3 - k)))))) else none) ?_ fun y2 st2=>?_
    ·refine fQ (b1:=.str) X (List.mem_cons_self ..) (by kernel_rfl) rfl rfl ?_
     refine fy (xA X hX) (by simp) (aT (fun h2=>?_) (fun h2=>?_))
     ·refine em (s':=fun (x:HC [.b .bool]) st'=>if st'=st then (if x.1=true then jN st (fv b st.pos f (k+1)) else jN st (some (some (dy b 9 st.pos (st.pos+(3 - k)))))) else none) (true,()) co rfl ?_
      rw [if_pos rfl,if_pos rfl,hdef,if_pos h2]
     ·rw [if_neg (by rw [show JX (b.extract st.pos (st.pos+(3 - k))) ff=false from h2]; decide)] at hdef
      refine fQ (b1:=.str) X (List.mem_cons_self ..) (by kernel_rfl) rfl rfl ?_
      refine dK (t1:=tS) (k_sp++X) (PVal.pure fun w=>pO _ _ (by have:k_sp.size=1:=rfl; omega)) ?_
      refine dK (t1:=tS) (k_sp++X++k_sp) (PVal.pure fun w=>pO _ _ (by have:k_sp.size=1:=rfl; simp; omega)) ?_
      refine fy (vA (jj k) (k_sp++X++k_sp) (EQ k)) (by simp) ?_
      refine em (s':=fun (x:HC [.b .bool]) st'=>if st'=st then (if x.1=true then jN st (fv b st.pos f (k+1)) else jN st (some (some (dy b 9 st.pos (st.pos+(3 - k)))))) else none) ((!Bu (jj k) (k_sp++X++k_sp):Bool),()) co rfl ?_
      rw [if_pos rfl,hdef]
      cases hc:Bu (jj k) (k_sp++X++k_sp) with
      | true=>rw [if_neg (by decide)]; rfl
      | false=>rw [if_pos (by decide)]; rfl
    ·obtain ⟨c,⟨⟩⟩:=y2
     by_cases hs2:st2=st
     case neg=>exact cZ (if_neg hs2)
     subst hs2
     refine aT (fun h2=>?_) (fun h2=>?_)
     ·obtain rfl:c=true:=h2
      exact wt (List.sublist_cons_self ..) (gQ (sp:=fun f (x:HC [.b (.int .i64)])=>jb b f x.1) (IntKind.i64.wrap ((k:Int)+1),()) co rfl (by rw [if_pos rfl,if_pos rfl,hnext]))
     ·obtain rfl:c=false:=h2
      rw [if_pos rfl]
      show ay _ _ _ _ _ _ _ _ ((nF X st2.opn).map fun o=>.ok (dy b 9 st2.pos (st2.pos+(3 - k))) { st2 with opn:=o }) _ _
      refine fQ (b1:=.str) X (List.mem_cons_self ..) (by kernel_rfl) rfl rfl (aT (fun h3=>?_) (fun h3=>?_))
      ·have h3':(X.toList==k_lc.toList)=true:=h3
       by_cases hlen:st2.opn.length < 1048576
       case neg=>exact cZ (by simp only [nF]; rw [if_pos h3',if_neg hlen]; rfl)
       refine FQ hlen (nB (dy b 9 st2.pos (st2.pos+(3 - k))) (List.mem_cons_self ..) ?_)
       exact gU (L1:=[_]) (L2:=[]) (dy b 9 st2.pos (st2.pos+(3 - k))) rfl rfl (by simp only [nF]; rw [if_pos h3',if_pos hlen]; rfl)
      ·have h3':¬ (X.toList==k_lc.toList)=true:=by rw [show (X.toList==k_lc.toList)=false from h3]; decide
       refine aT (fun h4=>?_) (fun h4=>?_)
       ·have h4':(X.toList==k_rc.toList)=true:=h4
        refine Iv (f:=fun n=>if IntKind.i64.wrap (n - 1) > 0 then IntKind.i64.wrap (n - 1) else 0) (fun n _ hn=>?_) (nB (dy b 9 st2.pos (st2.pos+(3 - k))) (List.mem_cons_self ..) ?_)
        ·rw [bg (by omega) (by omega)]
         split<;>omega
        ·exact gU (L1:=[_]) (L2:=[]) (dy b 9 st2.pos (st2.pos+(3 - k))) rfl rfl (by simp only [nF]; rw [if_neg h3',if_pos h4']; rfl)
       ·have h4':¬ (X.toList==k_rc.toList)=true:=by rw [show (X.toList==k_rc.toList)=false from h4]; decide
        refine nB (dy b 9 st2.pos (st2.pos+(3 - k))) (List.mem_cons_self ..) ?_
        exact gU (L1:=[_]) (L2:=[]) (dy b 9 st2.pos (st2.pos+(3 - k))) rfl rfl (by simp only [nF]; rw [if_neg h3',if_neg h4']; rfl)
  ·have hk:¬ k < 3:=by have:¬ (k:Int) < 3:=of_decide_eq_false h; omega
   simp only [fv,if_neg hk] at hdef
   exact em (s':=fun (_:HC []) st=>some (.ok bt st)) () (BN (by decide) co) rfl hdef
 ·exact gU (L1:=[]) (L2:=[]) bt rfl rfl rfl
end
end Go.Proofs.YtjlgcpgjdgeejaaGreatDoor
end

section
namespace Go.Proofs.YtjlgcpgjdgeejaaGreatDoor
open Go
set_option linter.unusedSimpArgs false
set_option linter.unusedVariables false
set_option linter.constructorNameAsVariable false
set_option maxRecDepth 100000
section
variable {ε σ β:Type} {P:Program} {I:aN ε σ} {t:Ty} {Rel:β→t.den→ak→Fact} {Δ:Labels ε σ β} {md:cS} {L:ak} {Γ:List Fact} {st:σ} {run:Option (Res ε σ β)}
theorem xE {β1:Type} {t1:Ty} {s0:Sem Next} {k:t1.den→T} {s1:Sp ε σ β1} {Rel1:β1→t1.den→ak→Fact} {Γ1:List Fact} {K0 L0:ak} (hm:qb P I s0 t1 s1 Rel1 K0 Γ1) (hΓ1:∀ A∈Γ1,A∈Γ) (hL:L=K0++L0)
  (hn:s1 st=none→run=none) (he:∀ e,s1 st=some (.err e)→run=some (.err e))
  (hk:∀ x b K st',s1 st=some (.ok b st')→ay P I t Rel Δ none st' (k x) run (K++L0) (Rel1 b x K::Γ)):ay P I t Rel Δ md st (.op s0 t1 k) run L Γ:=by
 subst hL
 intro H r w F res S hs hΓ hsp hq
 have hsp0:Split r w ((H++K0)++L0) F:=by rw [List.append_assoc]; exact hsp
 simp only [T.wp]
 have hi:=hΓ _ (List.mem_cons_self ..)
 have hΓ':Holds Γ F:=fun A hA=>hΓ A (List.mem_cons_of_mem _ hA)
 cases h1:s1 st with
 | none=>rw [hn h1] at hs; cases hs
 | some r1 =>
  cases r1 with
  | err y =>
   obtain rfl:Res.err y=res:=Option.some.inj ((he y h1).symm.trans hs)
   refine bR ?_ ?_ _ (hm (Split.give r L0) w F H st (.err y) h1 (fun A hA=>hΓ' A (hΓ1 A hA)) hi hsp0.out)
   ·rintro v w' ⟨F',hle,c,hc,_⟩; cases hc
   ·rintro c w' ⟨F',hle,c',hc,herr',hS⟩
    cases hc
    exact ⟨F',hle,c,rfl,herr',(Split.back hsp0 hS).sub (List.nil_sublist _)⟩
  | ok b st' =>
   refine bR ?_ ?_ _ (hm (Split.give r L0) w F H st (.ok b st') h1 (fun A hA=>hΓ' A (hΓ1 A hA)) hi hsp0.out)
   ·rintro v w' ⟨F',hle,H',K1,x,hv,hinv,hS,hR⟩
    cases hv
    refine ⟨x,rfl,d7 hle (hk x b K1 st' h1 H' r w' F' res S hs (Holds.cons hinv (Holds.cons hR (hΓ'.mono hle))) ?_ trivial)⟩
    rw [← List.append_assoc]; exact Split.back hsp0 hS
   ·rintro c w' ⟨F',hle,H',K1,x,hv,_⟩; cases hv
end
section
variable {ε σ β:Type} {P:Program} {I:aN ε σ} {t:Ty} {Rel:β→t.den→ak→Fact} {Δ:Labels ε σ β} {md:cS} {L:ak} {Γ:List Fact} {st:σ} {run:Option (Res ε σ β)}
noncomputable def pf (N:Nat) (st:σ) (run:Option (Res ε σ β)) (n i:Nat):Sp ε σ β:=fun st'=>@ite _ (n=N - i+1∧st'=st) (Classical.propDecidable _) run none
theorem uU {N n i:Nat} (h:n=N - i+1):pf N st run n i st=run:=by unfold pf; rw [if_pos ⟨h,rfl⟩]
theorem yy {δ:Type} {l:Nat} {ts:List C} {vs:List Value} {body:HC ts→T} (N:Nat) (f:Nat→δ→HC ts) (J:Nat→δ→ak→Fact) (d0:δ) (hv:vs=HC.enc ts (f 0 d0)) (h0:∀ F,Holds Γ F→(J 0 d0 L).p F)
  (hb:∀ (i:Nat) (d:δ) (L':ak) (Δ':Labels ε σ β),i≤N→(∀ l',l'≠l→Δ' l'=Δ l') →
   (∀ {md:cS} {L2:ak} {Γ2:List Fact} {vs:List Value} (d':δ),i < N→vs=HC.enc ts (f (i+1) d')→(∀ F,Holds Γ2 F→(J (i+1) d' L2).p F)→ay P I t Rel Δ' md st (.out l vs) run L2 Γ2) →
   ay P I t Rel Δ' none st (body (f i d)) run L' (J i d L'::Γ)):ay P I t Rel Δ md st (.loop l ts vs body) run L Γ:=by
 refine sH (ts:=ts) (δ:=Nat × δ) (fun x=>f x.1 x.2) (fun x L'=>(Fact.prop (x.1≤N)).both (J x.1 x.2 L')) (fun n x=>pf N st run n x.1) (N+1) (0,d0) hv (uU (by simp)).symm (fun d st'=>by unfold pf; rw [if_neg (by omega)]) (fun F hF=>⟨Nat.zero_le _,h0 F hF⟩) fun n x L' st'=>?_
 obtain ⟨i,d⟩:=x
 refine jy (bX fun F0 hi=>?_)
 have hi':i≤N:=hi
 by_cases hg:n+1=N - i+1∧st'=st
 case neg=>exact cZ (by show pf N st run (n+1) i st'=none; unfold pf; rw [if_neg hg])
 obtain ⟨hg,rfl⟩:=hg
 rw [show pf N st' run (n+1) (i,d).1 st'=run from uU hg]
 refine hb i d L' _ hi' (fun l' hl=>?_) fun {md L2 Γ2 vs} d' hlt hvs hJ=>?_
 ·show Labels.set Δ l _ l'=_
  unfold Labels.set
  rw [if_neg hl]
 ·exact td (l:=l) (n:=n) (ts:=ts) (f:=fun x:Nat × δ=>f x.1 x.2) (J:=fun x L'=>(Fact.prop (x.1≤N)).both (J x.1 x.2 L')) (sp:=fun n x=>pf N st' run n x.1) (i+1,d') (by simp [Labels.set]) hvs (uU (by omega)).symm fun F hF=>⟨hlt,hJ F hF⟩
end
abbrev bc (x:ByteArray):List Value:=Lib.strCells x
theorem wm (x:ByteArray):(bc x).length=x.size:=Lib.strCells_length x
theorem BS (x y:ByteArray):bc (x++y)=bc x++bc y:=by simp [bc,Lib.strCells,ByteArray.data_append]
theorem EX {L L0 K:ak} {Γ:List Fact} {x:aV} {xs:List Value} (s:ByteArray) (hL:L=K++L0) (hb:Buf ax 1 x xs K) (h0:0 < s.size) (hbound:x.2.1+s.size≤140737488355328) :
  Loc PG (cW #[aj,aK] aj #[.slice x.1 x.2.1 x.2.2,.string s]) ai L Γ fun y L' Γ'=>∃ K',L'=K'++L0∧Γ'=Γ∧y.2.1=x.2.1+s.size∧Buf ax 1 y (xs++bc s) K':=by
 have ht:PG.underlying aj=some (.slice ax):=by kernel_rfl
 have hu:PG.underlying aK=some .string:=by kernel_rfl
 obtain ⟨i,hi,hz,hsz,hby⟩:∃ i,PG.info? ax=some i∧i.zero=some (.int .u8 0)∧i.size=1∧i.bytes=1:=⟨_,rfl,rfl,rfl,rfl⟩
 have hzs:(Value.int .u8 0).cells.size=1:=rfl
 have hslen:=wm s
 subst hL
 refine Loc.val fun r w F H hF hsp=>?_
 have hmx:x.2.1+s.size≤maxLen:=by unfold maxLen; omega
 rcases hb with ⟨rfl,rfl,rfl⟩ | ⟨g,cells,rfl,hx1,hxl,hnc,hcm,hcl,htk⟩
 ·have hrun:=run_append_nil_string (P:=PG) w aj aK aj ax i (.int .u8 0) ht hu hi hz s h0 (by simp at hbound; omega) (by rw [hby]; simp at hbound; omega)
  have hge:=grownCap_ge w s.size 0 ax
  have hle:=grownCap_le_maxLen w s.size 0 ax (by simpa using hmx)
  have he:(.cells (s.data.map (fun b=>Value.int .u8 b.toNat)++Builtin.zeroCells (Value.int .u8 0).cells (grownCap w s.size 0 ax - s.size)) ax:Obj)=ap ax (bc s++(Builtin.zeroCells (Value.int .u8 0).cells (grownCap w s.size 0 ax - s.size)).toList):=by
   unfold ap; congr 1; apply Array.ext'; simp [bc,Lib.strCells]
  rw [he] at hrun
  refine ⟨(some ⟨w.heap.size,0,none⟩,s.size,grownCap w s.size 0 ax),w.drew.alloc (ap ax (bc s++(Builtin.zeroCells (Value.int .u8 0).cells (grownCap w s.size 0 ax - s.size)).toList)),(w.heap.size,ap ax (bc s++(Builtin.zeroCells (Value.int .u8 0).cells (grownCap w s.size 0 ax - s.size)).toList))::L0,Γ,F,.inl ?_,Heap.le.refl F,hF,?_,
   [(w.heap.size,_)],rfl,rfl,by simp,.inr ⟨w.heap.size,_,rfl,rfl,by simpa using hslen,hge,hle,?_,?_⟩⟩
  ·simp only [cW,cG,Sem.run_bind,hrun,Result.andThen_ok,Sem.run_pure]; rfl
  ·have h2:Split r w.drew (H++L0) F:=hsp.drewn _ rfl rfl rfl rfl
   exact (h2.new (ap ax (bc s++(Builtin.zeroCells (Value.int .u8 0).cells (grownCap w s.size 0 ax - s.size)).toList))).perm (List.perm_middle (l₁:=H) (l₂:=L0))
  ·rw [List.length_append,jO,hzs,hslen]; show s.size+(grownCap w s.size 0 ax - s.size) * 1=grownCap w s.size 0 ax * 1; omega
  ·simp only [List.nil_append]; rw [List.take_left' (by simpa using hslen)]
 ·by_cases hroom:x.2.1+s.size≤x.2.2
  ·have hg:w.heap[g]? = some (.cells cells.toArray ax (0,0)):=hsp.own g _ (List.mem_append_right _ (List.mem_append_left _ (List.mem_cons_self ..)))
   have hrun:=Lib.run_append_room_string (P:=PG) w aj aK aj ax i ht hu hi hsz g x.2.1 x.2.2 cells.toArray hg s hroom (by rw [List.size_toArray,hcl]; omega)
   refine ⟨(some ⟨g,0,none⟩,x.2.1+s.size,x.2.2),w.setRow g (cells.take x.2.1++bc s++cells.drop (x.2.1+s.size)).toArray,(g,ap ax (cells.take x.2.1++bc s++cells.drop (x.2.1+s.size)))::L0,Γ,F,.inl ?_,Heap.le.refl F,hF,?_,
    [(g,_)],rfl,rfl,rfl,.inr ⟨g,_,rfl,rfl,?_,hroom,hcm,?_,?_⟩⟩
   ·simp only [cW,cG,Sem.run_bind,hx1,hrun,Result.andThen_ok,Sem.run_pure]; rfl
   ·exact Split.setRow (L1:=[]) hsp
   ·rw [List.length_append,hxl,hslen]; show x.2.1 * 1+s.size=(x.2.1+s.size) * 1; omega
   ·simp only [List.length_append,List.length_take,List.length_drop,hcl,hslen]; show min x.2.1 (x.2.2 * 1)+s.size+(x.2.2 * 1 - (x.2.1+s.size))=x.2.2 * 1; omega
   ·have htk':cells.take x.2.1=xs:=by rw [← htk,Nat.mul_one]
    rw [htk',List.take_left']
    rw [List.length_append,hxl,hslen]; show x.2.1 * 1+s.size=(x.2.1+s.size) * 1; omega
  ·have hg:w.heap[(⟨g,0,none⟩:Addr).block]? = some (ap ax cells):=hsp.own g _ (List.mem_append_right _ (List.mem_append_left _ (List.mem_cons_self ..)))
   have holds:∀ j u,xs[j]? = some u→w.cell? ((⟨g,0,none⟩:Addr).add j)=some u:=yX hg rfl (by show (cells.drop 0).take xs.length=xs; rw [List.drop_zero,hxl,htk])
   have hrun:=Lib.run_append_grow_string (P:=PG) w aj aK aj ax i (.int .u8 0) ht hu hi hz ⟨g,0,none⟩ x.2.1 x.2.2 xs (by rw [hsz]; exact hxl) holds s (by omega) (by omega) (growslice_fits (by omega) (by rw [hby]; omega))
   have hge:=grownCap_ge w (x.2.1+s.size) x.2.2 ax
   have hle:=grownCap_le_maxLen w (x.2.1+s.size) x.2.2 ax hmx
   have he:(.cells (xs.toArray++(Lib.strCells s).toArray++Builtin.zeroCells (Value.int .u8 0).cells (grownCap w (x.2.1+s.size) x.2.2 ax - (x.2.1+s.size))) ax:Obj)=ap ax (xs++bc s++(Builtin.zeroCells (Value.int .u8 0).cells (grownCap w (x.2.1+s.size) x.2.2 ax - (x.2.1+s.size))).toList):=by
    unfold ap; congr 1; apply Array.ext'; simp
   rw [he] at hrun
   refine ⟨(some ⟨w.heap.size,0,none⟩,x.2.1+s.size,grownCap w (x.2.1+s.size) x.2.2 ax),w.drew.alloc (ap ax (xs++bc s++(Builtin.zeroCells (Value.int .u8 0).cells (grownCap w (x.2.1+s.size) x.2.2 ax - (x.2.1+s.size))).toList)),(w.heap.size,ap ax (xs++bc s++(Builtin.zeroCells (Value.int .u8 0).cells (grownCap w (x.2.1+s.size) x.2.2 ax - (x.2.1+s.size))).toList))::L0,Γ,F,.inl ?_,Heap.le.refl F,hF,?_,
    [(w.heap.size,_)],rfl,rfl,rfl,.inr ⟨w.heap.size,_,rfl,rfl,?_,hge,hle,?_,?_⟩⟩
   ·simp only [cW,cG,Sem.run_bind,hx1,hrun,Result.andThen_ok,Sem.run_pure]; rfl
   ·have h2:Split r w.drew (H++L0) F:=(hsp.sub (H':=H++L0) (List.Sublist.append_left (List.sublist_cons_self ..) _)).drewn _ rfl rfl rfl rfl
    exact (h2.new (ap ax (xs++bc s++(Builtin.zeroCells (Value.int .u8 0).cells (grownCap w (x.2.1+s.size) x.2.2 ax - (x.2.1+s.size))).toList))).perm (List.perm_middle (l₁:=H) (l₂:=L0))
   ·rw [List.length_append,hxl,hslen]; show x.2.1 * 1+s.size=(x.2.1+s.size) * 1; omega
   ·rw [List.length_append,List.length_append,jO,hzs,hxl,hslen]
    show x.2.1 * 1+s.size+(grownCap w (x.2.1+s.size) x.2.2 ax - (x.2.1+s.size)) * 1=grownCap w (x.2.1+s.size) x.2.2 ax * 1; omega
   ·exact List.take_left' (by rw [List.length_append,hxl,hslen]; show x.2.1 * 1+s.size=(x.2.1+s.size) * 1; omega)
section
variable {ε σ β:Type} {I:aN ε σ} {t:Ty} {Rel:β→t.den→ak→Fact} {Δ:Labels ε σ β} {md:cS} {L:ak} {Γ:List Fact} {st:σ} {run:Option (Res ε σ β)}
theorem K8 (c:Int):Instr.fill (fun i=>some (i * 1,1)) ((Array.range (1 * 1)).map ((Value.int .u8 0).cells[· % (Value.int .u8 0).cells.size]!)) [(0,.int .u8 c)]=some [Value.int .u8 c].toArray :=
 congrFun (show (fun (c:Int)=>Instr.fill (fun i=>some (i * 1,1)) ((Array.range (1 * 1)).map ((Value.int .u8 0).cells[· % (Value.int .u8 0).cells.size]!)) [(0,.int .u8 c)])=(fun (c:Int)=>some [Value.int .u8 c].toArray) from by kernel_rfl) c
theorem Fy {L0 K:ak} {x:aV} {xs:List Value} (c:Int) {k:aV→T} (hL:L=K++L0) (hb:Buf ax 1 x xs K) (hbound:x.2.1+1≤140737488355328)
  (hk:∀ y K',y.2.1=x.2.1+1→Buf ax 1 y (xs++[.int .u8 c]) K'→ay PG I t Rel Δ none st (k y) run (K'++L0) Γ) :
  ay PG I t Rel Δ md st (.op (aG aj 1 #[(0,.int .u8 c)]) ai fun r1=>.op (cW #[aj,aj] aj #[.slice x.1 x.2.1 x.2.2,.slice r1.1 r1.2.1 r1.2.2]) ai k) run L Γ:=by
 subst hL
 refine cT (lC (e:=ax) (size:=1) (z:=.int .u8 0) [.int .u8 c] (by kernel_rfl) (by kernel_rfl) (by decide) (by decide) (K8 c)) ?_
 rintro _ _ _ ⟨bn,rfl,rfl,rfl⟩
 refine cT (eZ (L0:=L0) (K:=K) (size:=1) (bytes:=1) (e:=ax) (m:=1) (news:=[.int .u8 c]) (by kernel_rfl) rfl hb (Rd.at (List.mem_cons_self ..)) rfl rfl rfl (by decide) (by simp [Value.oneCell']) (by omega) (by omega)) ?_
 rintro y _ _ ⟨K',rfl,rfl,hy,hb'⟩
 exact Gy (hk y K' hy hb') fun A hA=>List.mem_cons_of_mem _ hA
theorem BB {L0 K:ak} {x:aV} {xs:List Value} (s:ByteArray) {k:aV→T} (hL:L=K++L0) (hb:Buf ax 1 x xs K) (h0:0 < s.size) (hbound:x.2.1+s.size≤140737488355328)
  (hk:∀ y K',y.2.1=x.2.1+s.size→Buf ax 1 y (xs++bc s) K'→ay PG I t Rel Δ none st (k y) run (K'++L0) Γ) :
  ay PG I t Rel Δ md st (.op (cW #[aj,aK] aj #[.slice x.1 x.2.1 x.2.2,.string s]) ai k) run L Γ:=by
 refine cT (EX s hL hb h0 hbound) ?_
 rintro y _ _ ⟨K',rfl,rfl,hy,hb'⟩
 exact hk y K' hy hb'
end
end Go.Proofs.YtjlgcpgjdgeejaaGreatDoor
end

section
namespace Go.Proofs.YtjlgcpgjdgeejaaGreatDoor
open Go
set_option linter.unusedSimpArgs false
set_option linter.unusedVariables false
set_option linter.constructorNameAsVariable false
set_option maxRecDepth 100000
def Rw {α:Type} (n:Nat) (f:α→List Value) (x:aV) (l:List α):Fact where
 p F:=x.2.1=l.length∧(l=[]∨∃ a c T0 fr,x.1=some a∧a.spot=none∧F a.block=some (.cells c T0 fr)∧∀ i y,l[i]? = some y→∀ j,j < n→c[a.off+i * n+j]? = (f y)[j]?)
 mono F F' hl h:=⟨h.1,h.2.imp id fun ⟨a,c,T0,fr,h1,h2,h3,h4⟩=>⟨a,c,T0,fr,h1,h2,hl _ _ h3,h4⟩⟩
theorem Sl.rw {α:Type} {n:Nat} {f:α→List Value} (hf:∀ x,(f x).length=n) {x:aV} {l:List α} {F:Heap} (h:(Sl n f x l).p F):(Rw n f x l).p F:=by
 refine ⟨h.1,?_⟩
 cases l with
 | nil=>exact .inl rfl
 | cons y0 l0 =>
  right
  obtain ⟨a,cs,T0,h1,h2,h3,_⟩:=Sl.elem hf h (show (y0::l0)[0]? = some y0 from rfl)
  refine ⟨a,cs.toArray,T0,(0,0),h1,h2,h3,fun i y hy j hj=>?_⟩
  obtain ⟨a',cs',T1,g1,g2,g3,g4⟩:=Sl.elem hf h hy
  rw [h1] at g1; cases g1
  rw [h3] at g3
  have:cs=cs':=by
   have h5:=Option.some.inj g3
   have h6:cs=cs'∧T0=T1:=by simpa [ap] using h5
   exact h6.1
  subst this
  have e:((cs.drop (a.off+i * n)).take n)[j]? = (f y)[j]?:=by rw [g4]
  rw [List.getElem?_take,if_pos hj,List.getElem?_drop] at e
  rw [List.getElem?_toArray]
  exact e
theorem Rw.addr {α:Type} {n:Nat} {f:α→List Value} {x:aV} {l:List α} {F:Heap} (h:(Rw n f x l).p F) (hl:0 < l.length):∃ a,x.1=some a∧a.spot=none:=by
 rcases h.2 with h | ⟨a,_,_,_,h1,h2,_⟩
 ·subst h; exact absurd hl (by simp)
 ·exact ⟨a,h1,h2⟩
theorem Rw.cell {α:Type} {n:Nat} {f:α→List Value} {x:aV} {l:List α} {F:Heap} {a:Addr} {w:World} (h:(Rw n f x l).p F) (ha:x.1=some a) (hw:Stab F w) {i:Nat} {y:α} (hy:l[i]? = some y) {j:Nat} (hj:j < n) {b:Addr} (hb:b.block=(a.add (i * n)).block∧b.off=(a.add (i * n)).off+j∧b.spot=none):w.cell? b=(f y)[j]?:=by
 rcases h.2 with h | ⟨a',c,T0,fr,h1,h2,h3,h4⟩
 ·subst h; simp at hy
 ·rw [ha] at h1; cases h1
  obtain ⟨x1,x2,x3⟩:=dQ a h2 (i * n)
  simp only [World.cell?,hb.1,x1,hw _ _ h3,hb.2.1,x2,hb.2.2]
  exact h4 i y hy j hj
theorem Cy {α:Type} {n:Nat} {f:α→List Value} {Γ:List Fact} {x:aV} {l:List α} {a:Addr} (hm:Rw n f x l∈Γ) (ha:x.1=some a) {t:TypeId} (ht:p8 PG t=some n) {i:Int} (k:Nat) (hi:i=k) (hk:k < l.length) :
  PVal PG Γ (bQ t (.slice x.1 x.2.1 x.2.2) (.int .i64 i)) (.pointer (some (a.add (k * n)))):=fun F hF w hw=>by
 have hl:=(hF _ hm).1
 rw [ha,ir ht (by omega) (by omega)]
 rw [hi]; rfl
theorem Kg {α:Type} {n:Nat} {f:α→List Value} {Γ:List Fact} {x:aV} {l:List α} {a:Addr} (hm:Rw n f x l∈Γ) (ha:x.1=some a) {k:Nat} {y:α} (hy:l[k]? = some y) {T:TypeId} (hT:d5 PG T=some true) {j:Nat} (hj:j < n) {v:Value} (hv:(f y)[j]? = some v) {b:Addr} (hb:b.block=(a.add (k * n)).block∧b.off=(a.add (k * n)).off+j∧b.spot=none) :
  PVal PG Γ (am T (.pointer (some b))) v:=fun F hF w hw=>by
 refine DW hT ?_
 rw [Rw.cell (hF _ hm) ha hw hy hj hb,hv]
theorem Gg {α:Type} {n:Nat} {f:α→List Value} (hf:∀ x,(f x).length=n) {Γ:List Fact} {x:aV} {l:List α} {a:Addr} (hm:Rw n f x l∈Γ) (ha:x.1=some a) (hs:a.spot=none) {k:Nat} {y:α} (hy:l[k]? = some y) {T:TypeId} (hT:cK PG T=some (true,n)) :
  PVal PG Γ (am T (.pointer (some (a.add (k * n))))) (.agg (f y).toArray):=fun F hF w hw=>by
 have hc:(loadCells (a.add (k * n)) n).run PG w=.ok (f y).toArray w:=by
  have h1:=run_loadCells_list (P:=PG) w (a.add (k * n)) (f y) fun j u hj=>by
   have hlt:j < n:=by
    rcases Nat.lt_or_ge j n with h | h
    ·exact h
    ·rw [List.getElem?_eq_none (by rw [hf]; exact h)] at hj; cases hj
   obtain ⟨x1,x2,x3⟩:=dQ a hs (k * n)
   obtain ⟨y1,y2,y3⟩:=dQ (a.add (k * n)) x3 j
   rw [Rw.cell (hF _ hm) ha hw hy hlt ⟨y1,y2,y3⟩,hj]
  rw [hf] at h1
  exact h1
 simp [am,cG,Instr.loadAt,Instr.sureAddr,loadVar,(dG hT).1,(dG hT).2,hc]
theorem In {Γ:List Fact} {b:Nat} {T0 T:TypeId} {l:List Value} (hm:Fact.at b (ap T0 l)∈Γ) (hT:d5 PG T=some true) {o:Nat} {v:Value} (hv:l[o]? = some v):PVal PG Γ (am T (.pointer (some ⟨b,o,none⟩))) v:=fun F hF w hw =>
 lY hT (hw b _ (hF _ hm)) rfl hv
section
variable {ε σ β:Type} {I:aN ε σ} {t:Ty} {Rel:β→t.den→ak→Fact} {Δ:Labels ε σ β} {md:cS} {L Lq:ak} {Γ Γq:List Fact} {st:σ} {run:Option (Res ε σ β)}
theorem G5 {α:Type} {n:Nat} {f:α→List Value} {x:aV} {l:List α} {m:T} (hm:Rw n f x l∈Γ) (hk:0 < l.length) (h:∀ a,x.1=some a→a.spot=none→ay PG I t Rel Δ md st m run L Γ):ay PG I t Rel Δ md st m run L Γ :=
 fk (φ:=∃ a,x.1=some a∧a.spot=none) (fun F hF=>Rw.addr (hF _ hm) hk) fun ⟨a,h1,h2⟩=>h a h1 h2
theorem Ln {α:Type} {n:Nat} {f:α→List Value} {x:aV} {l:List α} (hm:Rw n f x l∈Γ) (hq:Rw n f x l∈Γq) {T1 T2:TypeId} (ht:p8 PG T1=some n) (hn:0 < n) (hT:d5 PG T2=some true) {i:Int} (j:Nat) (hi:i=j) {y:α} (hy:l[j]? = some y) {b1:B} (v:b1.den) (hv:(f y)[0]? = some (b1.enc v)) {k:b1.den→T}
  (hk:ay PG I t Rel Δ (some (Γq,Lq)) st (k v) run L Γ):ay PG I t Rel Δ (some (Γq,Lq)) st (.opq (bQ T1 (.slice x.1 x.2.1 x.2.2) (.int .i64 i)) tA fun r=>.opq (am T2 (.pointer (some r))) (.c (.b b1)) k) run L Γ:=by
 have hj:j < l.length:=(List.getElem?_eq_some_iff.1 hy).1
 refine G5 hm (by omega) fun a ha hs=>kQ (t1:=tA) (a.add (j * n)) (Cy hq ha ht j hi hj) (kQ (t1:=.c (.b b1)) v (Kg hq ha hy hT hn hv (zM hs _)) hk)
theorem LF {α:Type} {n:Nat} {f:α→List Value} (hf:∀ x,(f x).length=n) {x:aV} {l:List α} (hm:Rw n f x l∈Γ) {T1 T2:TypeId} (ht:p8 PG T1=some n) (hT:cK PG T2=some (true,n)) {i:Int} (j:Nat) (hi:i=j) {y:α} (hy:l[j]? = some y) {bs:List B} (v:HB bs) (hv:f y=HB.enc bs v) {k:HB bs→T}
  (hk:ay PG I t Rel Δ none st (k v) run L Γ):ay PG I t Rel Δ md st (.op (bQ T1 (.slice x.1 x.2.1 x.2.2) (.int .i64 i)) tA fun r=>.op (am T2 (.pointer (some r))) (.c (.agg bs)) k) run L Γ:=by
 have hj:j < l.length:=(List.getElem?_eq_some_iff.1 hy).1
 refine G5 hm (by omega) fun a ha hs=>dK (t1:=tA) (a.add (j * n)) (Cy hm ha ht j hi hj) (dK (t1:=.c (.agg bs)) v ?_ hk)
 have h:=Gg (n:=n) hf hm ha hs hy hT
 rw [hv] at h
 exact h
theorem EA {T1:TypeId} {v:Value} {z:List Value} {c:Bool} {k:Addr→T} (hz:oX PG T1=some z) (hs:cK PG T1=some (c,v.cells.toList.length)) (hl:v.cells.toList.length=z.length) (h1:∀ x∈v.cells.toList,x.oneCell'=true)
  (hk:∀ b,ay PG I t Rel Δ none st (k ⟨b,0,none⟩) run L (Fact.at b (ap T1 v.cells.toList)::Γ)):ay PG I t Rel Δ md st (.op (bD T1) tA fun r=>.op (a7 T1 (.pointer (some r)) v) tU fun _=>k r) run L Γ:=by
 refine cT (bT hz) ?_
 rintro _ _ _ ⟨b,rfl,rfl,rfl⟩
 refine cT (br (L1:=[]) (L2:=L) (l:=z) (T:=T1) (T0:=T1) (c:=c) rfl hs rfl (by show 0+_≤_; omega) h1) ?_
 rintro _ _ _ ⟨rfl,rfl⟩
 have e:bW z 0 v.cells.toList=v.cells.toList:=by unfold bW; rw [Nat.zero_add,hl]; simp
 show ay PG I t Rel Δ none st (k ⟨b,0,none⟩) run ((b,ap T1 (bW z 0 v.cells.toList))::L) _
 rw [e]
 exact qI (hk b)
theorem Kd {b:Nat} {T0 T1:TypeId} {l:List Value} {o:Nat} {b1:B} {k:b1.den→T} (v:b1.den) (hm:Fact.at b (ap T0 l)∈Γ) (hT:d5 PG T1=some true) (hv:l[o]? = some (b1.enc v)) (hk:ay PG I t Rel Δ none st (k v) run L Γ) :
  ay PG I t Rel Δ md st (.op (am T1 (.pointer (some ⟨b,o,none⟩))) (.c (.b b1)) k) run L Γ:=dK (t1:=.c (.b b1)) v (In hm hT hv) hk
theorem IC {b:Nat} {T0 T1:TypeId} {l:List Value} {o:Nat} {b1:B} {k:b1.den→T} (v:b1.den) (hm:Fact.at b (ap T0 l)∈Γq) (hT:d5 PG T1=some true) (hv:l[o]? = some (b1.enc v)) (hk:ay PG I t Rel Δ (some (Γq,Lq)) st (k v) run L Γ) :
  ay PG I t Rel Δ (some (Γq,Lq)) st (.opq (am T1 (.pointer (some ⟨b,o,none⟩))) (.c (.b b1)) k) run L Γ:=kQ (t1:=.c (.b b1)) v (In hm hT hv) hk
end
theorem Lc {es:List E} {ns:List FN} (h:es.map (·.f)=ns) {i:Nat} {f:FN} (hi:ns[i]? = some f):∃ e,es[i]? = some e∧e.f=f:=by
 rw [← h,List.getElem?_map,Option.map_eq_some_iff] at hi
 exact hi
end Go.Proofs.YtjlgcpgjdgeejaaGreatDoor
end

section
namespace Go.Proofs.YtjlgcpgjdgeejaaGreatDoor
open Go
set_option linter.unusedVariables false
set_option maxRecDepth 100000
noncomputable section
end
end Go.Proofs.YtjlgcpgjdgeejaaGreatDoor
end

section
namespace Go.Proofs.YtjlgcpgjdgeejaaGreatDoor
open Go
set_option linter.unusedVariables false
set_option maxRecDepth 100000
noncomputable section
end
end Go.Proofs.YtjlgcpgjdgeejaaGreatDoor
end

section
namespace Go.Proofs.YtjlgcpgjdgeejaaGreatDoor
open Go
set_option linter.unusedSimpArgs false
set_option linter.unusedVariables false
section
variable {ε β:Type} {P:Program} {I:aN ε Unit} {t:Ty} {Rel:β→t.den→ak→Fact} {Δ:Labels ε Unit β} {md:cS} {L:ak} {Γ:List Fact} {st:Unit} {run:Option (Res ε Unit β)}
theorem FL {l:Nat} {ts:List C} {vs:List Value} {body:HC ts→T} (N:Nat) (f:Nat→HC ts) (J:Nat→ak→Fact) (hv:vs=HC.enc ts (f 0)) (h0:∀ F,Holds Γ F→(J 0 L).p F)
  (hb:∀ (i:Nat) (L':ak) (Δ':Labels ε Unit β),i≤N→(∀ l',l'≠l→Δ' l'=Δ l') →
   (∀ {md:cS} {L2:ak} {Γ2:List Fact} {vs:List Value},i < N→vs=HC.enc ts (f (i+1))→(∀ F,Holds Γ2 F→(J (i+1) L2).p F)→ay P I t Rel Δ' md () (.out l vs) run L2 Γ2) →
   ay P I t Rel Δ' none () (body (f i)) run L' (J i L'::Γ)):ay P I t Rel Δ md st (.loop l ts vs body) run L Γ:=by
 refine sH (ts:=ts) (δ:=Nat) f (fun i L'=>(Fact.prop (i≤N)).both (J i L')) (fun n i _=>if n=N - i+1 then run else none) (N+1) 0 hv (by simp) (fun d st=>if_neg (by omega)) (fun F hF=>⟨Nat.zero_le _,h0 F hF⟩) fun n i L' st'=>?_
 refine jy (bX fun F0 hi=>?_)
 have hi':i≤N:=hi
 by_cases hg:n+1=N - i+1
 case neg=>exact cZ (if_neg hg)
 rw [if_pos hg]
 refine hb i L' _ hi' (fun l' hl=>?_) fun {md L2 Γ2 vs} hlt hvs hJ=>?_
 ·show Labels.set Δ l _ l'=_
  unfold Labels.set
  rw [if_neg hl]
 ·exact td (l:=l) (n:=n) (ts:=ts) (f:=f) (J:=fun i L'=>(Fact.prop (i≤N)).both (J i L')) (sp:=fun n i _=>if n=N - i+1 then run else none) (i+1) co hvs (by rw [if_pos (by omega)]) fun F hF=>⟨hlt,hJ F hF⟩
theorem IS {δ:Type} {l:Nat} {ts:List C} {vs:List Value} {body:HC ts→T} (N:Nat) (f:Nat→δ→HC ts) (J:Nat→δ→ak→Fact) (d0:δ) (hv:vs=HC.enc ts (f 0 d0)) (h0:∀ F,Holds Γ F→(J 0 d0 L).p F)
  (hb:∀ (i:Nat) (d:δ) (L':ak) (Δ':Labels ε Unit β),i≤N→(∀ l',l'≠l→Δ' l'=Δ l') →
   (∀ {md:cS} {L2:ak} {Γ2:List Fact} {vs:List Value} (d':δ),i < N→vs=HC.enc ts (f (i+1) d')→(∀ F,Holds Γ2 F→(J (i+1) d' L2).p F)→ay P I t Rel Δ' md () (.out l vs) run L2 Γ2) →
   ay P I t Rel Δ' none () (body (f i d)) run L' (J i d L'::Γ)):ay P I t Rel Δ md st (.loop l ts vs body) run L Γ:=by
 refine sH (ts:=ts) (δ:=Nat × δ) (fun x=>f x.1 x.2) (fun x L'=>(Fact.prop (x.1≤N)).both (J x.1 x.2 L')) (fun n x _=>if n=N - x.1+1 then run else none) (N+1) (0,d0) hv (by simp) (fun d st=>if_neg (by omega)) (fun F hF=>⟨Nat.zero_le _,h0 F hF⟩) fun n x L' st'=>?_
 obtain ⟨i,d⟩:=x
 refine jy (bX fun F0 hi=>?_)
 have hi':i≤N:=hi
 by_cases hg:n+1=N - i+1
 case neg=>exact cZ (if_neg hg)
 rw [if_pos hg]
 refine hb i d L' _ hi' (fun l' hl=>?_) fun {md L2 Γ2 vs} d' hlt hvs hJ=>?_
 ·show Labels.set Δ l _ l'=_
  unfold Labels.set
  rw [if_neg hl]
 ·exact td (l:=l) (n:=n) (ts:=ts) (f:=fun x:Nat × δ=>f x.1 x.2) (J:=fun x L'=>(Fact.prop (x.1≤N)).both (J x.1 x.2 L')) (sp:=fun n x _=>if n=N - x.1+1 then run else none) (i+1,d') co hvs (by rw [if_pos (by omega)]) fun F hF=>⟨hlt,hJ F hF⟩
end
end Go.Proofs.YtjlgcpgjdgeejaaGreatDoor
end

section
namespace Go.Proofs.YtjlgcpgjdgeejaaGreatDoor
open Go
set_option linter.unusedSimpArgs false
set_option linter.unusedVariables false
set_option linter.constructorNameAsVariable false
set_option maxRecDepth 100000
def EL (b:Nat) (x:aV):Fact:=Fact.at b (ap aB [.slice x.1 x.2.1 x.2.2])
section
variable {ε σ β:Type} {I:aN ε σ} {t:Ty} {Rel:β→t.den→ak→Fact} {Δ:Labels ε σ β} {md:cS} {L Lq:ak} {Γ Γq:List Fact} {st:σ} {run:Option (Res ε σ β)}
theorem sn {m:T} {A:Fact} (ha:∀ F,Holds Γ F→A.p F) (h:ay PG I t Rel Δ none st m run L (A::Γ)):ay PG I t Rel Δ md st m run L Γ:=gM (wC (A:=A) ha h)
theorem IB {x:aV} {b:Nat} {k:aV→T} (hb:EL b x∈Γ) (hk:ay PG I t Rel Δ none st (k x) run L Γ):ay PG I t Rel Δ md st (.op (am bf (.pointer (some ⟨b,0,none⟩))) ai k) run L Γ:=Kd (b1:=.slice) x hb (by kernel_rfl) rfl hk
theorem Kc {x:aV} {b:Nat} {k:aV→T} (hb:EL b x∈Γq) (hk:ay PG I t Rel Δ (some (Γq,Lq)) st (k x) run L Γ):ay PG I t Rel Δ (some (Γq,Lq)) st (.opq (am bf (.pointer (some ⟨b,0,none⟩))) ai k) run L Γ:=IC (b1:=.slice) x hb (by kernel_rfl) rfl hk
theorem Ks {α:Type} {n:Nat} {f:α→List Value} {x:aV} {l:List α} {m:T} (hr:Rw n f x l∈Γ) (h:x.2.1=l.length→ay PG I t Rel Δ md st m run L Γ):ay PG I t Rel Δ md st m run L Γ:=fk (fun F hF=>(hF _ hr).1) h
end
abbrev Lo:List B:=[.int .i64,.str,.int .i64,.slice,.int .i64]
def Ev (b:Nat) (e:E):Fact:=Fact.at b (ap ci (f9 e))
section
variable {ε σ β:Type} {I:aN ε σ} {t:Ty} {Rel:β→t.den→ak→Fact} {Δ:Labels ε σ β} {md:cS} {L Lq:ak} {Γ Γq:List Fact} {st:σ} {run:Option (Res ε σ β)}
theorem gK {b:Nat} {e:E} {o:Nat} {b1:B} {T2:TypeId} (v:b1.den) {k:b1.den→T} (hb:Ev b e∈Γ) (ht:d5 PG T2=some true) (hv:(f9 e)[o]? = some (b1.enc v)) (hk:ay PG I t Rel Δ none st (k v) run L Γ) :
  ay PG I t Rel Δ md st (.op (am T2 (.pointer (some ⟨b,o,none⟩))) (.c (.b b1)) k) run L Γ:=Kd v hb ht hv hk
theorem F9 {b:Nat} {e:E} {o:Nat} {b1:B} {T2:TypeId} (v:b1.den) {k:b1.den→T} (hb:Ev b e∈Γq) (ht:d5 PG T2=some true) (hv:(f9 e)[o]? = some (b1.enc v)) (hk:ay PG I t Rel Δ (some (Γq,Lq)) st (k v) run L Γ) :
  ay PG I t Rel Δ (some (Γq,Lq)) st (.opq (am T2 (.pointer (some ⟨b,o,none⟩))) (.c (.b b1)) k) run L Γ:=IC v hb ht hv hk
end
def cD (k:Int):Bool:=decide (k≥10)&&(decide (k≤34)&&k != 21)
def fc (k:Int):Bool:=decide (k≥80)&&(decide (k≤87)&&k != 85)
def stmtKs:List Int:=[40,41,42,47,49,51,52,53,54,55,56,57,58,59,60,61,63,64,65]
def d3 (k:Int):Bool:=stmtKs.any fun x=>k==x
def eE (a b:Int):Int:=IntKind.i64.wrap (BitVec.ofInt IntKind.i64.bits a &&&~~~ BitVec.ofInt IntKind.i64.bits b).toNat
inductive Pl where
 | of (ks:List Int) | rows (p:Pl) | or (a b:Pl) | any | expr | type | stmt | plain | spot | path | members | exported | isLet
section
variable {ε:Type} (sl:aV) (es:List E) (n:Nat) (e:E) (he:es[n]? = some e)
include he
end
end Go.Proofs.YtjlgcpgjdgeejaaGreatDoor
end

section
namespace Go.Proofs.YtjlgcpgjdgeejaaGreatDoor
open Go
set_option linter.unusedSimpArgs false
set_option linter.unusedVariables false
set_option linter.constructorNameAsVariable false
set_option maxRecDepth 100000
theorem Cl {b:Bool} (h:(!b)=true):b=false:=by cases b<;>simp_all
theorem xK {b:Bool} (h:(!b)=false):b=true:=by cases b<;>simp_all
def pP (f:FuncId) (cap:Array Value):Value:=.func (.func f) #[] cap
def PlaceP (F:Heap):Pl→Value→Prop
 | .of ks,v=>∃ b x,v=pP Di #[.pointer (some ⟨b,0,none⟩)]∧F b=some (ap eB [.slice x.1 x.2.1 x.2.2])∧(Rw 1 si x ks).p F∧ks.length≤1099511627776
 | .rows q,v=>∃ b u,v=pP zV #[.pointer (some ⟨b,0,none⟩)]∧F b=some (ap n9 [u])∧PlaceP F q u
 | .or p q,v=>∃ b c u u',v=pP Dn #[.pointer (some ⟨b,0,none⟩),.pointer (some ⟨c,0,none⟩)]∧F b=some (ap n9 [u])∧F c=some (ap n9 [u'])∧PlaceP F p u∧PlaceP F q u'
 | .any,v=>v=pP Fe #[]
 | .expr,v=>v=pP zY #[]
 | .type,v=>v=pP Aj #[]
 | .stmt,v=>v=pP AC #[]
 | .plain,v=>v=pP yP #[]
 | .spot,v=>v=pP A4 #[]
 | .path,v=>v=pP zW #[]
 | .members,v=>v=pP uf #[]
 | .exported,v=>v=pP tw #[]
 | .isLet,v=>v=pP Bs #[]
theorem PlaceP.mono {F F':Heap} (hl:F.le F'):∀ {p:Pl} {v:Value},PlaceP F p v→PlaceP F' p v
 | .of ks,v,⟨b,x,h1,h2,h3,h4⟩=>⟨b,x,h1,hl _ _ h2,(Rw 1 si x ks).mono F F' hl h3,h4⟩
 | .rows q,v,⟨b,u,h1,h2,h3⟩=>⟨b,u,h1,hl _ _ h2,h3.mono hl⟩
 | .or p q,v,⟨b,c,u,u',h1,h2,h3,h4,h5⟩=>⟨b,c,u,u',h1,hl _ _ h2,hl _ _ h3,h4.mono hl,h5.mono hl⟩
 | .any,_,h=>h
 | .expr,_,h=>h
 | .type,_,h=>h
 | .stmt,_,h=>h
 | .plain,_,h=>h
 | .spot,_,h=>h
 | .path,_,h=>h
 | .members,_,h=>h
 | .exported,_,h=>h
 | .isLet,_,h=>h
def Ky (v:Value) (p:Pl):Fact:=⟨fun F=>PlaceP F p v,fun F F' hl h=>h.mono hl⟩
section
variable {ε:Type} (sl:aV) (es:List E) (n:Nat) (e:E) (he:es[n]? = some e)
include he
end
end Go.Proofs.YtjlgcpgjdgeejaaGreatDoor
end

section
namespace Go.Proofs.YtjlgcpgjdgeejaaGreatDoor
open Go
set_option linter.unusedSimpArgs false
set_option linter.unusedVariables false
set_option linter.constructorNameAsVariable false
set_option maxRecDepth 100000
section
variable {ε:Type} (sl:aV) (es:List E) (n:Nat) (e:E) (he:es[n]? = some e)
include he
end
end Go.Proofs.YtjlgcpgjdgeejaaGreatDoor
end

section
namespace Go.Proofs.YtjlgcpgjdgeejaaGreatDoor
open Go
set_option linter.unusedSimpArgs false
set_option linter.unusedVariables false
set_option linter.constructorNameAsVariable false
set_option maxRecDepth 100000
section
variable {ε:Type} (sl:aV) (es:List E) (n:Nat) (e:E) (he:es[n]? = some e)
include he
end
end Go.Proofs.YtjlgcpgjdgeejaaGreatDoor
end

section
namespace Go.Proofs.YtjlgcpgjdgeejaaGreatDoor
open Go
set_option linter.unusedSimpArgs false
set_option linter.unusedVariables false
set_option linter.constructorNameAsVariable false
set_option maxRecDepth 100000
inductive PlAll (Γ:List Fact):List Value→List Pl→Prop
 | nil:PlAll Γ [] []
 | cons {v:Value} {p:Pl} {vs:List Value} {ps:List Pl} (h:Ky v p∈Γ) (t:PlAll Γ vs ps):PlAll Γ (v::vs) (p::ps)
theorem PlAll.row {Γ:List Fact} {vs:List Value} {ps:List Pl} (h:PlAll Γ vs ps) {F:Heap} (hF:Holds Γ F):vs.length=ps.length∧∀ (i:Nat) (v:Value) (p:Pl),vs[i]? = some v→ps[i]? = some p→PlaceP F p v:=by
 induction h with
 | nil=>exact ⟨rfl,fun i v p h=>by simp at h⟩
 | cons h _ ih =>
  refine ⟨by simp [ih.1],fun i v p h1 h2=>?_⟩
  cases i with
  | zero=>simp at h1 h2; subst h1; subst h2; exact hF _ h
  | succ i=>simp at h1 h2; exact ih.2 i v p h1 h2
section
variable {ε β:Type} {t:Ty} {Rel:β→t.den→ak→Fact} {Δ:Labels ε Unit β} {md:cS} {Γ:List Fact} {st:Unit} {run:Option (Res ε Unit β)}
theorem ov {l:Nat} {L:ak} {m:T} {k:HC [.b .bool]→T} (c:Bool) (hm:ay PG (I0:aN ε Unit) t Rel (Δ.set l (zi [.b .bool] (fun _:Unit=>(c,())) (fun _ L'=>Fact.prop (L'=L)) (fun _ _=>run))) md st m run L Γ) (hk:ay PG (I0:aN ε Unit) t Rel Δ none st (k (c,())) run L Γ) :
  ay PG (I0:aN ε Unit) t Rel Δ md st (.join l [.b .bool] m k) run L Γ:=by
 refine lm (δ:=Unit) (fun _=>(c,())) (fun _ L'=>Fact.prop (L'=L)) (fun _ _=>run) hm ?_
 rintro ⟨⟩ L' ⟨⟩
 refine bX fun F0 hx=>?_
 obtain rfl:L'=L:=hx
 exact hk
theorem j9 {l:Nat} {L:ak} {v c:Bool} (h:v=c):ay PG (I0:aN ε Unit) t Rel (Δ.set l (zi [.b .bool] (fun _:Unit=>(c,())) (fun _ L'=>Fact.prop (L'=L)) (fun _ _=>run))) md st (.out l [.bool v]) run L Γ :=
 mw () co (by subst h; rfl) rfl fun F hF=>rfl
end
section
variable {ε:Type} {Δ:Labels ε Unit (List Pl × Bool × Bool)} {md:cS} {Γ:List Fact} {st:Unit} {sv:List Pl × Bool × Bool}
end
section
variable {ε β:Type} {t:Ty} {Rel:β→t.den→ak→Fact} {Δ:Labels ε Unit β} {md:cS} {Γ:List Fact} {st:Unit} {L:ak}
theorem Km {run:Option (Res ε Unit β)} {l:Nat} {b c c':Bool} {y:T} (h:c=(b||c')) (hy:c=c'→ay PG (I0:aN ε Unit) t Rel (Δ.set l (zi [.b .bool] (fun _:Unit=>(c,())) (fun _ L'=>Fact.prop (L'=L)) (fun _ _=>run))) md st y run L Γ) :
  ay PG (I0:aN ε Unit) t Rel (Δ.set l (zi [.b .bool] (fun _:Unit=>(c,())) (fun _ L'=>Fact.prop (L'=L)) (fun _ _=>run))) md st (.ite b (.out l [.bool true]) y) run L Γ:=by
 refine aT (fun hb=>j9 ?_) (fun hb=>hy ?_)
 ·rw [h,hb]; rfl
 ·rw [h,hb]; rfl
end
end Go.Proofs.YtjlgcpgjdgeejaaGreatDoor
end

section
namespace Go.Proofs.YtjlgcpgjdgeejaaGreatDoor
open Go
set_option linter.unusedVariables false
set_option linter.constructorNameAsVariable false
set_option maxRecDepth 100000
def K4 (k:Int):List Pl × Bool × Bool :=
 bif ((k:Int)==47) then ([.of [48]],true,true)
 else bif (((k:Int)==48)||((k:Int)==57)) then ([.or (.expr) (.of [1])],false,true)
 else bif ((k:Int)==49) then ([.or (.stmt) (.of [50])],true,true)
 else bif ((k:Int)==50) then ([.exported],false,true)
 else bif ((k:Int)==51) then ([.rows (.of [67]),.rows (.of [80]),.of [84]],false,true)
 else bif ((k:Int)==52) then ([.rows (.of [67]),.type],false,true)
 else bif ((k:Int)==53) then ([.expr,.of [63],.or (.of [63,53]) (.of [1])],false,true)
 else bif (((k:Int)==54)||((k:Int)==56)) then ([.expr,.of [63]],false,true)
 else bif ((k:Int)==55) then ([.or (.isLet) (.of [1]),.or (.expr) (.of [1]),.or (.expr) (.of [1]),.of [63]],false,true)
 else bif ((k:Int)==61) then ([.of [63],.or (.of [62]) (.of [1]),.or (.of [63]) (.of [1])],false,true)
 else bif ((k:Int)==62) then ([.of [63]],false,true)
 else bif ((k:Int)==66) then ([.or (.type) (.of [1])],false,true)
 else bif (((k:Int)==83)||((k:Int)==85)) then ([.type],false,true)
 else bif ((k:Int)==84) then ([.of [85]],true,true)
 else bif ((k:Int)==86) then ([.rows (.plain),.type],false,true)
 else ([],false,false)
def sM (k:Int):List Pl × Bool × Bool :=
 bif (((k:Int)==1)||(((k:Int)==10)||(((k:Int)==11)||(((k:Int)==13)||(((k:Int)==14)||(((k:Int)==15)||(((k:Int)==16)||(((k:Int)==18)||(((k:Int)==17)||(((k:Int)==32)||(((k:Int)==58)||(((k:Int)==59)||(((k:Int)==65)||(((k:Int)==67)||(((k:Int)==81)||((k:Int)==82)))))))))))))))) then ([],false,true)
 else bif ((k:Int)==2) then ([.any],true,true)
 else bif (((k:Int)==3)||((k:Int)==63)) then ([.stmt],true,true)
 else bif ((k:Int)==19) then ([.expr],true,true)
 else bif ((k:Int)==20) then ([.of [21]],true,true)
 else bif (((k:Int)==21)||(((k:Int)==23)||(((k:Int)==29)||(((k:Int)==34)||(((k:Int)==60)||((k:Int)==64)))))) then ([.expr],false,true)
 else bif ((k:Int)==22) then ([.rows (.of [67]),.rows (.plain),.or (.of [63]) (.expr)],false,true)
 else bif (((k:Int)==24)||((k:Int)==30)) then ([.expr,.expr],false,true)
 else bif ((k:Int)==25) then ([.expr,.expr,.expr],false,true)
 else bif ((k:Int)==26) then ([.spot,.expr],false,true)
 else bif ((k:Int)==27) then ([.expr,.rows (.type),.rows (.expr)],false,true)
 else bif ((k:Int)==28) then ([.path,.rows (.type),.rows (.expr)],false,true)
 else bif ((k:Int)==31) then ([.rows (.expr)],false,true)
 else bif ((k:Int)==33) then ([.expr,.type],false,true)
 else bif ((k:Int)==40) then ([.or (.type) (.of [1]),.expr],false,true)
 else bif (((k:Int)==41)||((k:Int)==45)) then ([.rows (.of [67]),.rows (.plain),.or (.type) (.of [1]),.of [63]],false,true)
 else bif ((k:Int)==42) then ([.rows (.of [67]),.or (.of [43]) (.of [1]),.rows (.of [80]),.members],false,true)
 else bif (((k:Int)==43)||((k:Int)==80)) then ([.rows (.type)],false,true)
 else bif ((k:Int)==44) then ([.or (.type) (.of [1]),.or (.expr) (.of [1])],false,true)
 else bif ((k:Int)==46) then ([.rows (.of [66]),.of [63]],false,true)
 else K4 k
end Go.Proofs.YtjlgcpgjdgeejaaGreatDoor
end

section
namespace Go.Proofs.YtjlgcpgjdgeejaaGreatDoor
open Go
set_option linter.unusedVariables false
set_option maxRecDepth 100000
noncomputable section
def BV:An :=
 .s (.r [none,none]) (.s (.b (.s (.r [none,none,none]) (.c (.s (.r [none,none,none,none]) (.x)) (.s (.r [none,some cR,none,none]) (.c (.s (.r [none,some cR,none,none,none]) (.x)) (.s (.r [none,some cR,none,none]) (.c (.s (.r [none,some cR,none,none,none]) (.x)) (.s (.r [none,some cR,none,none]) (.c (.s (.r [none,some cR,none,none,none]) (.x)) (.x)))))))))) (.s (.r [none,none]) (.x)))
def pw (a0_c:Int):T :=
 .ite (decide ((a0_c:Int) < 128)) (
 .ret #[.v (.int .i64 1),.v (.int .i32 (IntKind.i32.wrap a0_c))]) (
 .op (cU .shr ax (.int .u8 a0_c) (.int .u64 5)) cR fun r1 =>
 .ite ((r1:Int)==6) (
 .op (cU .and ax (.int .u8 a0_c) (.int .u8 31)) cR fun r2 =>
 .ret #[.v (.int .i64 2),.v (.int .i32 (IntKind.i32.wrap r2))]) (
 .op (cU .shr ax (.int .u8 a0_c) (.int .u64 4)) cR fun r3 =>
 .ite ((r3:Int)==14) (
 .op (cU .and ax (.int .u8 a0_c) (.int .u8 15)) cR fun r4 =>
 .ret #[.v (.int .i64 3),.v (.int .i32 (IntKind.i32.wrap r4))]) (
 .op (cU .shr ax (.int .u8 a0_c) (.int .u64 3)) cR fun r5 =>
 .ite ((r5:Int)==30) (
 .op (cU .and ax (.int .u8 a0_c) (.int .u8 7)) cR fun r6 =>
 .ret #[.v (.int .i64 4),.v (.int .i32 (IntKind.i32.wrap r6))]) (
 .ret #[.v (.int .i64 0),.v (.int .i32 0)]))))
theorem Dg (a0_c:Int):cc Tryz.prog Tryz.f211 BV [.int .u8 a0_c]=pw a0_c:=by kernel_rfl
theorem C5 {ε σ β:Type} {I:aN ε σ} {t:Ty} {s:Sp ε σ β} {Rel:β→t.den→ak→Fact} {Γ:List Fact} (a0_c:Int) (h:Sim Tryz.prog I t Rel noLabel none (pw a0_c) s [] Γ):MeetsO Tryz.prog I (aa pJ #[.int .u8 a0_c]) t s Rel Γ :=
 aq (args:=[.int .u8 a0_c]) Tryz.func211 rfl rfl (Nat.le_of_ble_eq_true rfl) (by rw [Dg]; exact h)
def CJ:An :=
 .s (.r [none]) (.s (.s (.r [none]) (.b (.s (.r [none,none]) (.c (.s (.r [none]) (.x)) (.s (.r [none,none]) (.c (.s (.r [none,none,none]) (.x)) (.s (.r [none,none]) (.c (.s (.r [none,none,none,none,none,none,none,none,none,none,none]) (.x)) (.x))))))))) (.s (.r [none,none,none,none,none,none,none]) (.x)))
def pE (a0_r:Int) (a1_n:Int):T :=
 .ite ((a1_n:Int)==1) (
 .ret #[.v (.bool true)]) (
 .ite ((a1_n:Int)==2) (
 .ret #[.v (.bool (decide ((a0_r:Int)≥128)))]) (
 .ite ((a1_n:Int)==3) (
 .ite (decide ((a0_r:Int)≥2048)) (
 .ite (decide ((a0_r:Int) < 55296)) (
 .ret #[.v (.bool true)]) (
 .ret #[.v (.bool (decide ((a0_r:Int) > 57343)))])) (
 .ret #[.v (.bool false)])) (
 .ite (decide ((a0_r:Int)≥65536)) (
 .ret #[.v (.bool (decide ((a0_r:Int)≤1114111)))]) (
 .ret #[.v (.bool false)]))))
theorem C0 (a0_r:Int) (a1_n:Int):cc Tryz.prog Tryz.f212 CJ [.int .i32 a0_r,.int .i64 a1_n]=pE a0_r a1_n:=by kernel_rfl
theorem Df {ε σ β:Type} {I:aN ε σ} {t:Ty} {s:Sp ε σ β} {Rel:β→t.den→ak→Fact} {Γ:List Fact} (a0_r:Int) (a1_n:Int) (h:Sim Tryz.prog I t Rel noLabel none (pE a0_r a1_n) s [] Γ):MeetsO Tryz.prog I (aa pK #[.int .i32 a0_r,.int .i64 a1_n]) t s Rel Γ :=
 aq (args:=[.int .i32 a0_r,.int .i64 a1_n]) Tryz.func212 rfl rfl (Nat.le_of_ble_eq_true rfl) (by rw [C0]; exact h)
def yk:An :=
 .s (.r [none,none,none]) (.s (.s (.j [(18,.b .bool)] (.r [none,none,none,none,none,none,none,none])) (.c (.s (.r [none,none,none]) (.x)) (.x))) (.s (.r [none,none,some tA,some cR,some (.tup [.b (.int .i64),.b (.int .i32)]),none,none,none,none,none]) (.s (.s (.j [(36,.b .bool)] (.r [none,none,none,none,none,none,none,none,none,none])) (.c (.s (.r [none,none,none]) (.x)) (.x))) (.s (.s (.r [none,none,none,none,none,none,some ai,none,none]) (.j [(8,.b (.int .i32))] (.b (.l [(8,.b (.int .i32)),(45,.b (.int .i64))] (.s (.r [none]) (.s (.c (.x) (.x)) (.s (.b (.s (.r [some tA,some cR,none]) (.s (.s (.r [none,some cR,none]) (.c (.s (.r [none,none,none]) (.x)) (.x))) (.r [none,some xW,none,some cR,none,some xW,none])))) (.r [none,none])))))))) (.s (.s (.r [none,none,some tB,none]) (.c (.s (.r [none,none,none]) (.x)) (.x))) (.s (.r [none,none,none,none,none]) (.x)))))))
def m0 (a0_a0:Option Addr × Nat × Nat) (a1_a1:Int):T :=
 .join 0 [.b .bool] (
 .ite (decide ((a1_a1:Int) < 0)) (
 .out 0 [.bool true]) (
 .out 0 [.bool (decide ((a1_a1:Int)≥(a0_a0.2.1:Int)))])) fun x1 =>
 .ite x1.1 (
 .ret #[.v (.int .i32 0),.v (.int .i64 0),.v (.bool false)]) (
 .op (bQ aj (.slice a0_a0.1 a0_a0.2.1 a0_a0.2.2) (.int .i64 a1_a1)) tA fun r2 =>
 .op (am ax (.pointer (some r2))) cR fun r3 =>
 .op (aa pJ #[.int .u8 r3]) (.tup [.b (.int .i64),.b (.int .i32)]) fun r4 =>
 .join 0 [.b .bool] (
 .ite ((r4.1:Int)==0) (
 .out 0 [.bool true]) (
 .out 0 [.bool (decide ((r4.1:Int) > (IntKind.i64.wrap ((a0_a0.2.1:Int) - a1_a1))))])) fun x5 =>
 .ite x5.1 (
 .ret #[.v (.int .i32 65533),.v (.int .i64 1),.v (.bool false)]) (
 .op (fV aj (.slice a0_a0.1 a0_a0.2.1 a0_a0.2.2) (some (.int .i64 (IntKind.i64.wrap (a1_a1+1)))) (some (.int .i64 (IntKind.i64.wrap (a1_a1+r4.1)))) none) ai fun r6 =>
 .join 0 [.b (.int .i32)] (
 .loop 1 [.b (.int .i32),.b (.int .i64)] [.int .i32 r4.2.1,.int .i64 0] fun x7 =>
 .ite (decide ((x7.2.1:Int) < (r6.2.1:Int))) (
 .op (bQ aj (.slice r6.1 r6.2.1 r6.2.2) (.int .i64 x7.2.1)) tA fun r8 =>
 .op (am ax (.pointer (some r8))) cR fun r9 =>
 .op (cU .shr ax (.int .u8 r9) (.int .u64 6)) cR fun r10 =>
 .ite ((r10:Int) != 2) (
 .ret #[.v (.int .i32 65533),.v (.int .i64 1),.v (.bool false)]) (
 .op (cU .shl lk (.int .i32 x7.1) (.int .u64 6)) xW fun r11 =>
 .op (cU .and ax (.int .u8 r9) (.int .u8 63)) cR fun r12 =>
 .op (cU .or lk (.int .i32 r11) (.int .i32 (IntKind.i32.wrap r12))) xW fun r13 =>
 .out 1 [.int .i32 r13,.int .i64 (IntKind.i64.wrap (x7.2.1+1))])) (
 .out 0 [.int .i32 x7.1])) fun x14 =>
 .op (aa pK #[.int .i32 x14.1,.int .i64 r4.1]) tB fun r15 =>
 .ite (!r15) (
 .ret #[.v (.int .i32 65533),.v (.int .i64 1),.v (.bool false)]) (
 .ret #[.v (.int .i32 x14.1),.v (.int .i64 r4.1),.v (.bool true)])))
theorem Ap (a0_a0:Option Addr × Nat × Nat) (a1_a1:Int):cc Tryz.prog Tryz.f169 yk [.slice a0_a0.1 a0_a0.2.1 a0_a0.2.2,.int .i64 a1_a1]=m0 a0_a0 a1_a1:=by kernel_rfl
theorem AQ {ε σ β:Type} {I:aN ε σ} {t:Ty} {s:Sp ε σ β} {Rel:β→t.den→ak→Fact} {Γ:List Fact} (a0_a0:Option Addr × Nat × Nat) (a1_a1:Int) (h:Sim Tryz.prog I t Rel noLabel none (m0 a0_a0 a1_a1) s [] Γ):MeetsO Tryz.prog I (aa mR #[.slice a0_a0.1 a0_a0.2.1 a0_a0.2.2,.int .i64 a1_a1]) t s Rel Γ :=
 aq (args:=[.slice a0_a0.1 a0_a0.2.1 a0_a0.2.2,.int .i64 a1_a1]) Tryz.func169 rfl rfl (Nat.le_of_ble_eq_true rfl) (by rw [Ap]; exact h)
def ui:An :=
 .s (.r [none,none,none]) (.s (.s (.r [none,none,none,some ai,none,some tA,some cR,none]) (.c (.s (.r [none,none,none,some ai,none,some (.tup [.b (.int .i32),.b (.int .i64),.b .bool]),none,none,none,none,none,none,none]) (.s (.r [none,none,none,none,none,some tS,some ai,none,none,none]) (.x))) (.x))) (.s (.s (.r [none,none,none,none,none,some ai,none,none]) (.c (.s (.r [none,none,none,none,none]) (.x)) (.x))) (.s (.s (.r [none,none,none,some ai,none,none,some tA,some cR,none]) (.s (.r [none]) (.b (.s (.r [none,none]) (.c (.s (.r [none,none,none,some ai,some ai,none,none,none]) (.x)) (.s (.r [none,none]) (.c (.s (.r [none,none,none,some ai,some ai,none,none,none]) (.x)) (.s (.r [none,none]) (.c (.s (.r [none,none,none,some ai,some ai,none,none,none]) (.x)) (.s (.r [none,none]) (.c (.s (.r [none,none,none,some ai,some ai,none,none,none]) (.x)) (.s (.s (.r [none,none]) (.j [(85,.b .bool)] (.c (.x) (.s (.r [none,none]) (.c (.x) (.s (.r [none,none]) (.c (.x) (.s (.r [none,none]) (.c (.x) (.r [none,none])))))))))) (.c (.s (.r [none,none,none,none,some ai,some ai,none,none,none]) (.x)) (.s (.r [none,none]) (.c (.s (.r [none,none,none,some (.tup [.b (.int .i64),.b .slice,.b .bool]),none,none,none,none,none,none]) (.x)) (.x)))))))))))))))) (.s (.r [none,none,none,none,none]) (.x)))))
def k4 (a0_a0:Addr) (a1_a1:Int) (a2_a2:Option Addr × Nat × Nat):T :=
 .op (am aj (.pointer (some a0_a0))) ai fun r1 =>
 .op (bQ aj (.slice r1.1 r1.2.1 r1.2.2) (.int .i64 a1_a1)) tA fun r2 =>
 .op (am ax (.pointer (some r2))) cR fun r3 =>
 .ite ((r3:Int) != 92) (
 .op (am aj (.pointer (some a0_a0))) ai fun r4 =>
 .op (aa mR #[.slice r4.1 r4.2.1 r4.2.2,.int .i64 a1_a1]) (.tup [.b (.int .i32),.b (.int .i64),.b .bool]) fun r5 =>
 .op (ig lk aK (.int .i32 r5.1)) tS fun r6 =>
 .op (cW #[aj,aK] aj #[.slice a2_a2.1 a2_a2.2.1 a2_a2.2.2,.string r6]) ai fun r7 =>
 .ret #[.v (.int .i64 (IntKind.i64.wrap (a1_a1+r5.2.1))),.v (.slice r7.1 r7.2.1 r7.2.2),.v (.bool true)]) (
 .op (am aj (.pointer (some a0_a0))) ai fun r8 =>
 .ite (decide ((IntKind.i64.wrap (a1_a1+1):Int)≥(r8.2.1:Int))) (
 .ret #[.v (.int .i64 a1_a1),.v (.slice a2_a2.1 a2_a2.2.1 a2_a2.2.2),.v (.bool false)]) (
 .op (am aj (.pointer (some a0_a0))) ai fun r9 =>
 .op (bQ aj (.slice r9.1 r9.2.1 r9.2.2) (.int .i64 (IntKind.i64.wrap (a1_a1+1)))) tA fun r10 =>
 .op (am ax (.pointer (some r10))) cR fun r11 =>
 .ite ((r11:Int)==110) (
 .op (aG aj 1 #[(0,.int .u8 10)]) ai fun r12 =>
 .op (cW #[aj,aj] aj #[.slice a2_a2.1 a2_a2.2.1 a2_a2.2.2,.slice r12.1 r12.2.1 r12.2.2]) ai fun r13 =>
 .ret #[.v (.int .i64 (IntKind.i64.wrap (a1_a1+2))),.v (.slice r13.1 r13.2.1 r13.2.2),.v (.bool true)]) (
 .ite ((r11:Int)==114) (
 .op (aG aj 1 #[(0,.int .u8 13)]) ai fun r14 =>
 .op (cW #[aj,aj] aj #[.slice a2_a2.1 a2_a2.2.1 a2_a2.2.2,.slice r14.1 r14.2.1 r14.2.2]) ai fun r15 =>
 .ret #[.v (.int .i64 (IntKind.i64.wrap (a1_a1+2))),.v (.slice r15.1 r15.2.1 r15.2.2),.v (.bool true)]) (
 .ite ((r11:Int)==116) (
 .op (aG aj 1 #[(0,.int .u8 9)]) ai fun r16 =>
 .op (cW #[aj,aj] aj #[.slice a2_a2.1 a2_a2.2.1 a2_a2.2.2,.slice r16.1 r16.2.1 r16.2.2]) ai fun r17 =>
 .ret #[.v (.int .i64 (IntKind.i64.wrap (a1_a1+2))),.v (.slice r17.1 r17.2.1 r17.2.2),.v (.bool true)]) (
 .ite ((r11:Int)==48) (
 .op (aG aj 1 #[(0,.int .u8 0)]) ai fun r18 =>
 .op (cW #[aj,aj] aj #[.slice a2_a2.1 a2_a2.2.1 a2_a2.2.2,.slice r18.1 r18.2.1 r18.2.2]) ai fun r19 =>
 .ret #[.v (.int .i64 (IntKind.i64.wrap (a1_a1+2))),.v (.slice r19.1 r19.2.1 r19.2.2),.v (.bool true)]) (
 .join 0 [.b .bool] (
 .ite ((r11:Int)==92) (
 .out 0 [.bool true]) (
 .ite ((r11:Int)==34) (
 .out 0 [.bool true]) (
 .ite ((r11:Int)==39) (
 .out 0 [.bool true]) (
 .ite ((r11:Int)==36) (
 .out 0 [.bool true]) (
 .out 0 [.bool ((r11:Int)==96)]))))) fun x20 =>
 .ite x20.1 (
 .op (aG aj 1 #[(0,.int .u8 r11)]) ai fun r21 =>
 .op (cW #[aj,aj] aj #[.slice a2_a2.1 a2_a2.2.1 a2_a2.2.2,.slice r21.1 r21.2.1 r21.2.2]) ai fun r22 =>
 .ret #[.v (.int .i64 (IntKind.i64.wrap (a1_a1+2))),.v (.slice r22.1 r22.2.1 r22.2.2),.v (.bool true)]) (
 .ite ((r11:Int)==117) (
 .op (aa kr #[.pointer (some a0_a0),.int .i64 a1_a1,.slice a2_a2.1 a2_a2.2.1 a2_a2.2.2]) (.tup [.b (.int .i64),.b .slice,.b .bool]) fun r23 =>
 .ret #[.v (.int .i64 r23.1),.v (.slice r23.2.1.1 r23.2.1.2.1 r23.2.1.2.2),.v (.bool r23.2.2.1)]) (
 .ret #[.v (.int .i64 a1_a1),.v (.slice a2_a2.1 a2_a2.2.1 a2_a2.2.2),.v (.bool false)]))))))))
theorem wL (a0_a0:Addr) (a1_a1:Int) (a2_a2:Option Addr × Nat × Nat):cc Tryz.prog Tryz.f166 ui [.pointer (some a0_a0),.int .i64 a1_a1,.slice a2_a2.1 a2_a2.2.1 a2_a2.2.2]=k4 a0_a0 a1_a1 a2_a2:=by kernel_rfl
theorem ut {ε σ β:Type} {I:aN ε σ} {t:Ty} {s:Sp ε σ β} {Rel:β→t.den→ak→Fact} {Γ:List Fact} {K0:ak} (a0_a0:Addr) (a1_a1:Int) (a2_a2:Option Addr × Nat × Nat) (h:Sim Tryz.prog I t Rel noLabel none (k4 a0_a0 a1_a1 a2_a2) s K0 Γ):qb Tryz.prog I (aa ij #[.pointer (some a0_a0),.int .i64 a1_a1,.slice a2_a2.1 a2_a2.2.1 a2_a2.2.2]) t s Rel K0 Γ :=
 rk (args:=[.pointer (some a0_a0),.int .i64 a1_a1,.slice a2_a2.1 a2_a2.2.1 a2_a2.2.2]) Tryz.func166 rfl rfl (Nat.le_of_ble_eq_true rfl) (by rw [wL]; exact h)
def uN:An :=
 .s (.r [none,none,none]) (.s (.s (.r [none,none,none,some tB,none]) (.c (.s (.r [none,none,none,none,none]) (.x)) (.x))) (.s (.r [none,none,none,none]) (.s (.j [(9,.b (.int .i64)),(10,.b (.int .i64))] (.b (.l [(9,.b (.int .i64)),(10,.b (.int .i64))] (.s (.s (.j [(33,.b .bool)] (.r [none,none,none,none,some ai,none,none,none,none,none,none,none,none])) (.c (.x) (.x))) (.s (.b (.s (.r [none,none,none,some ai,none,some tA,some cR,some cR,some tI,none]) (.s (.s (.r [none,none,none,none,none,none,some ai,none,some tA,some cR,none,none]) (.c (.x) (.x))) (.r [none,some tI,none,some tI,none])))) (.r [none,none,none])))))) (.s (.s (.j [(82,.b .bool)] (.r [none,none,none,none,none,none,none,some tB,none,none,none,none,none,none,none,none,none,none,none,none,none,none])) (.c (.s (.r [none,none,none,none,none]) (.x)) (.x))) (.s (.r [none,none,none,none,none,some tS,some ai,none,none,none]) (.x))))))
def kY (a0_a0:Addr) (a1_a1:Int) (a2_a2:Option Addr × Nat × Nat):T :=
 .op (aa eF #[.pointer (some a0_a0),.int .i64 (IntKind.i64.wrap (a1_a1+2)),.string k_lc]) tB fun r1 =>
 .ite (!r1) (
 .ret #[.v (.int .i64 a1_a1),.v (.slice a2_a2.1 a2_a2.2.1 a2_a2.2.2),.v (.bool false)]) (
 .join 0 [.b (.int .i64),.b (.int .i64)] (
 .loop 1 [.b (.int .i64),.b (.int .i64)] [.int .i64 (IntKind.i64.wrap (a1_a1+3)),.int .i64 0] fun x2 =>
 .join 2 [.b .bool] (
 .op (am aj (.pointer (some a0_a0))) ai fun r3 =>
 .ite (decide ((x2.1:Int) < (r3.2.1:Int))) (
 .out 2 [.bool (decide ((x2.1:Int) < (IntKind.i64.wrap (a1_a1+9))))]) (
 .out 2 [.bool false])) fun x4 =>
 .ite x4.1 (
 .op (am aj (.pointer (some a0_a0))) ai fun r5 =>
 .op (bQ aj (.slice r5.1 r5.2.1 r5.2.2) (.int .i64 x2.1)) tA fun r6 =>
 .op (am ax (.pointer (some r6))) cR fun r7 =>
 .op (cU .or ax (.int .u8 r7) (.int .u8 32)) cR fun r8 =>
 .op (aa hO #[.string fZ,.int .u8 r8]) tI fun r9 =>
 .ite (decide ((r9:Int) < 0)) (
 .out 0 [.int .i64 x2.1,.int .i64 x2.2.1]) (
 .op (am aj (.pointer (some a0_a0))) ai fun r10 =>
 .op (bQ aj (.slice r10.1 r10.2.1 r10.2.2) (.int .i64 x2.1)) tA fun r11 =>
 .op (am ax (.pointer (some r11))) cR fun r12 =>
 .ite (decide ((r12:Int) < 48)) (
 .out 0 [.int .i64 x2.1,.int .i64 x2.2.1]) (
 .op (cU .shl ar (.int .i64 x2.2.1) (.int .u64 4)) tI fun r13 =>
 .op (cU .or ar (.int .i64 r13) (.int .i64 r9)) tI fun r14 =>
 .out 1 [.int .i64 (IntKind.i64.wrap (x2.1+1)),.int .i64 r14]))) (
 .out 0 [.int .i64 x2.1,.int .i64 x2.2.1])) fun x15 =>
 .join 0 [.b .bool] (
 .ite ((x15.1:Int)==(IntKind.i64.wrap (a1_a1+3))) (
 .out 0 [.bool true]) (
 .op (aa eF #[.pointer (some a0_a0),.int .i64 x15.1,.string k_rc]) tB fun r16 =>
 .ite (!r16) (
 .out 0 [.bool true]) (
 .ite (decide ((x15.2.1:Int) > 1114111)) (
 .out 0 [.bool true]) (
 .ite (decide ((x15.2.1:Int)≥55296)) (
 .out 0 [.bool (decide ((x15.2.1:Int)≤57343))]) (
 .out 0 [.bool false]))))) fun x17 =>
 .ite x17.1 (
 .ret #[.v (.int .i64 a1_a1),.v (.slice a2_a2.1 a2_a2.2.1 a2_a2.2.2),.v (.bool false)]) (
 .op (ig lk aK (.int .i32 (IntKind.i32.wrap x15.2.1))) tS fun r18 =>
 .op (cW #[aj,aK] aj #[.slice a2_a2.1 a2_a2.2.1 a2_a2.2.2,.string r18]) ai fun r19 =>
 .ret #[.v (.int .i64 (IntKind.i64.wrap (x15.1+1))),.v (.slice r19.1 r19.2.1 r19.2.2),.v (.bool true)]))
theorem wN (a0_a0:Addr) (a1_a1:Int) (a2_a2:Option Addr × Nat × Nat):cc Tryz.prog Tryz.f209 uN [.pointer (some a0_a0),.int .i64 a1_a1,.slice a2_a2.1 a2_a2.2.1 a2_a2.2.2]=kY a0_a0 a1_a1 a2_a2:=by kernel_rfl
theorem uo {ε σ β:Type} {I:aN ε σ} {t:Ty} {s:Sp ε σ β} {Rel:β→t.den→ak→Fact} {Γ:List Fact} {K0:ak} (a0_a0:Addr) (a1_a1:Int) (a2_a2:Option Addr × Nat × Nat) (h:Sim Tryz.prog I t Rel noLabel none (kY a0_a0 a1_a1 a2_a2) s K0 Γ):qb Tryz.prog I (aa kr #[.pointer (some a0_a0),.int .i64 a1_a1,.slice a2_a2.1 a2_a2.2.1 a2_a2.2.2]) t s Rel K0 Γ :=
 rk (args:=[.pointer (some a0_a0),.int .i64 a1_a1,.slice a2_a2.1 a2_a2.2.1 a2_a2.2.2]) Tryz.func209 rfl rfl (Nat.le_of_ble_eq_true rfl) (by rw [wN]; exact h)
def tt:An :=
 .s (.r [some tA]) (.b (.s (.r [none]) (.s (.r [none]) (.s (.r [none,none,none,some tI,none,none]) (.s (.x) (.s (.j [(5,.b .slice),(7,.b (.int .i64))] (.b (.l [(5,.b .slice),(7,.b (.int .i64))] (.s (.s (.r [none,none,none,none,some ai,none,none]) (.c (.x) (.x))) (.b (.s (.s (.r [none,none,none,some ai,none,some tA,some cR]) (.b (.s (.r [none,none,none]) (.c (.x) (.s (.s (.r [none,none]) (.j [(30,.b .bool)] (.c (.x) (.r [none,none])))) (.c (.s (.r [none,some tU]) (.x)) (.x))))))) (.s (.r [none,none,none,some (.tup [.b (.int .i64),.b .slice,.b .bool]),none,none,none,none,none,none,none]) (.s (.r [none,none]) (.c (.s (.r [none,some tU]) (.x)) (.x)))))))))) (.s (.s (.r [none,none,none,none,some ai,none,none]) (.c (.s (.r [none,some tU]) (.x)) (.x))) (.s (.d (.q 0 none (.q 1 (some tS) (.q 2 none (.q 3 none (.q 4 none (.q 5 (some tI) (.q 6 none (.q 7 none (.q 8 none (.l 9 (some tU) (.e)))))))))))) (.x)))))))))
def j3 (a0_s:Addr) (a1_end:Int):T :=
 .op (bD ad) tA fun r1 =>
 .op (am ar (.pointer (some ⟨a0_s.block,a0_s.off+1,none⟩))) tI fun r2 =>
 .join 0 [.b .slice,.b (.int .i64)] (
 .loop 1 [.b .slice,.b (.int .i64)] [.slice none 0 0,.int .i64 (IntKind.i64.wrap (r2+1))] fun x3 =>
 .op (am aj (.pointer (some a0_s))) ai fun r4 =>
 .ite (decide ((x3.2.1:Int) < (r4.2.1:Int))) (
 .op (am aj (.pointer (some a0_s))) ai fun r5 =>
 .op (bQ aj (.slice r5.1 r5.2.1 r5.2.2) (.int .i64 x3.2.1)) tA fun r6 =>
 .op (am ax (.pointer (some r6))) cR fun r7 =>
 .ite ((r7:Int)==a1_end) (
 .out 0 [.slice x3.1.1 x3.1.2.1 x3.1.2.2,.int .i64 x3.2.1]) (
 .join 2 [.b .bool] (
 .ite ((r7:Int)==10) (
 .out 2 [.bool true]) (
 .out 2 [.bool ((r7:Int)==13)])) fun x8 =>
 .ite x8.1 (
 .op (a7 ad (.pointer (some r1)) (.agg #[.int .i64 0,.string kE,.int .i64 0,.int .i64 0])) tU fun _ =>
 .ret #[.c (.pointer (some r1)) ad]) (
 .op (aa ij #[.pointer (some a0_s),.int .i64 x3.2.1,.slice x3.1.1 x3.1.2.1 x3.1.2.2]) (.tup [.b (.int .i64),.b .slice,.b .bool]) fun r10 =>
 .ite (!r10.2.2.1) (
 .op (a7 ad (.pointer (some r1)) (.agg #[.int .i64 0,.string kE,.int .i64 0,.int .i64 0])) tU fun _ =>
 .ret #[.c (.pointer (some r1)) ad]) (
 .out 1 [.slice r10.2.1.1 r10.2.1.2.1 r10.2.1.2.2,.int .i64 r10.1])))) (
 .out 0 [.slice x3.1.1 x3.1.2.1 x3.1.2.2,.int .i64 x3.2.1])) fun x12 =>
 .op (am aj (.pointer (some a0_s))) ai fun r13 =>
 .ite (decide ((x12.2.1:Int)≥(r13.2.1:Int))) (
 .op (a7 ad (.pointer (some r1)) (.agg #[.int .i64 0,.string kE,.int .i64 0,.int .i64 0])) tU fun _ =>
 .ret #[.c (.pointer (some r1)) ad]) (
 .draw <|
 .opq (ig aj aK (.slice x12.1.1 x12.1.2.1 x12.1.2.2)) tS fun r15 =>
 .opq (am ar (.pointer (some ⟨a0_s.block,a0_s.off+1,none⟩))) tI fun r16 =>
 .op (a7 ad (.pointer (some r1)) (.agg #[.int .i64 4,.string r15,.int .i64 r16,.int .i64 (IntKind.i64.wrap (x12.2.1+1))])) tU fun _ =>
 .ret #[.c (.pointer (some r1)) ad])
theorem uk (a0_s:Addr) (a1_end:Int):cc Tryz.prog Tryz.f111 tt [.pointer (some a0_s),.int .u8 a1_end]=j3 a0_s a1_end:=by kernel_rfl
theorem uj {ε σ β:Type} {I:aN ε σ} {t:Ty} {s:Sp ε σ β} {Rel:β→t.den→ak→Fact} {Γ:List Fact} (a0_s:Addr) (a1_end:Int) (h:Sim Tryz.prog I t Rel noLabel none (j3 a0_s a1_end) s [] Γ):MeetsO Tryz.prog I (aa jW #[.pointer (some a0_s),.int .u8 a1_end]) t s Rel Γ :=
 aq (args:=[.pointer (some a0_s),.int .u8 a1_end]) Tryz.func111 rfl rfl (Nat.le_of_ble_eq_true rfl) (by rw [uk]; exact h)
def uE:An :=
 .s (.r [some tA]) (.s (.r [none]) (.s (.r [none]) (.s (.s (.r [none,none,none,some tI,none,none]) (.j [] (.b (.l [(7,.b .slice),(9,.b (.int .i64))] (.s (.s (.r [none,none,none,none,some ai,none,none]) (.c (.x) (.x))) (.b (.s (.s (.r [none,none,none,some ai,none,some tA,some cR,none]) (.c (.s (.d (.q 0 none (.q 1 none (.q 2 (some tS) (.q 3 none (.q 4 none (.q 5 none (.q 6 (some tI) (.q 7 none (.q 8 none (.q 9 none (.l 10 (some tU) (.e))))))))))))) (.x)) (.x))) (.s (.s (.r [none,none,some tB]) (.c (.s (.d (.q 0 none (.q 1 none (.q 2 (some tS) (.q 3 none (.q 4 none (.q 5 none (.q 6 (some tI) (.q 7 none (.q 8 none (.q 9 none (.l 10 (some tU) (.e))))))))))))) (.x)) (.x))) (.s (.r [none,none,none,some (.tup [.b (.int .i64),.b .slice,.b .bool]),none,none,none,none,none,none,none]) (.s (.r [none,none]) (.c (.x) (.x)))))))))))) (.s (.r [none,some tU]) (.x)))))
def kK (a0_s:Addr) (a1_ends:Int) (a2_goes:Int):T :=
 .op (bD ad) tA fun r1 =>
 .op (am ar (.pointer (some ⟨a0_s.block,a0_s.off+1,none⟩))) tI fun r2 =>
 .join 0 [] (
 .loop 1 [.b .slice,.b (.int .i64)] [.slice none 0 0,.int .i64 (IntKind.i64.wrap (r2+1))] fun x3 =>
 .op (am aj (.pointer (some a0_s))) ai fun r4 =>
 .ite (decide ((x3.2.1:Int) < (r4.2.1:Int))) (
 .op (am aj (.pointer (some a0_s))) ai fun r5 =>
 .op (bQ aj (.slice r5.1 r5.2.1 r5.2.2) (.int .i64 x3.2.1)) tA fun r6 =>
 .op (am ax (.pointer (some r6))) cR fun r7 =>
 .ite ((r7:Int)==96) (
 .draw <|
 .opq (ig aj aK (.slice x3.1.1 x3.1.2.1 x3.1.2.2)) tS fun r8 =>
 .opq (am ar (.pointer (some ⟨a0_s.block,a0_s.off+1,none⟩))) tI fun r9 =>
 .op (a7 ad (.pointer (some r1)) (.agg #[.int .i64 a1_ends,.string r8,.int .i64 r9,.int .i64 (IntKind.i64.wrap (x3.2.1+1))])) tU fun _ =>
 .ret #[.c (.pointer (some r1)) ad]) (
 .op (aa eF #[.pointer (some a0_s),.int .i64 x3.2.1,.string k_dol_lc]) tB fun r11 =>
 .ite r11 (
 .draw <|
 .opq (ig aj aK (.slice x3.1.1 x3.1.2.1 x3.1.2.2)) tS fun r12 =>
 .opq (am ar (.pointer (some ⟨a0_s.block,a0_s.off+1,none⟩))) tI fun r13 =>
 .op (a7 ad (.pointer (some r1)) (.agg #[.int .i64 a2_goes,.string r12,.int .i64 r13,.int .i64 (IntKind.i64.wrap (x3.2.1+2))])) tU fun _ =>
 .ret #[.c (.pointer (some r1)) ad]) (
 .op (aa ij #[.pointer (some a0_s),.int .i64 x3.2.1,.slice x3.1.1 x3.1.2.1 x3.1.2.2]) (.tup [.b (.int .i64),.b .slice,.b .bool]) fun r15 =>
 .ite (!r15.2.2.1) (
 .out 0 []) (
 .out 1 [.slice r15.2.1.1 r15.2.1.2.1 r15.2.1.2.2,.int .i64 r15.1])))) (
 .out 0 [])) fun x16 =>
 .op (a7 ad (.pointer (some r1)) (.agg #[.int .i64 0,.string kE,.int .i64 0,.int .i64 0])) tU fun _ =>
 .ret #[.c (.pointer (some r1)) ad]
theorem vS (a0_s:Addr) (a1_ends:Int) (a2_goes:Int):cc Tryz.prog Tryz.f112 uE [.pointer (some a0_s),.int .i64 a1_ends,.int .i64 a2_goes]=kK a0_s a1_ends a2_goes:=by kernel_rfl
theorem wy {ε σ β:Type} {I:aN ε σ} {t:Ty} {s:Sp ε σ β} {Rel:β→t.den→ak→Fact} {Γ:List Fact} (a0_s:Addr) (a1_ends:Int) (a2_goes:Int) (h:Sim Tryz.prog I t Rel noLabel none (kK a0_s a1_ends a2_goes) s [] Γ):MeetsO Tryz.prog I (aa ic #[.pointer (some a0_s),.int .i64 a1_ends,.int .i64 a2_goes]) t s Rel Γ :=
 aq (args:=[.pointer (some a0_s),.int .i64 a1_ends,.int .i64 a2_goes]) Tryz.func112 rfl rfl (Nat.le_of_ble_eq_true rfl) (by rw [vS]; exact h)
def wq:An :=
 .s (.r [some tA,none]) (.s (.r [none,some tB,none]) (.s (.r [none,none,none,some tI,none,some tA,some tU]) (.s (.s (.r [none,none]) (.c (.s (.r [some (.c (.agg [.int .i64,.str,.int .i64,.int .i64])),some tU,none]) (.x)) (.x))) (.s (.s (.d (.q 0 none (.q 1 none (.q 2 none (.q 3 (some tI) (.q 4 none (.q 5 none (.q 6 none (.q 7 (some ai) (.q 8 none (.q 9 none (.e)))))))))))) (.c (.s (.d (.q 0 none (.q 1 none (.q 2 none (.q 3 (some tI) (.q 4 none (.q 5 none (.q 6 none (.q 7 (some tI) (.q 8 none (.l 9 (some tU) (.q 10 none (.e))))))))))))) (.x)) (.x))) (.s (.s (.d (.q 0 none (.q 1 none (.q 2 none (.q 3 (some ai) (.q 4 none (.q 5 none (.q 6 none (.q 7 (some tI) (.q 8 (some tA) (.q 9 (some cR) (.q 10 none (.e))))))))))))) (.b (.s (.r [none,some tB,none]) (.j [] (.c (.r [none,some (.c (.agg [.int .i64,.str,.int .i64,.int .i64])),some tU]) (.s (.r [none,some tB,none]) (.c (.r [none,some (.c (.agg [.int .i64,.str,.int .i64,.int .i64])),some tU]) (.s (.j [(58,.b .bool)] (.r [none,none,none,none,none,none,none])) (.c (.r [none,none,some (.c (.agg [.int .i64,.str,.int .i64,.int .i64])),some tU]) (.s (.r [none,none,none]) (.c (.s (.r [none,some (.c (.agg [.int .i64,.str,.int .i64,.int .i64])),some tU]) (.s (.r [none,some tI,none]) (.c (.r [none,none,none,none,some ai,some ai,some ai,none,none,some tU]) (.x)))) (.s (.j [(85,.b .bool)] (.d (.q 0 none (.q 1 none (.q 2 none (.q 3 none (.q 4 none (.q 5 none (.q 6 (some ai) (.q 7 none (.q 8 none (.q 9 none (.q 10 none (.q 11 none (.q 12 none (.q 13 none (.q 14 (some ai) (.q 15 none (.q 16 none (.q 17 none (.q 18 (some ai) (.q 19 none (.q 20 none (.q 21 (some tA) (.q 22 (some tB) (.q 23 none (.q 24 none (.e)))))))))))))))))))))))))))) (.c (.s (.r [none,some (.c (.agg [.int .i64,.str,.int .i64,.int .i64])),some tU]) (.s (.r [none,some tI,none]) (.c (.d (.q 0 none (.q 1 none (.q 2 none (.q 3 none (.q 4 (some ai) (.q 5 none (.q 6 none (.q 7 none (.q 8 (some ai) (.q 9 none (.q 10 none (.q 11 (some ai) (.q 12 none (.q 13 none (.l 14 (some tU) (.e))))))))))))))))) (.x)))) (.r [none,some (.c (.agg [.int .i64,.str,.int .i64,.int .i64])),some tU])))))))))))))) (.s (.s (.r [none,some tI,none]) (.c (.s (.r [none,none,none,some tI,none,some tU,none]) (.x)) (.x))) (.s (.r [none,none,some tI,none,none,some tU]) (.s (.r [some (.c (.agg [.int .i64,.str,.int .i64,.int .i64])),some tU,none]) (.x)))))))))
def lS (a0_a0:Addr):T :=
 .op (bD ad) tA fun r1 =>
 .op (aa j5 #[.pointer (some a0_a0)]) tB fun r2 =>
 .op (am ar (.pointer (some ⟨a0_a0.block,a0_a0.off+1,none⟩))) tI fun r3 =>
 .op (bD ad) tA fun r4 =>
 .op (a7 ad (.pointer (some r4)) (.agg #[.int .i64 0,.string kE,.int .i64 r3,.int .i64 0])) tU fun _ =>
 .ite (!r2) (
 .op (am ad (.pointer (some r4))) (.c (.agg [.int .i64,.str,.int .i64,.int .i64])) fun r6 =>
 .op (a7 ad (.pointer (some r1)) (.agg #[.int .i64 r6.1,.string r6.2.1,.int .i64 r6.2.2.1,.int .i64 r6.2.2.2.1])) tU fun _ =>
 .ret #[.c (.pointer (some r1)) ad,.v (.bool false)]) (
 .draw <|
 .opq (am ar (.pointer (some ⟨a0_a0.block,a0_a0.off+1,none⟩))) tI fun r8 =>
 .opq (am aj (.pointer (some a0_a0))) ai fun r9 =>
 .ite ((r8:Int)==(r9.2.1:Int)) (
 .draw <|
 .opq (am ar (.pointer (some ⟨a0_a0.block,a0_a0.off+1,none⟩))) tI fun r10 =>
 .opq (am ar (.pointer (some ⟨a0_a0.block,a0_a0.off+1,none⟩))) tI fun r11 =>
 .opl (a7 ad (.pointer (some r1)) (.agg #[.int .i64 10,.string kE,.int .i64 r10,.int .i64 r11])) tU fun _ =>
 .ret #[.c (.pointer (some r1)) ad,.v (.bool true)]) (
 .draw <|
 .opq (am aj (.pointer (some a0_a0))) ai fun r13 =>
 .opq (am ar (.pointer (some ⟨a0_a0.block,a0_a0.off+1,none⟩))) tI fun r14 =>
 .opq (bQ aj (.slice r13.1 r13.2.1 r13.2.2) (.int .i64 r14)) tA fun r15 =>
 .opq (am ax (.pointer (some r15))) cR fun r16 =>
 .op (aa gP #[.int .u8 r16]) tB fun r17 =>
 .join 0 [] (
 .ite r17 (
 .op (aa ly #[.pointer (some a0_a0)]) (.c (.agg [.int .i64,.str,.int .i64,.int .i64])) fun r18 =>
 .op (a7 ad (.pointer (some r4)) (.agg #[.int .i64 r18.1,.string r18.2.1,.int .i64 r18.2.2.1,.int .i64 r18.2.2.2.1])) tU fun _ =>
 .out 0 []) (
 .op (aa iC #[.int .u8 r16]) tB fun r20 =>
 .ite r20 (
 .op (aa j6 #[.pointer (some a0_a0)]) (.c (.agg [.int .i64,.str,.int .i64,.int .i64])) fun r21 =>
 .op (a7 ad (.pointer (some r4)) (.agg #[.int .i64 r21.1,.string r21.2.1,.int .i64 r21.2.2.1,.int .i64 r21.2.2.2.1])) tU fun _ =>
 .out 0 []) (
 .join 1 [.b .bool] (
 .ite ((r16:Int)==34) (
 .out 1 [.bool true]) (
 .out 1 [.bool ((r16:Int)==39)])) fun x23 =>
 .ite x23.1 (
 .op (aa jW #[.pointer (some a0_a0),.int .u8 r16]) (.c (.agg [.int .i64,.str,.int .i64,.int .i64])) fun r24 =>
 .op (a7 ad (.pointer (some r4)) (.agg #[.int .i64 r24.1,.string r24.2.1,.int .i64 r24.2.2.1,.int .i64 r24.2.2.2.1])) tU fun _ =>
 .out 0 []) (
 .ite ((r16:Int)==96) (
 .op (aa ic #[.pointer (some a0_a0),.int .i64 5,.int .i64 6]) (.c (.agg [.int .i64,.str,.int .i64,.int .i64])) fun r26 =>
 .op (a7 ad (.pointer (some r4)) (.agg #[.int .i64 r26.1,.string r26.2.1,.int .i64 r26.2.2.1,.int .i64 r26.2.2.2.1])) tU fun _ =>
 .op (am ar (.pointer (some r4))) tI fun r28 =>
 .ite ((r28:Int)==6) (
 .op (am bZ (.pointer (some ⟨a0_a0.block,a0_a0.off+2,none⟩))) ai fun r29 =>
 .op (aG bZ 1 #[(0,.bool true)]) ai fun r30 =>
 .op (cW #[bZ,bZ] bZ #[.slice r29.1 r29.2.1 r29.2.2,.slice r30.1 r30.2.1 r30.2.2]) ai fun r31 =>
 .op (a7 bZ (.pointer (some ⟨a0_a0.block,a0_a0.off+2,none⟩)) (.slice r31.1 r31.2.1 r31.2.2)) tU fun _ =>
 .out 0 []) (
 .out 0 [])) (
 .join 1 [.b .bool] (
 .draw <|
 .ite ((r16:Int)==125) (
 .opq (am bZ (.pointer (some ⟨a0_a0.block,a0_a0.off+2,none⟩))) ai fun r33 =>
 .ite (decide (((r33.2.1:Int):Int) > 0)) (
 .opq (am bZ (.pointer (some ⟨a0_a0.block,a0_a0.off+2,none⟩))) ai fun r34 =>
 .opq (am bZ (.pointer (some ⟨a0_a0.block,a0_a0.off+2,none⟩))) ai fun r35 =>
 .opq (bQ bZ (.slice r34.1 r34.2.1 r34.2.2) (.int .i64 (IntKind.i64.wrap ((r35.2.1:Int) - 1)))) tA fun r36 =>
 .opq (am bE (.pointer (some r36))) tB fun r37 =>
 .out 1 [.bool r37]) (
 .out 1 [.bool false])) (
 .out 1 [.bool false])) fun x38 =>
 .ite x38.1 (
 .op (aa ic #[.pointer (some a0_a0),.int .i64 8,.int .i64 7]) (.c (.agg [.int .i64,.str,.int .i64,.int .i64])) fun r39 =>
 .op (a7 ad (.pointer (some r4)) (.agg #[.int .i64 r39.1,.string r39.2.1,.int .i64 r39.2.2.1,.int .i64 r39.2.2.2.1])) tU fun _ =>
 .op (am ar (.pointer (some r4))) tI fun r41 =>
 .ite ((r41:Int)==8) (
 .draw <|
 .opq (am bZ (.pointer (some ⟨a0_a0.block,a0_a0.off+2,none⟩))) ai fun r42 =>
 .opq (am bZ (.pointer (some ⟨a0_a0.block,a0_a0.off+2,none⟩))) ai fun r43 =>
 .opq (fV bZ (.slice r42.1 r42.2.1 r42.2.2) none (some (.int .i64 (IntKind.i64.wrap ((r43.2.1:Int) - 1)))) none) ai fun r44 =>
 .op (a7 bZ (.pointer (some ⟨a0_a0.block,a0_a0.off+2,none⟩)) (.slice r44.1 r44.2.1 r44.2.2)) tU fun _ =>
 .out 0 []) (
 .out 0 [])) (
 .op (aa lQ #[.pointer (some a0_a0)]) (.c (.agg [.int .i64,.str,.int .i64,.int .i64])) fun r46 =>
 .op (a7 ad (.pointer (some r4)) (.agg #[.int .i64 r46.1,.string r46.2.1,.int .i64 r46.2.2.1,.int .i64 r46.2.2.2.1])) tU fun _ =>
 .out 0 [])))))) fun x48 =>
 .op (am ar (.pointer (some r4))) tI fun r49 =>
 .ite ((r49:Int)==0) (
 .op (am ar (.pointer (some ⟨a0_a0.block,a0_a0.off+1,none⟩))) tI fun r50 =>
 .op (a7 ad (.pointer (some r1)) (.agg #[.int .i64 0,.string kE,.int .i64 r50,.int .i64 0])) tU fun _ =>
 .ret #[.c (.pointer (some r1)) ad,.v (.bool false)]) (
 .op (am ar (.pointer (some ⟨r4.block,r4.off+3,none⟩))) tI fun r52 =>
 .op (a7 ar (.pointer (some ⟨a0_a0.block,a0_a0.off+1,none⟩)) (.int .i64 r52)) tU fun _ =>
 .op (am ad (.pointer (some r4))) (.c (.agg [.int .i64,.str,.int .i64,.int .i64])) fun r54 =>
 .op (a7 ad (.pointer (some r1)) (.agg #[.int .i64 r54.1,.string r54.2.1,.int .i64 r54.2.2.1,.int .i64 r54.2.2.2.1])) tU fun _ =>
 .ret #[.c (.pointer (some r1)) ad,.v (.bool true)])))
theorem yT (a0_a0:Addr):cc Tryz.prog Tryz.f72 wq [.pointer (some a0_a0)]=lS a0_a0:=by kernel_rfl
theorem xZ {ε σ β:Type} {I:aN ε σ} {t:Ty} {s:Sp ε σ β} {Rel:β→t.den→ak→Fact} {Γ:List Fact} (a0_a0:Addr) (h:Sim Tryz.prog I t Rel noLabel none (lS a0_a0) s [] Γ):MeetsO Tryz.prog I (aa lU #[.pointer (some a0_a0)]) t s Rel Γ :=
 aq (args:=[.pointer (some a0_a0)]) Tryz.func72 rfl rfl (Nat.le_of_ble_eq_true rfl) (by rw [yT]; exact h)
end
end Go.Proofs.YtjlgcpgjdgeejaaGreatDoor
end

section
namespace Go.Proofs.YtjlgcpgjdgeejaaGreatDoor
open Go
set_option linter.unusedVariables false
set_option maxRecDepth 100000
noncomputable section
end
end Go.Proofs.YtjlgcpgjdgeejaaGreatDoor
end

section
namespace Go.Proofs.YtjlgcpgjdgeejaaGreatDoor
open Go
set_option linter.unusedSimpArgs false
set_option linter.unusedVariables false
set_option linter.constructorNameAsVariable false
set_option maxRecDepth 100000
theorem J8 {ε:Type} (c:Nat) (hc:c < 256):Meets PG (I0:aN ε Unit) (aa pJ #[.int .u8 c]) (.tup [.b (.int .i64),.b (.int .i32)]) (Pure.pure (((ce c).1:Int),((ce c).2:Int),())) bm []:=by
 refine C5 c (c5 fun st=>?_)
 unfold pw
 refine aT (fun h=>?_) (fun h=>?_)
 ·have h':c < 128:=by have:=of_decide_eq_true h; omega
  refine eW (t:=.tup [.b (.int .i64),.b (.int .i32)]) _ (((ce c).1:Int),((ce c).2:Int),()) rfl (fun r w F H _ _=>?_) fun F hF=>rfl
  rw [mg (by omega)]; unfold ce; rw [if_pos h',kk]; rfl
 have h':¬ c < 128:=by have:=of_decide_eq_false h; omega
 refine dK (t1:=cR) ((c / 32:Nat):Int) (PVal.pure fun w=>by rw [sP _ _ (by decide),Kk hc]; rfl) ?_
 refine aT (fun h2=>?_) (fun h2=>?_)
 ·have h2':c / 32=6:=by
   have h:((c / 32:Nat):Int)=6:=eq_of_beq h2
   omega
  refine dK (t1:=cR) ((c % 32:Nat):Int) (PVal.pure fun w=>by rw [q8,Lg hc]; rfl) ?_
  refine eW (t:=.tup [.b (.int .i64),.b (.int .i32)]) _ (((ce c).1:Int),((ce c).2:Int),()) rfl (fun r w F H _ _=>?_) fun F hF=>rfl
  rw [mg (by omega)]; unfold ce; rw [if_neg h',if_pos h2',kk]; rfl
 have h2':¬ c / 32=6:=by
  intro h0
  rw [h0] at h2
  cases h2
 refine dK (t1:=cR) ((c / 16:Nat):Int) (PVal.pure fun w=>by rw [sP _ _ (by decide),JL hc]; rfl) ?_
 refine aT (fun h3=>?_) (fun h3=>?_)
 ·have h3':c / 16=14:=by
   have h:((c / 16:Nat):Int)=14:=eq_of_beq h3
   omega
  refine dK (t1:=cR) ((c % 16:Nat):Int) (PVal.pure fun w=>by rw [q8,La hc]; rfl) ?_
  refine eW (t:=.tup [.b (.int .i64),.b (.int .i32)]) _ (((ce c).1:Int),((ce c).2:Int),()) rfl (fun r w F H _ _=>?_) fun F hF=>rfl
  rw [mg (by omega)]; unfold ce; rw [if_neg h',if_neg h2',if_pos h3',kk]; rfl
 have h3':¬ c / 16=14:=by
  intro h0
  rw [h0] at h3
  cases h3
 refine dK (t1:=cR) ((c / 8:Nat):Int) (PVal.pure fun w=>by rw [sP _ _ (by decide),KG hc]; rfl) ?_
 refine aT (fun h4=>?_) (fun h4=>?_)
 ·have h4':c / 8=30:=by
   have h:((c / 8:Nat):Int)=30:=eq_of_beq h4
   omega
  refine dK (t1:=cR) ((c % 8:Nat):Int) (PVal.pure fun w=>by rw [q8,LW hc]; rfl) ?_
  refine eW (t:=.tup [.b (.int .i64),.b (.int .i32)]) _ (((ce c).1:Int),((ce c).2:Int),()) rfl (fun r w F H _ _=>?_) fun F hF=>rfl
  rw [mg (by omega)]; unfold ce; rw [if_neg h',if_neg h2',if_neg h3',if_pos h4',kk]; rfl
 have h4':¬ c / 8=30:=by
  intro h0
  rw [h0] at h4
  cases h4
 refine eW (t:=.tup [.b (.int .i64),.b (.int .i32)]) _ (((ce c).1:Int),((ce c).2:Int),()) rfl (fun r w F H _ _=>?_) fun F hF=>rfl
 unfold ce; rw [if_neg h',if_neg h2',if_neg h3',if_neg h4',kk]; rfl
theorem Jg {ε:Type} (r n:Int):Meets PG (I0:aN ε Unit) (aa pK #[.int .i32 r,.int .i64 n]) tB (Pure.pure (ib r n)) bm []:=by
 refine Df r n (c5 fun st=>?_)
 unfold pE
 repeat' (first | refine aT (fun h=>?_) (fun h=>?_) | refine f8 (t:=tB) _ rfl ?_)
 all_goals (show _=_; simp_all [ib,Pure.pure,Sp.pure]<;>omega)
end Go.Proofs.YtjlgcpgjdgeejaaGreatDoor
end

section
namespace Go.Proofs.YtjlgcpgjdgeejaaGreatDoor
open Go
set_option linter.unusedSimpArgs false
set_option linter.unusedVariables false
set_option linter.constructorNameAsVariable false
set_option maxRecDepth 100000
abbrev Cr:Ty:=.tup [.b (.int .i32),.b (.int .i64),.b .bool]
theorem xc {b:ByteArray} {i j k:Nat} (hj:j≤b.size) (hk:i+k < j):∃ h1:k < (b.extract i j).size,∃ h2:i+k < b.size,(b.extract i j)[k]=b[i+k]:=by
 refine ⟨by rw [ByteArray.size_extract]; omega,by omega,?_⟩
 rw [ByteArray.getElem_extract]
theorem ByF.sub {sl:aV} {b:ByteArray} {F:Heap} (h:(ByF sl b).p F) {i j:Nat} (hij:i≤j) (hj:j≤b.size):(ByF (gE sl i j) (b.extract i j)).p F:=by
 obtain ⟨h1,h2,h3⟩:=h
 have hsz:(b.extract i j).size=j - i:=by rw [ByteArray.size_extract]; omega
 refine ⟨hsz.symm,by show j - i≤sl.2.2 - i; omega,?_⟩
 by_cases hz:j - i=0
 ·exact .inl (by omega)
 ·rcases h3 with h3 | ⟨a,c,T0,fr,g1,g2,g3,g4⟩
  ·omega
  ·obtain ⟨x1,x2,x3⟩:=dQ a g2 (i * 1)
   refine .inr ⟨a.add (i * 1),c,T0,fr,?_,x3,by rw [x1]; exact g3,fun k hk=>?_⟩
   ·show (if sl.2.2=i then sl.1 else sl.1.map (·.add (i * 1)))=_
    rw [if_neg (by omega),g1]; rfl
   ·obtain ⟨_,q2,q3⟩:=xc (b:=b) (i:=i) (j:=j) (k:=k) hj (by omega)
    rw [q3,x2,Nat.mul_one,Nat.add_assoc]
    exact g4 (i+k) q2
theorem Ki {b:ByteArray} {i j k:Nat} (hj:j≤b.size) (hk:i+k < j):bN (b.extract i j) k=bN b (i+k):=by
 obtain ⟨q1,q2,q3⟩:=xc (b:=b) hj hk
 unfold bN
 rw [gj _ _ q1,gj _ _ q2,q3]
theorem GX {ε:Type} (sl:aV) (b:ByteArray) (hb:b.size≤1099511627776) (i:Nat) (hi:i≤1099511627776):Meets PG (I0:aN ε Unit) (aa mR #[.slice sl.1 sl.2.1 sl.2.2,.int .i64 i]) Cr (Pure.pure (cq b i)) bm [ByF sl b]:=by
 refine AQ sl i (c5 fun st=>?_)
 obtain rfl:st=():=rfl
 unfold m0
 refine fX (b:=b) (by repeat (first | exact mz | apply ms)) fun hl=>?_
 refine ov (decide (b.size≤i)) (aT (fun h=>by have:=of_decide_eq_true h; omega) fun h=>j9 (by
  rw [hl]; exact decide_eq_decide.2 (by omega))) ?_
 refine aT (fun h=>?_) (fun h=>?_)
 ·have h':b.size≤i:=of_decide_eq_true h
  refine eW (t:=Cr) (cq b i) (0,0,false,()) rfl (fun r w F H _ _=>by rw [pq]; rfl) fun F hF=>?_
  show (0,0,false,())=cq b i
  unfold cq; rw [if_pos h']
 have h':¬ b.size≤i:=of_decide_eq_false h
 refine f7 (b:=b) i (by repeat (first | exact mz | apply ms)) rfl (by omega) ?_
 rw [vd]
 refine fy (J8 (bN b i) (q7 b i)) (fun A hA=>nomatch hA) ?_
 have hn4:=Cm (q7 b i)
 have hr0:=KH (q7 b i)
 have hd:cq b i=if (ce (bN b i)).1=0∨b.size - i < (ce (bN b i)).1 then badV
   else match e7 b ((ce (bN b i)).1 - 1) (i+1) (ce (bN b i)).2 with
    | none=>badV
    | some r=>if ib r (ce (bN b i)).1 then ((r:Int),((ce (bN b i)).1:Int),true,()) else badV:=by
  exact if_neg h'
 revert hn4 hr0 hd
 generalize ce (bN b i)=w
 obtain ⟨n,r0⟩:=w
 simp only
 intro hn4 hr0 hd
 have rbad:∀ {Δ:Labels ε Unit (HC [.b (.int .i32),.b (.int .i64),.b .bool])} {md:cS} {Γ:List Fact},cq b i=badV→ay PG (I0:aN ε Unit) Cr (pl bm) Δ md () (.ret #[.v (.int .i32 65533),.v (.int .i64 1),.v (.bool false)]) ((Pure.pure (cq b i):Sp ε Unit _) ()) [] Γ:=fun hbad=>by
  rw [hbad]
  exact eW (t:=Cr) badV badV rfl (fun r w F H _ _=>by rw [pq]; rfl) fun F hF=>rfl
 refine ov (decide (n=0∨b.size - i < n)) (aT (fun h2=>j9 (by
   have h2':(n:Int)=0:=eq_of_beq h2
   rw [decide_eq_true (Or.inl (by omega))])) fun h2=>j9 (by
   have h2':¬ (n:Int)=0:=fun h0=>by rw [h0] at h2; cases h2
   rw [hl,bg (by omega) (by omega)]
   exact decide_eq_decide.2 ⟨fun h3=>Or.inr (by have h3:(n:Int) > (b.size:Int) - (i:Int):=h3; omega),fun h3=>by show (n:Int) > (b.size:Int) - (i:Int); omega⟩)) ?_
 refine aT (fun h2=>?_) (fun h2=>?_)
 ·have h2':n=0∨b.size - i < n:=of_decide_eq_true h2
  exact rbad (by rw [hd,if_pos h2'])
 have h2':¬ (n=0∨b.size - i < n):=of_decide_eq_false h2
 rw [if_neg h2'] at hd
 refine dK (t1:=ai) (gE sl (i+1) (i+n)) (Cw (b:=b) (by repeat (first | exact mz | apply ms)) (i+1) (i+n) (by rw [bg (by omega) (by omega)]; rfl) (by show IntKind.i64.wrap ((i:Int)+(n:Int))=_; rw [bg (by omega) (by omega)]; rfl) (by omega) (by omega)) ?_
 refine sn (A:=ByF (gE sl (i+1) (i+n)) (b.extract (i+1) (i+n))) (fun F hF=>ByF.sub (hF (ByF sl b) (by repeat (first | exact mz | apply ms))) (by omega) (by omega)) ?_
 have hes:(b.extract (i+1) (i+n)).size=n - 1:=by rw [ByteArray.size_extract]; omega
 refine lm (δ:=Nat) (ts:=[.b (.int .i32)]) (fun d=>((d:Int),())) (fun d L'=>Fact.prop (L'=[]∧e7 b (n - 1) (i+1) r0=some d∧d < 2147483648)) (fun _ _=>(Pure.pure (cq b i):Sp ε Unit _) ()) ?_ ?_
 ·refine IS (δ:=Nat) (ts:=[.b (.int .i32),.b (.int .i64)]) (n - 1) (fun j d=>((d:Int),(j:Int),())) (fun j d L'=>Fact.prop (L'=[]∧e7 b (n - 1 - j) (i+1+j) d=e7 b (n - 1) (i+1) r0∧d < 128 * 64 ^ j)) r0 rfl (fun F hF=>⟨rfl,rfl,by omega⟩) fun j d L' Δ' hj hΔ out=>?_
  refine bX fun F0 hx=>?_
  obtain ⟨rfl,hc,hdb⟩:=hx
  have hpow:128 * 64 ^ j≤33554432:=by
   have:j≤3:=by omega
   have:64 ^ j≤64 ^ 3:=Nat.pow_le_pow_right (by decide) this
   omega
  refine aT (fun h3=>?_) (fun h3=>?_)
  ·have h3':j < n - 1:=by
    have h3:(j:Int) < ((i+n - (i+1):Nat):Int):=of_decide_eq_true h3
    omega
   refine f7 (b:=b.extract (i+1) (i+n)) j (by repeat (first | exact mz | apply ms)) rfl (by omega) ?_
   rw [vd,Ki (by omega) (by omega)]
   have hlt:=q7 b (i+1+j)
   obtain ⟨f,hf⟩:∃ f,n - 1 - j=f+1:=⟨n - 1 - j - 1,by omega⟩
   rw [hf] at hc
   have hc2:e7 b (f+1) (i+1+j) d=if bN b (i+1+j) / 64=2 then e7 b f (i+1+j+1) (d * 64+bN b (i+1+j) % 64) else none:=rfl
   rw [hc2] at hc
   revert hlt hc
   generalize bN b (i+1+j)=c
   intro hlt hc
   refine dK (t1:=cR) ((c / 64:Nat):Int) (PVal.pure fun w=>by rw [sP _ _ (by decide),KB hlt]; rfl) ?_
   refine aT (fun h4=>?_) (fun h4=>?_)
   ·have h4':¬ c / 64=2:=fun h0=>by rw [h0] at h4; cases h4
    rw [if_neg h4'] at hc
    exact rbad (by rw [hd,← hc])
   ·have h4':c / 64=2:=by
     have:(!(((c / 64:Nat):Int)==2))=false:=h4
     have:=eq_of_beq (xK this)
     omega
    rw [if_pos h4'] at hc
    refine dK (t1:=xW) ((d * 64:Nat):Int) (PVal.pure fun w=>by
     rw [Ec _ _ (by decide)]
     have:(d:Int) * 2 ^ min (6:Int).toNat IntKind.i32.bits=((d * 64:Nat):Int):=by
      show (d:Int) * 64=_
      omega
     show Result.ok (Next.value (Value.int .i32 (IntKind.i32.wrap ((d:Int) * 2 ^ min (6:Int).toNat IntKind.i32.bits)))) w=_
     rw [this,mg (by omega)]; rfl) ?_
    refine dK (t1:=cR) ((c % 64:Nat):Int) (PVal.pure fun w=>by rw [q8,Lb hlt]; rfl) ?_
    refine dK (t1:=xW) ((d * 64+c % 64:Nat):Int) (PVal.pure fun w=>by rw [mg (by omega),xX,L5 (by omega)]; rfl) ?_
    refine out (d * 64+c % 64) h3' ?_ fun F hF=>⟨rfl,?_,?_⟩
    ·show [Value.int .i32 ((d * 64+c % 64:Nat):Int),Value.int .i64 (IntKind.i64.wrap ((j:Int)+1))]=[Value.int .i32 ((d * 64+c % 64:Nat):Int),Value.int .i64 ((j+1:Nat):Int)]
     rw [bg (by omega) (by omega)]; rfl
    ·rw [show n - 1 - (j+1)=f by omega,← hc,Nat.add_assoc (i+1) j 1]
    ·rw [Nat.pow_succ]; omega
  ·have h3':¬ j < n - 1:=by
    have h3:¬ (j:Int) < ((i+n - (i+1):Nat):Int):=of_decide_eq_false h3
    omega
   rw [show n - 1 - j=0 by omega] at hc
   exact mw d ((hΔ 0 (by decide)).trans co) rfl rfl fun F hF=>⟨rfl,hc.symm,by omega⟩
 ·rintro d L' ⟨⟩
  refine bX fun F0 hx=>?_
  obtain ⟨rfl,hc,hdb⟩:=hx
  rw [hc] at hd
  refine fy (Jg (d:Int) (n:Int)) (fun A hA=>nomatch hA) ?_
  refine aT (fun h3=>?_) (fun h3=>?_)
  ·have h3':ib d n=false:=Cl h3
   exact rbad (by rw [hd]; simp only [h3']; rfl)
  ·have h3':ib d n=true:=xK h3
   have hd':cq b i=((d:Int),(n:Int),true,()):=by rw [hd]; simp only [h3']; rfl
   rw [hd']
   exact eW (t:=Cr) ((d:Int),(n:Int),true,()) ((d:Int),(n:Int),true,()) rfl (fun r w F H _ _=>by rw [pq]; rfl) fun F hF=>rfl
end Go.Proofs.YtjlgcpgjdgeejaaGreatDoor
end

section
namespace Go.Proofs.YtjlgcpgjdgeejaaGreatDoor
open Go
set_option linter.unusedSimpArgs false
set_option linter.unusedVariables false
set_option linter.constructorNameAsVariable false
set_option maxRecDepth 100000
theorem qJ (r:Int):1≤(Utf8.encode r).size∧(Utf8.encode r).size≤4:=by
 have h:∀ c:Nat,1≤(if c < 0x80 then (⟨#[UInt8.ofNat c]⟩:ByteArray) else if c < 0x800 then ⟨#[UInt8.ofNat (0xC0+c / 64),UInt8.ofNat (0x80+c % 64)]⟩ else if c < 0x10000 then ⟨#[UInt8.ofNat (0xE0+c / 4096),UInt8.ofNat (0x80+c / 64 % 64),UInt8.ofNat (0x80+c % 64)]⟩
   else ⟨#[UInt8.ofNat (0xF0+c / 262144),UInt8.ofNat (0x80+c / 4096 % 64),UInt8.ofNat (0x80+c / 64 % 64),UInt8.ofNat (0x80+c % 64)]⟩).size ∧
   (if c < 0x80 then (⟨#[UInt8.ofNat c]⟩:ByteArray) else if c < 0x800 then ⟨#[UInt8.ofNat (0xC0+c / 64),UInt8.ofNat (0x80+c % 64)]⟩ else if c < 0x10000 then ⟨#[UInt8.ofNat (0xE0+c / 4096),UInt8.ofNat (0x80+c / 64 % 64),UInt8.ofNat (0x80+c % 64)]⟩
   else ⟨#[UInt8.ofNat (0xF0+c / 262144),UInt8.ofNat (0x80+c / 4096 % 64),UInt8.ofNat (0x80+c / 64 % 64),UInt8.ofNat (0x80+c % 64)]⟩).size≤4:=fun c=>by
  split
  ·exact ⟨Nat.le_of_ble_eq_true rfl,Nat.le_of_ble_eq_true rfl⟩
  split
  ·exact ⟨Nat.le_of_ble_eq_true rfl,Nat.le_of_ble_eq_true rfl⟩
  split
  ·exact ⟨Nat.le_of_ble_eq_true rfl,Nat.le_of_ble_eq_true rfl⟩
  ·exact ⟨Nat.le_of_ble_eq_true rfl,Nat.le_of_ble_eq_true rfl⟩
 exact h _
theorem Iy {b:ByteArray} {i:Nat} (h:i < b.size):∃ n:Nat,(cq b i).2.1=(n:Int)∧1≤n∧n≤4∧i+n≤b.size:=by
 have hn4:=Cm (q7 b i)
 have hd:cq b i=if (ce (bN b i)).1=0∨b.size - i < (ce (bN b i)).1 then badV
   else match e7 b ((ce (bN b i)).1 - 1) (i+1) (ce (bN b i)).2 with
    | none=>badV
    | some r=>if ib r (ce (bN b i)).1 then ((r:Int),((ce (bN b i)).1:Int),true,()) else badV:=if_neg (by omega)
 rw [hd]
 have hb:∃ n:Nat,badV.2.1=(n:Int)∧1≤n∧n≤4∧i+n≤b.size:=⟨1,rfl,by omega,by omega,by omega⟩
 split
 ·exact hb
 ·rename_i h1
  split
  ·exact hb
  ·split
   ·exact ⟨(ce (bN b i)).1,rfl,by omega,hn4,by omega⟩
   ·exact hb
theorem KW (c:Nat) (h:c < 256):-1≤mB (c:Int)∧mB (c:Int) < 16:=by
 have:=it (p:=fun c=>decide (-1≤mB (c:Int))&&decide (mB (c:Int) < 16)) (show (List.range 256).all _=true from by kernel_rfl) h
 simpa using this
theorem LR {a d:Nat} (hd:d < 16) (ha:a < 16777216):tY .i64 ((a * 16:Nat):Int) (d:Int)=((a * 16+d:Nat):Int):=by
 unfold tY
 have h1:d < 2 ^ 4:=hd
 have e:=Nat.shiftLeft_add_eq_or_of_lt h1 a
 rw [Nat.shiftLeft_eq] at e
 have e2:(BitVec.ofInt IntKind.i64.bits ((a * 16:Nat):Int) |||BitVec.ofInt IntKind.i64.bits ((d:Nat):Int)).toNat=a * 16+d:=by
  rw [BitVec.toNat_or,BitVec.ofInt_natCast,BitVec.ofInt_natCast,BitVec.toNat_ofNat,BitVec.toNat_ofNat,Nat.mod_eq_of_lt (show a * 16 < 2 ^ IntKind.i64.bits from by show a * 16 < 18446744073709551616; omega),Nat.mod_eq_of_lt (show d < 2 ^ IntKind.i64.bits from by show d < 18446744073709551616; omega)]
  exact e.symm
 rw [e2]
 exact bg (by omega) (by omega)
theorem Fr {c:Int} (h0:0≤c) (h1:c < 256):[Value.int .u8 c]=bc (gC c):=by
 show [Value.int .u8 c]=[Value.int .u8 (c.toNat.toUInt8.toNat:Int)]
 congr 2
 have:c.toNat.toUInt8.toNat=c.toNat:=by simp; omega
 rw [this]; omega
theorem wE (r:Int) (w:World):(ig lk aK (.int .i32 r)).run PG w=.ok (.value (.string (Utf8.encode r))) w:=by
 have h:=run_convert_int_string (P:=PG) w lk aK .i32 r (by kernel_rfl) (by kernel_rfl)
 simp only [ig,cG,Sem.run_bind,h,Result.andThen_ok,Sem.run_pure]
noncomputable def nA {ε σ β:Type} (st:σ) (run:Option (Res ε σ β)):Sp ε σ β:=fun st'=>@ite _ (st'=st) (Classical.propDecidable _) run none
theorem only_at {ε σ β:Type} {st:σ} {run:Option (Res ε σ β)}:nA st run st=run:=by unfold nA; rw [if_pos rfl]
noncomputable def Kr {ε σ β:Type} (v:Bool) (L:ak) (st:σ) (run:Option (Res ε σ β)):Label ε σ β:=zi [.b .bool] (fun _:Unit=>(v,())) (fun _ L'=>Fact.prop (L'=L)) (fun _=>nA st run)
section
variable {ε σ β:Type} {P:Program} {I:aN ε σ} {t:Ty} {Rel:β→t.den→ak→Fact} {Δ:Labels ε σ β} {md:cS} {L:ak} {Γ:List Fact} {st:σ} {run:Option (Res ε σ β)}
theorem nN {l:Nat} {m:T} {k:HC [.b .bool]→T} (v:Bool) (hm:ay P I t Rel (Δ.set l (Kr v L st run)) md st m run L Γ) (hk:ay P I t Rel Δ none st (k (v,())) run L Γ):ay P I t Rel Δ md st (.join l [.b .bool] m k) run L Γ:=by
 refine lm (δ:=Unit) (fun _=>(v,())) (fun _ L'=>Fact.prop (L'=L)) (fun _=>nA st run) hm fun d L' st'=>?_
 refine bX fun F hF=>?_
 obtain rfl:L'=L:=hF
 by_cases hst:st'=st
 case neg=>exact cZ (by unfold nA; rw [if_neg hst])
 subst hst
 rw [only_at]
 exact hk
theorem fN {l:Nat} {c v:Bool} (h:c=v) (hx:Δ l=Kr v L st run):ay P I t Rel Δ md st (.out l [.bool c]) run L Γ:=by
 subst h
 exact mw () hx rfl only_at.symm fun F hF=>rfl
theorem sL {l:Nat} {b c v:Bool} {y:T} (h:(b||c)=v) (hx:Δ l=Kr v L st run) (hy:b=false→c=v→ay P I t Rel Δ md st y run L Γ):ay P I t Rel Δ md st (.ite b (.out l [.bool true]) y) run L Γ:=by
 refine aT (fun h1=>fN (by rw [← h,h1]; rfl) hx) fun h1=>hy h1 (by rw [← h,h1]; rfl)
end
abbrev tRune:Ty:=.tup [.b (.int .i64),.b .slice,.b .bool]
def qN (v:Nat × ByteArray × Bool) (y:tRune.den) (K:ak):Fact:=Fact.prop (y.1=(v.1:Int)∧y.2.2.1=v.2.2∧Buf ax 1 y.2.1 (bc v.2.1) K)
section
variable {b:ByteArray} {sl:aV} {pb:Nat}
theorem pV {ε σ:Type} {I:aN ε σ} {Δ:Labels ε σ (Nat × ByteArray × Bool)} {md:cS} {L L0 K:ak} {Γ:List Fact} {st:σ} {run:Option (Res ε σ (Nat × ByteArray × Bool))} {n:Int} {c:Bool} (v:Nat × ByteArray × Bool) (x:aV) (hL:L=K++L0)
  (hb:Buf ax 1 x (bc v.2.1) K) (hn:n=(v.1:Int)) (hc:c=v.2.2) (hrun:run=some (.ok v st)):ay PG I tRune qN Δ md st (.ret #[.v (.int .i64 n),.v (.slice x.1 x.2.1 x.2.2),.v (.bool c)]) run L Γ:=by
 subst hn; subst hc; subst hL
 exact me (t:=tRune) v K (((v.1:Int)),x,v.2.2,()) (List.sublist_append_left ..) hrun (fun r w F H _ _=>by rw [pq]; rfl) fun F hF=>⟨rfl,rfl,hb⟩
theorem Ji (hb:b.size≤65536) (i:Nat) (hi:i < b.size) (x:aV) (out:ByteArray) (K0:ak) (hB:Buf ax 1 x (bc out) K0) (ho:out.size≤1048576) :
  qb PG (SI b sl pb) (aa kr #[.pointer (some ⟨pb,0,none⟩),.int .i64 i,.slice x.1 x.2.1 x.2.2]) tRune (Pure.pure (lT b i out)) qN K0 [ByF sl b,MxF]:=by
 refine uo ⟨pb,0,none⟩ i x (c5 fun st=>?_)
 unfold kY
 have hxl:x.2.1=out.size:=by have:=hB.len; rw [wm] at this; omega
 rw [bg (n:=(i:Int)+2) (by omega) (by omega),show (i:Int)+2=((i+2:Nat):Int) by omega]
 refine eb (vQ hb (i+2) (by omega) k_lc (by decide)) (by simp) (fun h=>by cases h) (fun e=>e.elim) fun r c st' h=>?_
 cases h
 refine bX fun F hr=>?_
 obtain rfl:r=dX b (i+2) k_lc:=hr
 have bad:∀ {Δ:Labels Empty cM (Nat × ByteArray × Bool)} {md:cS} {Γ:List Fact},lT b i out=(i,out,false)→ay PG (SI b sl pb) tRune qN Δ md st (.ret #[.v (.int .i64 i),.v (.slice x.1 x.2.1 x.2.2),.v (.bool false)]) ((Pure.pure (lT b i out):Sp Empty cM _) st) K0 Γ:=fun he=>by
  rw [he]
  exact pV (i,out,false) x (List.append_nil K0).symm hB rfl rfl rfl
 refine aT (fun h1=>?_) (fun h1=>?_)
 ·have h1':dX b (i+2) k_lc=false:=Cl h1
  exact bad (by unfold lT; rw [h1']; rfl)
 have h1':dX b (i+2) k_lc=true:=xK h1
 have hV:lT b i out=oL b i out (eC b (i+9) 6 (i+3) 0):=by unfold lT; rw [if_pos h1']
 refine lm (δ:=Nat × Nat) (ts:=[.b (.int .i64),.b (.int .i64)]) (fun d=>((d.1:Int),(d.2:Int),())) (fun d L'=>Fact.prop (L'=K0∧d=eC b (i+9) 6 (i+3) 0∧d.1≤i+9∧i+3≤d.1∧d.2 < 16777216)) (fun _ sx=>if sx=st then (Pure.pure (lT b i out):Sp Empty cM _) st else none) ?_ ?_
 ·refine yy (δ:=Nat) (ts:=[.b (.int .i64),.b (.int .i64)]) 6 (fun j v=>(((i+3+j:Nat):Int),(v:Int),())) (fun j v L'=>Fact.prop (L'=K0∧eC b (i+9) (6 - j) (i+3+j) v=eC b (i+9) 6 (i+3) 0∧v < 16 ^ j)) 0 (by rw [bg (by omega) (by omega)]; rfl) (fun F hF=>⟨rfl,rfl,by decide⟩) fun j v L' Δ' hj hΔ go=>?_
  refine bX fun F0 hx=>?_
  obtain ⟨rfl,hc,hv⟩:=hx
  have hpow:16 ^ j≤16777216:=Nat.pow_le_pow_right (n:=16) (by decide) hj
  have leave:∀ {md:cS} {Γ:List Fact},eC b (i+9) (6 - j) (i+3+j) v=(i+3+j,v)→ay PG (SI b sl pb) tRune qN Δ' md st (.out 0 [.int .i64 ((i+3+j:Nat):Int),.int .i64 (v:Int)]) ((Pure.pure (lT b i out):Sp Empty cM _) st) L' Γ:=fun he =>
   mw (i+3+j,v) ((hΔ 0 (by decide)).trans co) rfl (by rw [if_pos rfl]) fun F hF=>⟨rfl,he.symm.trans hc,by show i+3+j≤i+9; omega,by show i+3≤i+3+j; omega,by show v < 16777216; omega⟩
  refine nN (decide (i+3+j < b.size∧i+3+j < i+9)) ?_ ?_
  ·refine jl (fX (by repeat (first | exact mz | apply ms)) fun hl=>?_)
   refine aT (fun h2=>?_) (fun h2=>?_)
   ·have h2':i+3+j < b.size:=kg hl h2
    refine fN ?_ co
    rw [bg (n:=(i:Int)+9) (by omega) (by omega)]
    exact decide_eq_decide.2 ⟨fun h3=>⟨h2',by have h3:((i+3+j:Nat):Int) < (i:Int)+9:=h3; omega⟩,fun h3=>by show ((i+3+j:Nat):Int) < (i:Int)+9; omega⟩
   ·have h2':¬ i+3+j < b.size:=kf hl h2
    exact fN (decide_eq_false fun h3=>h2' h3.1).symm co
  ·refine aT (fun h2=>?_) (fun h2=>?_)
   ·have h2':i+3+j < b.size∧i+3+j < i+9:=of_decide_eq_true h2
    obtain ⟨f,hf⟩:∃ f,6 - j=f+1:=⟨6 - j - 1,by omega⟩
    rw [hf] at hc leave
    refine jl (f7 (b:=b) (i+3+j) (by repeat (first | exact mz | apply ms)) rfl h2'.1 ?_)
    refine dK (t1:=cR) (tY .u8 (aY b (i+3+j)) 32) (PVal.pure fun w=>xX _ _ w) ?_
    refine fy (t8 fZ (tY .u8 (aY b (i+3+j)) 32)) (fun _ h=>nomatch h) ?_
    have hD:=KW (bN b (i+3+j)) (q7 b _)
    rw [← vd] at hD
    have hbr:=mj b (i+3+j)
    refine aT (fun h3=>?_) (fun h3=>?_)
    ·have h3':mB (aY b (i+3+j)) < 0:=of_decide_eq_true h3
     exact leave (by simp only [eC]; rw [if_pos h2',if_pos (.inl h3')])
    have h3':¬ mB (aY b (i+3+j)) < 0:=of_decide_eq_false h3
    refine jl (f7 (b:=b) (i+3+j) (by repeat (first | exact mz | apply ms)) rfl h2'.1 ?_)
    refine aT (fun h4=>?_) (fun h4=>?_)
    ·have h4':aY b (i+3+j) < 48:=of_decide_eq_true h4
     exact leave (by simp only [eC]; rw [if_pos h2',if_pos (.inr h4')])
    have h4':¬ aY b (i+3+j) < 48:=of_decide_eq_false h4
    have hstep:eC b (i+9) (f+1) (i+3+j) v=eC b (i+9) f (i+3+j+1) (v * 16+(mB (aY b (i+3+j))).toNat):=by
     simp only [eC]; rw [if_pos h2',if_neg (fun h=>h.elim h3' h4')]
    obtain ⟨d,hd⟩:=Int.eq_ofNat_of_zero_le (show 0≤mB (aY b (i+3+j)) by omega)
    have hd2:Ep fZ (tY .u8 (aY b (i+3+j)) 32)=(d:Int):=hd
    have hdt:(mB (aY b (i+3+j))).toNat=d:=by omega
    rw [hdt] at hstep
    rw [hd2]
    refine dK (t1:=tI) ((v * 16:Nat):Int) (PVal.pure fun w=>by
     rw [Ec _ _ (by decide)]
     show _=Result.ok (Next.value (.int .i64 ((v * 16:Nat):Int))) w
     rw [show ((v:Int) * 2 ^ min (4:Int).toNat IntKind.i64.bits)=((v * 16:Nat):Int) by show (v:Int) * 16=_; omega,bg (by omega) (by omega)]) ?_
    refine dK (t1:=tI) ((v * 16+d:Nat):Int) (PVal.pure fun w=>by rw [xX,LR (by omega) (by omega)]; rfl) ?_
    refine go (v * 16+d) (by omega) ?_ fun F hF=>⟨rfl,?_,?_⟩
    ·rw [bg (by omega) (by omega)]; rfl
    ·rw [show 6 - (j+1)=f by omega,show i+3+(j+1)=i+3+j+1 by omega,← hstep]; exact hc
    ·rw [Nat.pow_succ]; omega
   ·have h2':¬ (i+3+j < b.size∧i+3+j < i+9):=of_decide_eq_false h2
    refine leave ?_
    cases 6 - j with
    | zero=>rfl
    | succ f=>simp only [eC]; rw [if_neg h2']
 ·rintro ⟨k,v⟩ L' sx
  refine bX fun F0 hx=>?_
  obtain ⟨rfl,hd,hk1,hk2,hv⟩:=hx
  simp only at hk1 hk2 hv
  by_cases hst:sx=st
  case neg=>exact cZ (if_neg hst)
  subst hst
  rw [if_pos rfl,hV,← hd]
  rw [hV,← hd] at bad
  refine nN (decide (k=i+3∨dX b k k_rc=false∨1114111 < v∨(55296≤v∧v≤57343))) ?_ ?_
  ·refine aT (fun h2=>?_) (fun h2=>?_)
   ·have h2':k=i+3:=by have h3:(k:Int)=IntKind.i64.wrap ((i:Int)+3):=eq_of_beq h2; rw [bg (by omega) (by omega)] at h3; omega
    exact fN (decide_eq_true (.inl h2')).symm co
   have h2':¬ k=i+3:=fun h=>by
    have h3:((k:Int)==IntKind.i64.wrap ((i:Int)+3))=false:=h2
    rw [bg (by omega) (by omega),h] at h3
    have:=ne_of_beq_false h3
    omega
   refine eb (vQ hb k (by omega) k_rc (by decide)) (by simp) (fun h=>by cases h) (fun e=>e.elim) fun r c st3 h=>?_
   cases h
   refine bX fun F hr=>?_
   obtain rfl:r=dX b k k_rc:=hr
   refine aT (fun h3=>?_) (fun h3=>?_)
   ·exact fN (decide_eq_true (.inr (.inl (Cl h3)))).symm co
   have h3':¬ dX b k k_rc=false:=by rw [xK h3]; decide
   refine aT (fun h4=>?_) (fun h4=>?_)
   ·have h4':1114111 < v:=by have h5:(v:Int) > 1114111:=of_decide_eq_true h4; omega
    exact fN (decide_eq_true (.inr (.inr (.inl h4')))).symm co
   have h4':¬ 1114111 < v:=by have h5:¬ (v:Int) > 1114111:=of_decide_eq_false h4; omega
   refine aT (fun h5=>?_) (fun h5=>?_)
   ·have h5':55296≤v:=by have h6:(v:Int)≥55296:=of_decide_eq_true h5; omega
    refine fN ?_ co
    exact decide_eq_decide.2 ⟨fun h6=>.inr (.inr (.inr ⟨h5',by have h6:(v:Int)≤57343:=h6; omega⟩)),fun h6=>by
     rcases h6 with h | h | h | h
     ·exact absurd h h2'
     ·exact absurd h h3'
     ·exact absurd h h4'
     ·show (v:Int)≤57343; omega⟩
   ·have h5':¬ 55296≤v:=by have h6:¬ (v:Int)≥55296:=of_decide_eq_false h5; omega
    refine fN (decide_eq_false fun h6=>?_).symm co
    rcases h6 with h | h | h | h
    ·exact absurd h h2'
    ·exact absurd h h3'
    ·exact absurd h h4'
    ·exact absurd h.1 h5'
  ·refine aT (fun h2=>?_) (fun h2=>?_)
   ·have h2':k=i+3∨dX b k k_rc=false∨1114111 < v∨(55296≤v∧v≤57343):=of_decide_eq_true h2
    exact bad (by unfold oL; rw [if_pos h2'])
   ·have h2':¬ (k=i+3∨dX b k k_rc=false∨1114111 < v∨(55296≤v∧v≤57343)):=of_decide_eq_false h2
    have hs:=qJ (v:Int)
    obtain ⟨sE,hE⟩:∃ sE,Utf8.encode (v:Int)=sE:=⟨_,rfl⟩
    have hX:oL b i out (k,v)=(k+1,out++sE,true):=by unfold oL; rw [if_neg h2',hE]
    rw [hE] at hs
    rw [hX]
    refine dK (t1:=tS) sE (PVal.pure fun w=>by
     show (ig lk aK (.int .i32 (IntKind.i32.wrap (v:Int)))).run PG w=_
     rw [mg (by omega),wE,hE]; rfl) ?_
    refine BB sE (List.append_nil L').symm hB (by omega) (by omega) fun y K' hy hB'=>?_
    refine pV (k+1,out++sE,true) y rfl (by rw [BS]; exact hB') ?_ rfl rfl
    show IntKind.i64.wrap ((k:Int)+1)=((k+1:Nat):Int)
    rw [bg (by omega) (by omega)]; rfl
theorem xp {ε σ α:Type} {a v:α} {st st':σ} (h:(Pure.pure a:Sp ε σ α) st=some (.ok v st')):v=a∧st'=st:=by
 have h:(some (.ok a st):Option (Res ε σ α))=some (.ok v st'):=h
 cases h; exact ⟨rfl,rfl⟩
theorem ES (c:Int):(gC c).size=1:=rfl
theorem tg {b x:ByteArray} {k:Nat} (h:dX b k x=true):k+x.size≤b.size:=by
 unfold dX at h
 rw [Bool.and_eq_true] at h
 exact of_decide_eq_true h.1
theorem BJ (b:ByteArray) (lim:Nat):∀ (f k v:Nat),k≤(eC b lim f k v).1
 | 0,k,v=>Nat.le_refl _
 | f+1,k,v=>by
  unfold eC
  split
  ·split
   ·exact Nat.le_refl _
   ·have:=BJ b lim f (k+1) (v * 16+(mB (aY b k)).toNat); omega
  ·exact Nat.le_refl _
theorem pj {b:ByteArray} {i:Nat} {out:ByteArray} (hi:i < b.size) (hok:(cN b i out).2.2=true):i < (cN b i out).1∧(cN b i out).1≤b.size∧(cN b i out).2.1.size≤out.size+4:=by
 unfold cN at hok ⊢
 by_cases h1:(aY b i != 92)=true
 ·rw [if_pos h1]
  obtain ⟨n,hn,h2,h3,h5⟩:=Iy hi
  have h4:=qJ (cq b i).1
  have e:(cq b i).2.1.toNat=n:=by rw [hn]; rfl
  refine ⟨?_,?_,?_⟩
  ·show i < i+(cq b i).2.1.toNat; rw [e]; omega
  ·show i+(cq b i).2.1.toNat≤b.size; rw [e]; exact h5
  ·show (out++Utf8.encode (cq b i).1).size≤_; rw [ByteArray.size_append]; omega
 ·rw [if_neg h1] at hok ⊢
  by_cases h2:b.size≤i+1
  ·rw [if_pos h2] at hok; cases hok
  ·rw [if_neg h2] at hok ⊢
   have put:∀ c:Int,i < i+2∧i+2≤b.size∧(out++gC c).size≤out.size+4:=fun c=>⟨by omega,by omega,by rw [ByteArray.size_append,ES]; omega⟩
   unfold xM at hok ⊢
   split; · exact put _
   rename_i g1; rw [if_neg g1] at hok
   split; · exact put _
   rename_i g2; rw [if_neg g2] at hok
   split; · exact put _
   rename_i g3; rw [if_neg g3] at hok
   split; · exact put _
   rename_i g4; rw [if_neg g4] at hok
   split; · exact put _
   rename_i g5; rw [if_neg g5] at hok
   split
   ·rename_i g6
    rw [if_pos g6] at hok
    unfold lT at hok ⊢
    split
    ·rename_i g7
     rw [if_pos g7] at hok
     unfold oL at hok ⊢
     split
     ·rename_i g8; rw [if_pos g8] at hok; cases hok
     ·rename_i g8
      have hge:=BJ b (i+9) 6 (i+3) 0
      have hrc:dX b (eC b (i+9) 6 (i+3) 0).1 k_rc=true:=by
       cases hh:dX b (eC b (i+9) 6 (i+3) 0).1 k_rc with
       | true=>rfl
       | false=>exact absurd (.inr (.inl hh)) g8
      have h5:=tg hrc
      have h6:k_rc.size=1:=by kernel_rfl
      have h7:=qJ ((eC b (i+9) 6 (i+3) 0).2:Int)
      refine ⟨?_,?_,?_⟩
      ·show i < (eC b (i+9) 6 (i+3) 0).1+1; omega
      ·show (eC b (i+9) 6 (i+3) 0).1+1≤b.size; omega
      ·show (out++Utf8.encode _).size≤_; rw [ByteArray.size_append]; omega
    ·rename_i g7; rw [if_neg g7] at hok; cases hok
   ·rename_i g6; rw [if_neg g6] at hok; cases hok
theorem Em (hb:b.size≤65536) (i:Nat) (hi:i < b.size) (x:aV) (out:ByteArray) (K0:ak) (hB:Buf ax 1 x (bc out) K0) (ho:out.size≤1048576) :
  qb PG (SI b sl pb) (aa ij #[.pointer (some ⟨pb,0,none⟩),.int .i64 i,.slice x.1 x.2.1 x.2.2]) tRune (Pure.pure (cN b i out)) qN K0 [ByF sl b,MxF]:=by
 refine ut ⟨pb,0,none⟩ i x (c5 fun st=>?_)
 unfold k4
 have hxl:x.2.1=out.size:=by have:=hB.len; rw [wm] at this; omega
 have bad:∀ {Δ:Labels Empty cM (Nat × ByteArray × Bool)} {md:cS} {Γ:List Fact},cN b i out=(i,out,false)→ay PG (SI b sl pb) tRune qN Δ md st (.ret #[.v (.int .i64 i),.v (.slice x.1 x.2.1 x.2.2),.v (.bool false)]) ((Pure.pure (cN b i out):Sp Empty cM _) st) K0 Γ:=fun he=>by
  rw [he]
  exact pV (i,out,false) x (List.append_nil K0).symm hB rfl rfl rfl
 refine jl (f7 (b:=b) i (by repeat (first | exact mz | apply ms)) rfl hi ?_)
 refine aT (fun h1=>?_) (fun h1=>?_)
 ·have h1':(aY b i != 92)=true:=h1
  have hV:cN b i out=(i+(cq b i).2.1.toNat,out++Utf8.encode (cq b i).1,true):=if_pos h1'
  obtain ⟨n,hn,hn1,hn4,hnb⟩:=Iy hi
  refine jl (fy (GX sl b (by omega) i (by omega)) (by simp) ?_)
  refine dK (t1:=tS) (Utf8.encode (cq b i).1) (PVal.pure fun w=>wE _ w) ?_
  have hs:=qJ (cq b i).1
  refine BB (Utf8.encode (cq b i).1) (List.append_nil K0).symm hB (by omega) (by omega) fun y K' hy hB'=>?_
  rw [hV]
  refine pV (i+(cq b i).2.1.toNat,out++Utf8.encode (cq b i).1,true) y rfl (by rw [BS]; exact hB') ?_ rfl rfl
  show IntKind.i64.wrap ((i:Int)+(cq b i).2.1)=((i+(cq b i).2.1.toNat:Nat):Int)
  rw [hn]
  show IntKind.i64.wrap ((i:Int)+(n:Int))=((i+n:Nat):Int)
  rw [bg (by omega) (by omega)]; omega
 have h1':¬ (aY b i != 92)=true:=by rw [show (aY b i != 92)=false from h1]; decide
 have hV:cN b i out=if b.size≤i+1 then (i,out,false) else xM b i out (aY b (i+1)):=if_neg h1'
 refine jl (fX (by repeat (first | exact mz | apply ms)) fun hl=>?_)
 rw [bg (n:=(i:Int)+1) (by omega) (by omega),show (i:Int)+1=((i+1:Nat):Int) by omega,bg (n:=(i:Int)+2) (by omega) (by omega),show (i:Int)+2=((i+2:Nat):Int) by omega]
 refine aT (fun h2=>?_) (fun h2=>?_)
 ·have h2':b.size≤i+1:=by have h2:((i+1:Nat):Int)≥(sl.2.1:Int):=of_decide_eq_true h2; omega
  exact bad (by rw [hV,if_pos h2'])
 have h2':¬ b.size≤i+1:=by have h2:¬ ((i+1:Nat):Int)≥(sl.2.1:Int):=of_decide_eq_false h2; omega
 rw [if_neg h2'] at hV
 refine jl (f7 (b:=b) (i+1) (by repeat (first | exact mz | apply ms)) rfl (by omega) ?_)
 have hbr:=mj b (i+1)
 revert hbr hV
 generalize aY b (i+1)=c
 intro hV hbr
 have put:∀ {Δ:Labels Empty cM (Nat × ByteArray × Bool)} {md:cS} {Γ:List Fact} (c':Int),0≤c'→c' < 256→xM b i out c=(i+2,out++gC c',true)→ay PG (SI b sl pb) tRune qN Δ md st (
   .op (aG aj 1 #[(0,.int .u8 c')]) ai fun r12 =>
   .op (cW #[aj,aj] aj #[.slice x.1 x.2.1 x.2.2,.slice r12.1 r12.2.1 r12.2.2]) ai fun r13 =>
   .ret #[.v (.int .i64 ((i+2:Nat):Int)),.v (.slice r13.1 r13.2.1 r13.2.2),.v (.bool true)]) ((Pure.pure (cN b i out):Sp Empty cM _) st) K0 Γ:=fun c' h0 h255 he=>by
  refine Fy c' (List.append_nil K0).symm hB (by omega) fun y K' hy hB'=>?_
  rw [hV,he]
  exact pV (i+2,out++gC c',true) y rfl (by rw [BS,← Fr h0 h255]; exact hB') rfl rfl rfl
 refine aT (fun h=>put 10 (by decide) (by decide) (if_pos h)) fun h3=>?_
 have h3':¬ (c==110)=true:=by rw [show (c==110)=false from h3]; decide
 refine aT (fun h=>put 13 (by decide) (by decide) ((if_neg h3').trans (if_pos h))) fun h4=>?_
 have h4':¬ (c==114)=true:=by rw [show (c==114)=false from h4]; decide
 refine aT (fun h=>put 9 (by decide) (by decide) ((if_neg h3').trans ((if_neg h4').trans (if_pos h)))) fun h5=>?_
 have h5':¬ (c==116)=true:=by rw [show (c==116)=false from h5]; decide
 refine aT (fun h=>put 0 (by decide) (by decide) ((if_neg h3').trans ((if_neg h4').trans ((if_neg h5').trans (if_pos h))))) fun h6=>?_
 have h6':¬ (c==48)=true:=by rw [show (c==48)=false from h6]; decide
 have hE:xM b i out c=if (c==92||(c==34||(c==39||(c==36||c==96))))=true then (i+2,out++gC c,true) else if c==117 then lT b i out else (i,out,false):=(if_neg h3').trans ((if_neg h4').trans ((if_neg h5').trans (if_neg h6')))
 refine nN (c==92||(c==34||(c==39||(c==36||c==96)))) (sL rfl co fun _ e=>sL e co fun _ e=>sL e co fun _ e=>sL e co fun _ e=>fN e co) ?_
 refine aT (fun h7=>put c hbr.1 hbr.2 (by rw [hE,if_pos h7])) fun h7=>?_
 have h7':¬ (c==92||(c==34||(c==39||(c==36||c==96))))=true:=by rw [show (c==92||(c==34||(c==39||(c==36||c==96))))=false from h7]; decide
 rw [if_neg h7'] at hE
 refine aT (fun h8=>?_) fun h8=>?_
 ·have h8':(c==117)=true:=h8
  rw [if_pos h8'] at hE
  rw [hV,hE]
  refine xE (Ji hb i hi x out K0 hB ho) (by simp) (List.append_nil K0).symm (fun h=>by cases h) (fun e h=>by cases h) fun y v K' st' h=>?_
  obtain ⟨rfl,rfl⟩:=xp h
  refine bX fun F hy=>?_
  obtain ⟨g1,g2,hB'⟩:=hy
  exact pV (lT b i out) y.2.1 rfl hB' g1 g2 rfl
 ·have h8':¬ (c==117)=true:=by rw [show (c==117)=false from h8]; decide
  exact bad (by rw [hV,hE,if_neg h8'])
theorem Kv {out:ByteArray} (h:bc out=[]):out=ByteArray.empty:=by
 apply ByteArray.ext
 apply Array.toList_inj.1
 have:(out.data.toList.map fun x=>Value.int .u8 (x.toNat:Int))=[]:=h
 simpa using this
theorem Fp {ε σ β:Type} {I:aN ε σ} {t:Ty} {Rel:β→t.den→ak→Fact} {Δ:Labels ε σ β} {L Lq:ak} {Γ Γq:List Fact} {st:σ} {run:Option (Res ε σ β)} {k:ByteArray→T} {x:aV} {out:ByteArray} {K:ak} (hB:Buf ax 1 x (bc out) K) (hK:∀ p∈K,p∈Lq)
  (hk:ay PG I t Rel Δ (some (Γq,Lq)) st (k out) run L Γ):ay PG I t Rel Δ (some (Γq,Lq)) st (.opq (ig aj aK (.slice x.1 x.2.1 x.2.2)) tS k) run L Γ:=by
 have e1:PG.underlying aj=some (.slice ax):=by kernel_rfl
 have e2:PG.underlying ax=some (.int .u8):=by kernel_rfl
 have e3:PG.underlying aK=some .string:=by kernel_rfl
 refine Be (t1:=tS) out (fun F h1 h2 w hw=>?_) hk
 show (ig aj aK (.slice x.1 x.2.1 x.2.2)).run PG w=.ok (.value (.string out)) w
 rcases hB with ⟨rfl,rfl,h3⟩ | ⟨g,cells,rfl,hx1,hxl,hnc,hcm,hcl,htk⟩
 ·have hrun:=run_convert_bytes_nil (P:=PG) w aj ax e1 e2 0 0 aK e3
  simp only [ig,cG,Sem.run_bind,hrun,Result.andThen_ok,Sem.run_pure,Kv h3]
 ·have hg:w.heap[g]? = some (ap ax cells):=hw _ _ (h2 (g,ap ax cells) (hK _ (List.mem_cons_self ..)))
  have hlen:out.size=x.2.1:=by rw [wm] at hxl; omega
  have hby:Lib.Bytes w g 0 out:=fun i hi=>by
   rw [oB (T0:=ax) (l:=cells) hg rfl]
   show cells[0+i]? = _
   rw [Nat.zero_add]
   have h4:(cells.take (x.2.1 * 1))[i]? = (bc out)[i]?:=by rw [htk]
   rw [List.getElem?_take,if_pos (by omega)] at h4
   rw [h4]
   show (out.data.toList.map fun x=>Value.int .u8 (x.toNat:Int))[i]? = _
   rw [List.getElem?_map,vh out i hi]; rfl
  have hrun:=Lib.run_convert_window (P:=PG) w aj ax aK e1 e2 e3 g 0 out hby 0 out.size x.2.2 (by omega)
  have hex:out.extract 0 (0+out.size)=out:=by
   apply ByteArray.ext; rw [ByteArray.data_extract,Nat.zero_add]; exact Array.extract_size
  rw [hex] at hrun
  rw [hx1,← hlen]
  simp only [ig,cG,Sem.run_bind]
  simp only [hrun,Result.andThen_ok,Sem.run_pure]
def Dx (b:ByteArray) (e:Int):Sp Empty cM Tok:=fun st=>some (.ok (gZ b e st.pos) st)
theorem Hl (hb:b.size≤65536) (e:Int):Meets PG (SI b sl pb) (aa jW #[.pointer (some ⟨pb,0,none⟩),.int .u8 e]) ek (Dx b e) bm [ByF sl b,MxF]:=by
 refine uj ⟨pb,0,none⟩ e (c5 fun st=>?_)
 unfold j3
 refine nJ fun b1=>?_
 refine jJ (B0 fun hle=>?_)
 rw [bg (n:=(st.pos:Int)+1) (by omega) (by omega),show (st.pos:Int)+1=((st.pos+1:Nat):Int) by omega]
 obtain ⟨R,hR⟩:∃ R,gL b e (b.size+1) (st.pos+1) kE=R:=⟨_,rfl⟩
 have hV:Dx b e st=some (.ok (Fb st.pos R) st):=by
  show some (Res.ok (gZ b e st.pos) st)=_
  unfold gZ; rw [hR]
 rw [hV]
 have bad:∀ {Δ:Labels Empty cM Tok} {md:cS} {Γ:List Fact} {K:ak},R=none→ay PG (SI b sl pb) ek (pl bm) Δ md st (
   .op (a7 ad (.pointer (some ⟨b1,0,none⟩)) (.agg #[.int .i64 0,.string kE,.int .i64 0,.int .i64 0])) tU fun _ =>
   .ret #[.c (.pointer (some ⟨b1,0,none⟩)) ad]) (some (.ok (Fb st.pos R) st)) (K++[(b1,ap ad (aP bt))]) Γ:=fun {Δ md Γ K} h=>by
  subst h
  exact gU (L1:=K) (L2:=[]) bt rfl rfl rfl
 refine lm (δ:=aV × ByteArray × Nat) (ts:=[.b .slice,.b (.int .i64)]) (fun d=>(d.1,(d.2.2:Int),())) (fun d L'=>Fact.prop (∃ K,L'=K++[(b1,ap ad (aP bt))]∧Buf ax 1 d.1 (bc d.2.1) K∧(d.2.2 < b.size→R=some (d.2.2,d.2.1))∧(b.size≤d.2.2→R=none)∧d.2.2≤b.size+1)) (fun _=>nA st (some (.ok (Fb st.pos R) st))) ?_ ?_
 ·refine yy (δ:=aV × ByteArray × Nat) (ts:=[.b .slice,.b (.int .i64)]) (b.size+1) (fun _ d=>(d.1,(d.2.2:Int),())) (fun j d L'=>Fact.prop (∃ K,L'=K++[(b1,ap ad (aP bt))]∧Buf ax 1 d.1 (bc d.2.1) K∧gL b e (b.size+1 - j) d.2.2 d.2.1=R∧j < d.2.2∧d.2.2≤b.size+1∧d.2.1.size≤4 * d.2.2)) ((none,0,0),kE,st.pos+1) rfl
   (fun F hF=>⟨[],rfl,Buf.nil ..,hR,by show 0 < st.pos+1; omega,by show st.pos+1≤_; omega,by show 0≤_; omega⟩) fun j d L' Δ' hj hΔ go=>?_
  refine bX fun F0 hx=>?_
  obtain ⟨x,out,i⟩:=d
  obtain ⟨K,rfl,hB,hq,hji,hib,hos⟩:=hx
  simp only at hB hq hji hib hos
  refine jl (fX (by repeat (first | exact mz | apply ms)) fun hl=>?_)
  refine aT (fun h1=>?_) (fun h1=>?_)
  ·have h1':i < b.size:=kg hl h1
   obtain ⟨f,hf⟩:∃ f,b.size+1 - j=f+1:=⟨b.size - j,by omega⟩
   rw [hf] at hq
   have hstep:gL b e (f+1) i out=if i < b.size then (if aY b i==e then some (i,out) else if aY b i==10||aY b i==13 then none
    else if (cN b i out).2.2 then gL b e f (cN b i out).1 (cN b i out).2.1 else none) else none:=rfl
   rw [hstep,if_pos h1'] at hq
   refine jl (f7 (b:=b) i (by repeat (first | exact mz | apply ms)) rfl h1' ?_)
   refine aT (fun h2=>?_) (fun h2=>?_)
   ·have h2':(aY b i==e)=true:=h2
    rw [if_pos h2'] at hq
    exact mw (x,out,i) ((hΔ 0 (by decide)).trans co) rfl only_at.symm fun F hF=>⟨K,rfl,hB,fun _=>hq.symm,fun h=>absurd h (by show ¬ b.size≤i; omega),hib⟩
   have h2':¬ (aY b i==e)=true:=by rw [show (aY b i==e)=false from h2]; decide
   rw [if_neg h2'] at hq
   refine nN (aY b i==10||aY b i==13) (sL rfl co fun _ e=>fN e co) ?_
   refine aT (fun h3=>?_) (fun h3=>?_)
   ·have h3':(aY b i==10||aY b i==13)=true:=h3
    rw [if_pos h3'] at hq
    exact bad hq.symm
   have h3':¬ (aY b i==10||aY b i==13)=true:=by rw [show (aY b i==10||aY b i==13)=false from h3]; decide
   rw [if_neg h3'] at hq
   refine xE (Em hb i h1' x out K hB (by omega)) (by simp) rfl (fun h=>by cases h) (fun e h=>by cases h) fun y v K' st' h=>?_
   obtain ⟨rfl,rfl⟩:=xp h
   refine bX fun F hy=>?_
   obtain ⟨g1,g2,hB'⟩:=hy
   rw [g2]
   refine aT (fun h4=>?_) (fun h4=>?_)
   ·have h4':(cN b i out).2.2=false:=Cl h4
    rw [if_neg (by rw [h4']; decide)] at hq
    exact bad hq.symm
   ·have h4':(cN b i out).2.2=true:=xK h4
    rw [if_pos h4'] at hq
    have hst:=pj h1' h4'
    rw [g1]
    refine go (y.2.1,(cN b i out).2.1,(cN b i out).1) (by omega) rfl fun F hF=>⟨K',rfl,hB',?_,?_,?_,?_⟩
    ·rw [show b.size+1 - (j+1)=f by omega]; exact hq
    ·show j+1 < (cN b i out).1; omega
    ·show (cN b i out).1≤b.size+1; omega
    ·show (cN b i out).2.1.size≤4 * (cN b i out).1; omega
  ·have h1':¬ i < b.size:=kf hl h1
   have hn:R=none:=by
    rw [← hq]
    cases b.size+1 - j with
    | zero=>rfl
    | succ f=>show (if i < b.size then _ else none)=none; rw [if_neg h1']
   exact mw (x,out,i) ((hΔ 0 (by decide)).trans co) rfl only_at.symm fun F hF=>⟨K,rfl,hB,fun h=>absurd h h1',fun _=>hn,hib⟩
 ·rintro ⟨x,out,i⟩ L' st'
  refine bX fun F0 hx=>?_
  obtain ⟨K,rfl,hB,hlt,hge,hib⟩:=hx
  simp only at hB hlt hge hib
  by_cases hst:st'=st
  case neg=>exact cZ (by unfold nA; rw [if_neg hst])
  subst hst
  rw [only_at]
  refine jl (fX (by repeat (first | exact mz | apply ms)) fun hl=>?_)
  refine aT (fun h1=>?_) (fun h1=>?_)
  ·have h1':b.size≤i:=by have h1:(i:Int)≥(sl.2.1:Int):=of_decide_eq_true h1; omega
   exact bad (hge h1')
  ·have h1':i < b.size:=by have h1:¬ (i:Int)≥(sl.2.1:Int):=of_decide_eq_false h1; omega
   have hs:=hlt h1'
   refine ft K (fun p hp=>List.mem_append_left _ hp) (Fp hB (fun p hp=>hp) (eP ?_))
   have hw:IntKind.i64.wrap ((i:Int)+1)=(i:Int)+1:=bg (by omega) (by omega)
   show ay _ _ _ _ _ _ _ (.op (a7 ad (.pointer (some ⟨b1,0,none⟩)) (.agg #[.int .i64 4,.string out,.int .i64 (st'.pos:Int),.int .i64 (IntKind.i64.wrap ((i:Int)+1))])) tU fun _=>.ret #[.c (.pointer (some ⟨b1,0,none⟩)) ad]) _ _ _
   rw [hw]
   exact gU (L1:=K) (L2:=[]) (⟨4,out,(st'.pos:Int),(i:Int)+1,()⟩:Tok) rfl rfl (by rw [hs]; rfl)
def Eh (b:ByteArray) (ends goes:Int):Sp Empty cM Tok:=fun st=>some (.ok (dq b ends goes st.pos) st)
theorem BU (hb:b.size≤65536) (ends goes:Int):Meets PG (SI b sl pb) (aa ic #[.pointer (some ⟨pb,0,none⟩),.int .i64 ends,.int .i64 goes]) ek (Eh b ends goes) bm [ByF sl b,MxF]:=by
 refine wy ⟨pb,0,none⟩ ends goes (c5 fun st=>?_)
 unfold kK
 refine nJ fun b1=>?_
 refine jJ (B0 fun hle=>?_)
 rw [bg (n:=(st.pos:Int)+1) (by omega) (by omega),show (st.pos:Int)+1=((st.pos+1:Nat):Int) by omega]
 obtain ⟨R,hR⟩:∃ R,gh b st.pos ends goes (b.size+1) (st.pos+1) kE=R:=⟨_,rfl⟩
 have hV:Eh b ends goes st=some (.ok R st):=by
  show some (Res.ok (dq b ends goes st.pos) st)=_
  unfold dq; rw [hR]
 rw [hV]
 have done:∀ {Δ:Labels Empty cM Tok} {Γ Γq:List Fact} {K:ak} {x:aV} {out:ByteArray} (kind:Int) (j n:Nat),R=(⟨kind,out,st.pos,n,()⟩:Tok)→Buf ax 1 x (bc out) K→∀ j:Int,IntKind.i64.wrap j=(n:Int)→ay PG (SI b sl pb) ek (pl bm) Δ none st (
   .draw <|
   .opq (ig aj aK (.slice x.1 x.2.1 x.2.2)) tS fun r8 =>
   .opq (am ar (.pointer (some ⟨pb,0+1,none⟩))) tI fun r9 =>
   .op (a7 ad (.pointer (some ⟨b1,0,none⟩)) (.agg #[.int .i64 kind,.string r8,.int .i64 r9,.int .i64 (IntKind.i64.wrap j)])) tU fun _ =>
   .ret #[.c (.pointer (some ⟨b1,0,none⟩)) ad]) (some (.ok R st)) (K++[(b1,ap ad (aP bt))]) Γ:=fun {Δ Γ Γq K x out} kind _ n hr hB j hj=>by
  refine ft K (fun p hp=>List.mem_append_left _ hp) (Fp hB (fun p hp=>hp) (eP ?_))
  show ay _ _ _ _ _ _ _ (.op (a7 ad (.pointer (some ⟨b1,0,none⟩)) (.agg #[.int .i64 kind,.string out,.int .i64 (st.pos:Int),.int .i64 (IntKind.i64.wrap j)])) tU fun _=>.ret #[.c (.pointer (some ⟨b1,0,none⟩)) ad]) _ _ _
  rw [hj]
  exact gU (L1:=K) (L2:=[]) (⟨kind,out,(st.pos:Int),(n:Int),()⟩:Tok) rfl rfl (by rw [hr])
 refine lm (δ:=Unit) (ts:=[]) (fun _=>()) (fun _ L'=>Fact.prop ((∃ K,L'=K++[(b1,ap ad (aP bt))])∧R=bt)) (fun _=>nA st (some (.ok R st))) ?_ ?_
 ·refine yy (δ:=aV × ByteArray × Nat) (ts:=[.b .slice,.b (.int .i64)]) (b.size+1) (fun _ d=>(d.1,(d.2.2:Int),())) (fun j d L'=>Fact.prop (∃ K,L'=K++[(b1,ap ad (aP bt))]∧Buf ax 1 d.1 (bc d.2.1) K∧gh b st.pos ends goes (b.size+1 - j) d.2.2 d.2.1=R∧j < d.2.2∧d.2.2≤b.size+1∧d.2.1.size≤4 * d.2.2)) ((none,0,0),kE,st.pos+1) rfl
   (fun F hF=>⟨[],rfl,Buf.nil ..,hR,by show 0 < st.pos+1; omega,by show st.pos+1≤_; omega,by show 0≤_; omega⟩) fun j d L' Δ' hj hΔ go=>?_
  refine bX fun F0 hx=>?_
  obtain ⟨x,out,i⟩:=d
  obtain ⟨K,rfl,hB,hq,hji,hib,hos⟩:=hx
  simp only at hB hq hji hib hos
  have leave:∀ {md:cS} {Γ:List Fact} {K2:ak},R=bt→ay PG (SI b sl pb) ek (pl bm) Δ' md st (.out 0 []) (some (.ok R st)) (K2++[(b1,ap ad (aP bt))]) Γ:=fun {md Γ K2} h =>
   mw () ((hΔ 0 (by decide)).trans co) rfl only_at.symm fun F hF=>⟨⟨K2,rfl⟩,h⟩
  refine jl (fX (by repeat (first | exact mz | apply ms)) fun hl=>?_)
  refine aT (fun h1=>?_) (fun h1=>?_)
  ·have h1':i < b.size:=kg hl h1
   obtain ⟨f,hf⟩:∃ f,b.size+1 - j=f+1:=⟨b.size - j,by omega⟩
   rw [hf] at hq
   have hstep:gh b st.pos ends goes (f+1) i out=if i < b.size then (if aY b i==96 then ⟨ends,out,st.pos,i+1,()⟩ else if dX b i k_dol_lc then ⟨goes,out,st.pos,i+2,()⟩
    else if (cN b i out).2.2 then gh b st.pos ends goes f (cN b i out).1 (cN b i out).2.1 else bt) else bt:=rfl
   rw [hstep,if_pos h1'] at hq
   refine jl (f7 (b:=b) i (by repeat (first | exact mz | apply ms)) rfl h1' ?_)
   refine aT (fun h2=>?_) (fun h2=>?_)
   ·have h2':(aY b i==96)=true:=h2
    rw [if_pos h2'] at hq
    exact done (Γq:=[]) ends 0 (i+1) hq.symm hB ((i:Int)+1) (bg (by omega) (by omega))
   have h2':¬ (aY b i==96)=true:=by rw [show (aY b i==96)=false from h2]; decide
   rw [if_neg h2'] at hq
   refine eb (vQ hb i (by omega) k_dol_lc (by decide)) (by simp) (fun h=>by cases h) (fun e=>e.elim) fun r c st' h=>?_
   cases h
   refine bX fun F hr=>?_
   obtain rfl:r=dX b i k_dol_lc:=hr
   refine aT (fun h3=>?_) (fun h3=>?_)
   ·have h3':dX b i k_dol_lc=true:=h3
    rw [if_pos h3'] at hq
    exact done (Γq:=[]) goes 0 (i+2) hq.symm hB ((i:Int)+2) (bg (by omega) (by omega))
   have h3':¬ dX b i k_dol_lc=true:=by rw [show dX b i k_dol_lc=false from h3]; decide
   rw [if_neg h3'] at hq
   refine xE (Em hb i h1' x out K hB (by omega)) (by simp) rfl (fun h=>by cases h) (fun e h=>by cases h) fun y v K' st2 h=>?_
   obtain ⟨rfl,rfl⟩:=xp h
   refine bX fun F hy=>?_
   obtain ⟨g1,g2,hB'⟩:=hy
   rw [g2]
   refine aT (fun h4=>?_) (fun h4=>?_)
   ·have h4':(cN b i out).2.2=false:=Cl h4
    rw [if_neg (by rw [h4']; decide)] at hq
    exact leave hq.symm
   ·have h4':(cN b i out).2.2=true:=xK h4
    rw [if_pos h4'] at hq
    have hst:=pj h1' h4'
    rw [g1]
    refine go (y.2.1,(cN b i out).2.1,(cN b i out).1) (by omega) rfl fun F hF=>⟨K',rfl,hB',?_,?_,?_,?_⟩
    ·rw [show b.size+1 - (j+1)=f by omega]; exact hq
    ·show j+1 < (cN b i out).1; omega
    ·show (cN b i out).1≤b.size+1; omega
    ·show (cN b i out).2.1.size≤4 * (cN b i out).1; omega
  ·have h1':¬ i < b.size:=kf hl h1
   refine leave ?_
   rw [← hq]
   cases b.size+1 - j with
   | zero=>rfl
   | succ f=>show (if i < b.size then _ else bt)=bt; rw [if_neg h1']
 ·rintro ⟨⟩ L' st'
  refine bX fun F0 hx=>?_
  obtain ⟨⟨K,rfl⟩,hn⟩:=hx
  by_cases hst:st'=st
  case neg=>exact cZ (by unfold nA; rw [if_neg hst])
  subst hst
  rw [only_at]
  exact gU (L1:=K) (L2:=[]) bt rfl rfl (by rw [hn])
end
end Go.Proofs.YtjlgcpgjdgeejaaGreatDoor
end

section
namespace Go.Proofs.YtjlgcpgjdgeejaaGreatDoor
open Go
set_option linter.unusedSimpArgs false
set_option linter.unusedVariables false
set_option linter.constructorNameAsVariable false
set_option maxRecDepth 100000
section
variable {b:ByteArray} {sl:aV} {pb:Nat}
theorem I8 {β:Type} {t:Ty} {Rel:β→t.den→ak→Fact} {Δ:Labels Empty cM β} {L Lq:ak} {Γ Γq:List Fact} {st:cM} {run:Option (Res Empty cM β)} {k1:Bool→T} {k2:T}
  (h1:∀ c,st.opn.getLast? = some c→ay PG (SI b sl pb) t Rel Δ (some (Γq,Lq)) st (k1 c) run L Γ) (h2:st.opn.getLast? = none→ay PG (SI b sl pb) t Rel Δ (some (Γq,Lq)) st k2 run L Γ) :
  ay PG (SI b sl pb) t Rel Δ (some (Γq,Lq)) st (.opq (am bZ (.pointer (some ⟨pb,0+2,none⟩))) ai fun r33=>.ite (decide (((r33.2.1:Int):Int) > 0)) (
   .opq (am bZ (.pointer (some ⟨pb,0+2,none⟩))) ai fun r34=>.opq (am bZ (.pointer (some ⟨pb,0+2,none⟩))) ai fun r35 =>
   .opq (bQ bZ (.slice r34.1 r34.2.1 r34.2.2) (.int .i64 (IntKind.i64.wrap ((r35.2.1:Int) - 1)))) tA fun r36=>.opq (am bE (.pointer (some r36))) tB k1) k2) run L Γ:=by
 intro H
 refine l3 fun osl=>l3 fun K=>nM fun ⟨hH,hB,hp⟩=>?_
 subst hH
 have hl:=hB.len
 simp only [List.length_map,Nat.mul_one] at hl
 have hinv:∀ F,((SI b sl pb).inv st ((pb,ap ck (eg sl st.pos osl))::K)).p F:=fun F=>⟨osl,K,rfl,hB,hp⟩
 refine c8 (t1:=ai) osl (cf (QRd.own (List.mem_cons_self ..)) (by kernel_rfl) rfl rfl) (kZ (fun h=>?_) (fun h=>?_))
 ·have hpos:0 < osl.2.1:=by have:=of_decide_eq_true h; omega
  obtain ⟨g,cells,rfl,hx1,h3,h4,h5,h6,h7⟩:=hB.open hpos
  refine c8 (t1:=ai) osl (cf (QRd.own (List.mem_cons_self ..)) (by kernel_rfl) rfl rfl) ?_
  refine c8 (t1:=ai) osl (cf (QRd.own (List.mem_cons_self ..)) (by kernel_rfl) rfl rfl) ?_
  refine c8 (t1:=tA) ⟨g,osl.2.1 - 1,none⟩ (mf fun w=>?_) ?_
  ·have hm:osl.2.2≤9223372036854775807:=by unfold maxLen at h5; omega
   rw [bg (by omega) (by omega),hx1,ir (n:=1) (by kernel_rfl) (by omega) (by omega)]
   have:((osl.2.1:Int) - 1).toNat * 1=osl.2.1 - 1:=by omega
   rw [this]
   simp only [Ty.enc,C.enc,B.enc]
   congr 4
   obtain ⟨x1,x2,x3⟩:=dQ (⟨g,0,none⟩:Addr) rfl (osl.2.1 - 1)
   cases hh:(⟨g,0,none⟩:Addr).add (osl.2.1 - 1) with
   | mk p o sp=>rw [hh] at x1 x2 x3; simp only at x1 x2 x3; subst x1; subst x2; subst x3; simp
  ·obtain ⟨v,hv⟩:∃ v,st.opn[osl.2.1 - 1]? = some v:=⟨_,List.getElem?_eq_getElem (by omega)⟩
   have hlast:st.opn.getLast? = some v:=by rw [List.getLast?_eq_getElem?,hl]; exact hv
   have hcell:cells[osl.2.1 - 1]? = some (.bool v):=by
    have e:(cells.take (osl.2.1 * 1))[osl.2.1 - 1]? = (st.opn.map Value.bool)[osl.2.1 - 1]?:=by rw [h7]
    rw [List.getElem?_take,if_pos (by omega),List.getElem?_map,hv] at e
    exact e
   refine c8 (t1:=tB) v (cf (T0:=bE) (l:=cells) (QRd.own (List.mem_append_left _ (List.mem_cons_of_mem _ (List.mem_cons_self ..)))) (by kernel_rfl) rfl hcell) ?_
   intro r w F res S hs hF hsp hq
   exact h1 _ hlast _ r w F res S hs (Holds.cons (hinv F) hF) hsp hq
 ·have hz:osl.2.1=0:=by have:=of_decide_eq_false h; omega
  have:st.opn.getLast? = none:=by rw [List.getLast?_eq_none_iff]; exact List.eq_nil_of_length_eq_zero (by omega)
  intro r w F res S hs hF hsp hq
  exact h2 this _ r w F res S hs (Holds.cons (hinv F) hF) hsp hq
abbrev wv:Ty:=.tup [.agg el,.b .bool]
abbrev vu:=HC [.agg el,.b .bool]
def GF {σ:Type} (x:(Tok × Bool) × σ):Res Empty σ vu:=.ok (x.1.1,x.1.2,()) x.2
def sG (b:ByteArray):Sp Empty cM vu:=fun st=>(pk b st).map GF
def rb (b:ByteArray) (t:Tok):Sp Empty cM vu:=fun st=>(EY b t st).map GF
theorem xo {σ:Type} {I:aN Empty σ} {Δ:Labels Empty σ vu} {md:cS} {L L1 L2:ak} {Γ:List Fact} {st:σ} {run:Option (Res Empty σ vu)} {b1:Nat} {l:List Value} {c:Bool} (x:Tok) (hL:L=L1++(b1,ap ad l)::L2) (hl:l.length=4) (hrun:run=some (.ok (x,c,()) st)) :
  ay PG I wv (pl bm) Δ md st (.op (a7 ad (.pointer (some ⟨b1,0,none⟩)) (.agg #[.int .i64 x.1,.string x.2.1,.int .i64 x.2.2.1,.int .i64 x.2.2.2.1])) tU fun _=>.ret #[.c (.pointer (some ⟨b1,0,none⟩)) ad,.v (.bool c)]) run L Γ:=by
 refine cT (br (L1:=L1) (L2:=L2) (l:=l) (T:=ad) (T0:=ad) (c:=true) hL (by kernel_rfl) rfl (by simp [Value.cells,hl]) (by simp [Value.cells,Value.oneCell'])) ?_
 rintro _ _ _ ⟨rfl,rfl⟩
 have hs:bW l 0 (Value.agg #[.int .i64 x.1,.string x.2.1,.int .i64 x.2.2.1,.int .i64 x.2.2.2.1]).cells.toList=aP x:=by
  rw [q4 (by simp [Value.cells,hl])]; rfl
 refine eW (t:=wv) (x,c,()) (x,c,()) hrun (fun r w F H hF hsp=>?_) fun F hF=>rfl
 refine l5 (a:=⟨b1,0,none⟩) (T0:=ad) (l:=aP x) (vs:=aP x) (v:=.bool c) (by kernel_rfl) (hsp.own _ _ (List.mem_append_right _ (List.mem_append_right _ ?_))) rfl rfl
 show _∈(b1,ap ad (bW l 0 (Value.agg #[.int .i64 x.1,.string x.2.1,.int .i64 x.2.2.1,.int .i64 x.2.2.2.1]).cells.toList))::L2
 rw [hs]; exact List.mem_cons_self ..
theorem tn {ε σ β:Type} {I:aN ε σ} {t:Ty} {Rel:β→t.den→ak→Fact} {Δ:Labels ε σ β} {md:cS} {L:ak} {Γ:List Fact} {st:σ} {run:Option (Res ε σ β)} {k:T} {b1:Nat} {y:Tok} (x:Tok)
  (hk:ay PG I t Rel Δ none st k run ((b1,ap ad (aP x))::L) Γ) :
  ay PG I t Rel Δ md st (.op (a7 ad (.pointer (some ⟨b1,0,none⟩)) (.agg #[.int .i64 x.1,.string x.2.1,.int .i64 x.2.2.1,.int .i64 x.2.2.2.1])) tU fun _=>k) run ((b1,ap ad (aP y))::L) Γ:=by
 refine cT (br (L1:=[]) (L2:=L) (l:=aP y) (T:=ad) (T0:=ad) (c:=true) rfl (by kernel_rfl) rfl (Nat.le_of_ble_eq_true rfl) (by simp [Value.cells,Value.oneCell'])) ?_
 rintro _ _ _ ⟨rfl,rfl⟩
 exact hk
theorem Ku (hb:b.size≤65536):Meets PG (SI b sl pb) (aa lU #[.pointer (some ⟨pb,0,none⟩)]) wv (sG b) bm [ByF sl b,MxF]:=by
 refine xZ ⟨pb,0,none⟩ (c5 fun st=>?_)
 unfold lS
 have hdef:sG b st=(match d2 b (b.size+1) st.pos with
  | none=>none
  | some (j,fine)=>if !fine then some (GF ((⟨0,kE,j,0,()⟩,false),{ st with pos:=j }))
   else if j=b.size then some (GF ((⟨10,kE,j,j,()⟩,true),{ st with pos:=j }))
   else match eN b (aY b j) { st with pos:=j } with
    | none=>none
    | some (t,st')=>rb b t st'):=by
  simp only [sG,pk]
  cases d2 b (b.size+1) st.pos with
  | none=>rfl
  | some x =>
   obtain ⟨j,fine⟩:=x
   cases fine with
   | false=>rfl
   | true =>
    simp only
    split
    ·rfl
    ·split
     ·rfl
     ·cases eN b (aY b j) { st with pos:=j }<;>rfl
 rw [hdef]
 refine nJ fun b1=>?_
 refine eb (GY hb) (by simp) (fun h=>?_) (fun e=>e.elim) fun x c st' h=>?_
 ·cases h2:d2 b (b.size+1) st.pos with
  | none=>rfl
  | some x=>simp only [dA,h2] at h; cases h
 cases h2:d2 b (b.size+1) st.pos with
 | none=>simp only [dA,h2] at h; cases h
 | some x2 =>
 obtain ⟨j,fine⟩:=x2
 simp only [dA,h2,Option.map_some,Option.some.injEq,Res.ok.injEq] at h
 obtain ⟨rfl,rfl⟩:=h
 refine bX fun F hx=>?_
 obtain rfl:fine=x:=hx.symm
 refine B0 fun hle=>jJ ?_
 refine rM ((0,kE,(j:Int),0,()):Tok) fun b4=>?_
 cases fine with
 | false =>
  refine aT (fun h=>?_) (fun h=>by cases h)
  refine nB ((0,kE,(j:Int),0,()):Tok) (List.mem_cons_self ..) ?_
  exact xo (L1:=[_]) (L2:=[]) ((0,kE,(j:Int),0,()):Tok) rfl rfl rfl
 | true =>
 refine aT (fun h=>by cases h) (fun h=>?_)
 simp only [Bool.not_true,if_neg (show ¬ false=true by decide)]
 refine ft [] (fun _ h=>nomatch h) (eP (pI (fX (by repeat (first | exact mz | apply ms)) fun hl=>aT (fun h=>?_) (fun h=>?_))))
 ·have hj:j=b.size:=by have:(j:Int)=(sl.2.1:Int):=eq_of_beq h; omega
  simp only [if_pos hj]
  refine ft [] (fun _ h=>nomatch h) (eP (eP ?_))
  refine Cx (br (L1:=[(b4,ap ad (aP (0,kE,(j:Int),0,())))]) (L2:=[]) (l:=aP bt) (T:=ad) (T0:=ad) (c:=true) rfl (by kernel_rfl) rfl (Nat.le_of_ble_eq_true rfl) (by simp [Value.cells,Value.oneCell'])) ?_
  rintro _ _ _ ⟨rfl,rfl⟩
  refine ⟨(fun _ h=>nomatch h),?_⟩
  refine eW (t:=wv) (((10,kE,(j:Int),(j:Int),()):Tok),true,()) (((10,kE,(j:Int),(j:Int),()):Tok),true,()) rfl (fun r w F H hF hsp=>?_) fun F hF=>rfl
  exact l5 (a:=⟨b1,0,none⟩) (T0:=ad) (l:=aP (10,kE,(j:Int),(j:Int),())) (vs:=aP (10,kE,(j:Int),(j:Int),())) (v:=.bool true) (by kernel_rfl) (hsp.own _ _ (List.mem_append_right _ (List.mem_cons_of_mem _ (List.mem_cons_self ..)))) rfl rfl
 ·have hj:¬ j=b.size:=by
   intro h'
   have:((j:Int)==(sl.2.1:Int))=true:=by rw [h',hl]; exact beq_self_eq_true _
   have h3:((j:Int)==(sl.2.1:Int))=false:=h
   rw [this] at h3; cases h3
  simp only [if_neg hj]
  have hjl:j < b.size:=by have:j≤b.size:=hle; omega
  refine ft [] (fun _ h=>nomatch h) (pI (eP (sO j (by repeat (first | exact mz | apply ms)) (by repeat (first | exact mz | apply ms)) rfl hjl ?_)))
  refine fy (uz _) (fun _ h=>nomatch h) ?_
  refine IK (δ:=Tok) (ts:=[]) (fun _=>()) (fun t=>[(b4,ap ad (aP t)),(b1,ap ad (aP bt))]) (rb b) ?_ fun t st=>?_
  ·have hst:∀ (t:Tok) (st':cM),eN b (aY b j) ⟨j,st.opn⟩=some (t,st')→(match eN b (aY b j) ⟨j,st.opn⟩ with
    | none=>none
    | some (t,st')=>rb b t st')=rb b t st':=fun t st' h=>by rw [h]
   have hno:eN b (aY b j) ⟨j,st.opn⟩=none→(match eN b (aY b j) ⟨j,st.opn⟩ with
    | none=>none
    | some (t,st')=>rb b t st')=none:=fun h=>by rw [h]
   have out0:∀ {md:cS} {Γ:List Fact} {st':cM} {run} (t:Tok),run=rb b t st'→ay PG (SI b sl pb) wv (pl bm) (noLabel.set 0 (Ic [] (fun _=>()) (fun t=>[(b4,ap ad (aP t)),(b1,ap ad (aP bt))]) (rb b))) md st' (.out 0 []) run [(b4,ap ad (aP t)),(b1,ap ad (aP bt))] Γ:=fun t h =>
    JS t co rfl rfl h
   refine aT (fun h1=>?_) (fun h1=>?_)
   ·have hs:eN b (aY b j) ⟨j,st.opn⟩=(nG b j).map fun t=>(t,⟨j,st.opn⟩):=by unfold eN; rw [if_pos h1]
    refine eb (JT hb) (by simp) (fun h=>hno ?_) (fun e=>e.elim) fun x t st' h=>?_
    ·rw [hs]; simp only [wH] at h; cases h2:nG b j with
     | none=>rfl
     | some t=>rw [h2] at h; cases h
    ·simp only [wH] at h
     cases h2:nG b j with
     | none=>rw [h2] at h; cases h
     | some t2 =>
     rw [h2] at h
     simp only [Option.map_some,Option.some.injEq,Res.ok.injEq] at h
     obtain ⟨rfl,rfl⟩:=h
     refine bX fun F hx=>?_
     obtain rfl:x=t2:=hx
     exact tn x (out0 x (hst _ _ (by rw [hs,h2]; rfl)))
   ·have h1':d1 (aY b j)=false:=h1
    refine fy (yd _) (fun _ h=>nomatch h) (aT (fun h2=>?_) (fun h2=>?_))
    ·have hs:eN b (aY b j) ⟨j,st.opn⟩=(iQ b j).map fun t=>(t,⟨j,st.opn⟩):=by unfold eN; rw [h1',if_neg (by decide),if_pos h2]
     refine eb (GB hb) (by simp) (fun h=>hno ?_) (fun e=>e.elim) fun x t st' h=>?_
     ·rw [hs]; simp only [qx] at h; cases h2:iQ b j with
      | none=>rfl
      | some t=>rw [h2] at h; cases h
     ·simp only [qx] at h
      cases h2:iQ b j with
      | none=>rw [h2] at h; cases h
      | some t2 =>
      rw [h2] at h
      simp only [Option.map_some,Option.some.injEq,Res.ok.injEq] at h
      obtain ⟨rfl,rfl⟩:=h
      refine bX fun F hx=>?_
      obtain rfl:x=t2:=hx
      exact tn x (out0 x (hst _ _ (by rw [hs,h2]; rfl)))
    ·have h2':c6 (aY b j)=false:=h2
     have hs3:eN b (aY b j) ⟨j,st.opn⟩=(if (aY b j==34)||(aY b j==39) then some (gZ b (aY b j) j,⟨j,st.opn⟩)
      else if aY b j==96 then sW b ⟨j,st.opn⟩
      else if aY b j==125&&st.opn.getLast?.getD false then some (Bk b ⟨j,st.opn⟩)
      else qF b ⟨j,st.opn⟩):=by unfold eN; rw [h1',h2',if_neg (by decide),if_neg (by decide)]
     refine nN (aY b j==34||aY b j==39) (sL rfl co fun _ e=>fN e co) ?_
     refine aT (fun h3=>?_) (fun h3=>?_)
     ·have h3':(aY b j==34||aY b j==39)=true:=h3
      rw [if_pos h3'] at hs3
      refine eb (Hl hb (aY b j)) (by simp) (fun h=>by cases h) (fun e=>e.elim) fun x t st' h=>?_
      cases h
      refine bX fun F hx=>?_
      obtain rfl:x=gZ b (aY b j) j:=hx
      exact tn _ (out0 _ (hst _ _ hs3))
     rw [show (aY b j==34||aY b j==39)=false from h3,if_neg (show ¬ false=true by decide)] at hs3
     refine aT (fun h4=>?_) (fun h4=>?_)
     ·have h4':(aY b j==96)=true:=h4
      rw [if_pos h4'] at hs3
      refine eb (BU hb 5 6) (by simp) (fun h=>by cases h) (fun e=>e.elim) fun x t st' h=>?_
      cases h
      refine bX fun F hx=>?_
      obtain rfl:x=dq b 5 6 j:=hx
      refine tn _ (fQ (b1:=.int .i64) (dq b 5 6 j).kind (List.mem_cons_self ..) (by kernel_rfl) rfl rfl (aT (fun h5=>?_) (fun h5=>?_)))
      ·have h5':((dq b 5 6 j).kind==6)=true:=h5
       by_cases hl2:st.opn.length < 1048576
       case neg=>exact cZ (hno (by rw [hs3]; unfold sW; rw [if_pos h5',if_neg hl2]))
       exact FQ hl2 (out0 _ (hst _ _ (by rw [hs3]; unfold sW; rw [if_pos h5',if_pos hl2])))
      ·have h5':¬ ((dq b 5 6 j).kind==6)=true:=by rw [show ((dq b 5 6 j).kind==6)=false from h5]; decide
       exact out0 _ (hst _ _ (by rw [hs3]; unfold sW; rw [if_neg h5']))
     rw [show (aY b j==96)=false from h4,if_neg (show ¬ false=true by decide)] at hs3
     refine nN (aY b j==125&&st.opn.getLast?.getD false) (ft [] (fun _ h=>nomatch h) (aT (fun h5=>I8 (fun c hc=>fN (by
       have hc':st.opn.getLast? = some c:=hc
       rw [show (aY b j==125)=true from h5,hc']; rfl) co) (fun hc=>fN (by
       have hc':st.opn.getLast? = none:=hc
       rw [hc',show (aY b j==125)=true from h5]; rfl) co)) (fun h5=>fN (by rw [show (aY b j==125)=false from h5]; rfl) co))) ?_
     refine aT (fun h6=>?_) (fun h6=>?_)
     ·have h6':(aY b j==125&&st.opn.getLast?.getD false)=true:=h6
      rw [if_pos h6'] at hs3
      have hne:st.opn.length≠0:=fun h0=>by
       have:=List.eq_nil_of_length_eq_zero h0
       rw [this] at h6'; simp at h6'
      refine eb (BU hb 8 7) (by simp) (fun h=>by cases h) (fun e=>e.elim) fun x t st' h=>?_
      cases h
      refine bX fun F hx=>?_
      obtain rfl:x=dq b 8 7 j:=hx
      refine tn _ (fQ (b1:=.int .i64) (dq b 8 7 j).kind (List.mem_cons_self ..) (by kernel_rfl) rfl rfl (aT (fun h5=>?_) (fun h5=>?_)))
      ·have h5':((dq b 8 7 j).kind==8)=true:=h5
       exact Iv (f:=fun n=>IntKind.i64.wrap (n - 1)) (fun n hn hm=>by
        have hn':n=st.opn.length:=hn
        rw [bg (by omega) (by omega)]; omega) (out0 _ (hst _ _ (by rw [hs3]; unfold Bk; rw [if_pos h5'])))
      ·have h5':¬ ((dq b 8 7 j).kind==8)=true:=by rw [show ((dq b 8 7 j).kind==8)=false from h5]; decide
       exact out0 _ (hst _ _ (by rw [hs3]; unfold Bk; rw [if_neg h5']))
     rw [show (aY b j==125&&st.opn.getLast?.getD false)=false from h6,if_neg (show ¬ false=true by decide)] at hs3
     refine eb (J6 hb) (by simp) (fun h=>hno ?_) (fun e=>e.elim) fun x t st' h=>?_
     ·rw [hs3]; simp only [vB,If] at h; cases h2:qF b ⟨j,st.opn⟩ with
      | none=>rfl
      | some t=>rw [h2] at h; cases h
     ·simp only [vB,If] at h
      cases h2:qF b ⟨j,st.opn⟩ with
      | none=>rw [h2] at h; cases h
      | some t2 =>
      rw [h2] at h
      simp only [Option.map_some,Option.some.injEq,Res.ok.injEq] at h
      obtain ⟨rfl,rfl⟩:=h
      refine bX fun F hx=>?_
      have hx':x=t2.1:=hx
      subst hx'
      exact tn t2.1 (out0 t2.1 (hst _ _ (by rw [hs3,h2])))
  ·have he:rb b t st=(if t.kind==0 then some (.ok ((0,kE,(st.pos:Int),0,()),false,()) st) else if 0≤t.fin∧t.fin≤b.size then some (.ok (t,true,()) { st with pos:=t.fin.toNat }) else none):=by
    simp only [rb,EY]
    split
    ·rfl
    ·split<;>rfl
   rw [he]
   refine fQ (b1:=.int .i64) t.kind (List.mem_cons_self ..) (by kernel_rfl) rfl rfl (aT (fun h1=>?_) (fun h1=>?_))
   ·rw [if_pos h1]
    refine jJ ?_
    exact xo (L1:=[_]) (L2:=[]) ((0,kE,(st.pos:Int),0,()):Tok) rfl rfl rfl
   ·rw [show (t.kind==0)=false from h1,if_neg (show ¬ false=true by decide)]
    by_cases hf:0≤t.fin∧t.fin≤b.size
    case neg=>exact cZ (if_neg hf)
    rw [if_pos hf]
    refine fQ (b1:=.int .i64) t.fin (List.mem_cons_self ..) (by kernel_rfl) rfl rfl ?_
    refine Bj t.fin.toNat (by omega) (by omega) ?_
    refine nB t (List.mem_cons_self ..) ?_
    exact xo (L1:=[_]) (L2:=[]) t rfl rfl rfl
end
end Go.Proofs.YtjlgcpgjdgeejaaGreatDoor
end

section
namespace Go.Proofs.YtjlgcpgjdgeejaaGreatDoor
open Go
set_option linter.unusedVariables false
set_option maxRecDepth 100000
noncomputable section
def nD:An :=
 .s (.r [none]) (.s (.s (.r [none,some tB]) (.c (.s (.r [none]) (.x)) (.x))) (.s (.r [some ai,none,some ai,none]) (.x)))
def fo (a0_s:Option Addr × Nat × Nat):T :=
 .op (cU .eql aj (.slice a0_s.1 a0_s.2.1 a0_s.2.2) (.slice none 0 0)) tB fun r1 =>
 .ite r1 (
 .ret #[.v (.slice none 0 0)]) (
 .op (aG aj 0 #[]) ai fun r2 =>
 .op (cW #[aj,aj] aj #[.slice r2.1 r2.2.1 r2.2.2,.slice a0_s.1 a0_s.2.1 a0_s.2.2]) ai fun r3 =>
 .ret #[.v (.slice r3.1 r3.2.1 r3.2.2)])
theorem om (a0_s:Option Addr × Nat × Nat):cc Tryz.prog Tryz.f69 nD [.slice a0_s.1 a0_s.2.1 a0_s.2.2]=fo a0_s:=by kernel_rfl
theorem oQ {ε σ β:Type} {I:aN ε σ} {t:Ty} {s:Sp ε σ β} {Rel:β→t.den→ak→Fact} {Γ:List Fact} (a0_s:Option Addr × Nat × Nat) (h:Sim Tryz.prog I t Rel noLabel none (fo a0_s) s [] Γ):MeetsO Tryz.prog I (aa fi #[.slice a0_s.1 a0_s.2.1 a0_s.2.2]) t s Rel Γ :=
 aq (args:=[.slice a0_s.1 a0_s.2.1 a0_s.2.2]) Tryz.func69 rfl rfl (Nat.le_of_ble_eq_true rfl) (by rw [om]; exact h)
def C6:An :=
 .s (.r [some tA,none]) (.s (.r [some ai,some ai,some tU]) (.s (.r [none,none]) (.x)))
def qT (a0_b:Option Addr × Nat × Nat):T :=
 .op (iK aj (.slice a0_b.1 a0_b.2.1 a0_b.2.2)) tA fun r1 =>
 .op (am aj (.pointer (some r1))) ai fun r2 =>
 .op (aa fi #[.slice r2.1 r2.2.1 r2.2.2]) ai fun r3 =>
 .op (a7 aj (.pointer (some r1)) (.slice r3.1 r3.2.1 r3.2.2)) tU fun _ =>
 .ret #[.v (.func (.func fq) #[] #[.pointer (some r1)])]
theorem Ew (a0_b:Option Addr × Nat × Nat):cc Tryz.prog Tryz.f43 C6 [.slice a0_b.1 a0_b.2.1 a0_b.2.2]=qT a0_b:=by kernel_rfl
theorem EJ {ε σ β:Type} {I:aN ε σ} {t:Ty} {s:Sp ε σ β} {Rel:β→t.den→ak→Fact} {Γ:List Fact} (a0_b:Option Addr × Nat × Nat) (h:Sim Tryz.prog I t Rel noLabel none (qT a0_b) s [] Γ):MeetsO Tryz.prog I (aa qS #[.slice a0_b.1 a0_b.2.1 a0_b.2.2]) t s Rel Γ :=
 aq (args:=[.slice a0_b.1 a0_b.2.1 a0_b.2.2]) Tryz.func43 rfl rfl (Nat.le_of_ble_eq_true rfl) (by rw [Ew]; exact h)
def Az:An :=
 .b (.s (.s (.r [some ai,none,none]) (.c (.s (.r [none,none,some tB]) (.x)) (.x))) (.s (.r [some ai,some tP,none]) (.s (.x) (.s (.r [none]) (.b (.l [(4,.b (.int .i64))] (.s (.b (.s (.r [none,some (.tup [.agg [.int .i64,.str,.int .i64,.int .i64],.b .bool]),none,none,none,some tA,some tU,none]) (.s (.b (.s (.r [none,none,none]) (.c (.s (.r [none,none,some tI,none,some tB]) (.x)) (.s (.j [(30,.b .bool)] (.r [none,none,none,none,some tI,none,none,none])) (.c (.s (.r [none,none,some tI,none,some tB]) (.x)) (.s (.r [none,some (.c (.agg [.int .i64,.str,.int .i64,.int .i64])),some tB,none,none,none,some tI,none,none,none]) (.c (.x) (.x)))))))) (.x)))) (.r [none,none,none]))))))))
def oH (a0_yield:Value) (a1_a1:Addr):T :=
 .op (am aj (.pointer (some a1_a1))) ai fun r1 =>
 .ite (decide (((r1.2.1:Int):Int) > 65536)) (
 .op (dE a0_yield #[.agg #[.int .i64 0,.string kE,.int .i64 0,.int .i64 0],.int .i64 2]) tB fun r2 =>
 .ret #[]) (
 .op (am aj (.pointer (some a1_a1))) ai fun r3 =>
 .op (aa oP #[.slice r3.1 r3.2.1 r3.2.2]) tP fun r4 =>
 .loop 0 [.b (.int .i64)] [.int .i64 0] fun x5 =>
 .op (aa lU #[.pointer r4]) (.tup [.agg [.int .i64,.str,.int .i64,.int .i64],.b .bool]) fun r6 =>
 .op (bD ad) tA fun r7 =>
 .op (a7 ad (.pointer (some r7)) (.agg #[.int .i64 r6.1.1,.string r6.1.2.1,.int .i64 r6.1.2.2.1,.int .i64 r6.1.2.2.2.1])) tU fun _ =>
 .ite (!r6.2.1) (
 .op (am ar (.pointer (some ⟨r7.block,r7.off+2,none⟩))) tI fun r9 =>
 .op (dE a0_yield #[.agg #[.int .i64 0,.string kE,.int .i64 r9,.int .i64 0],.int .i64 3]) tB fun r10 =>
 .ret #[]) (
 .join 1 [.b .bool] (
 .ite ((x5.1:Int)==8192) (
 .op (am ar (.pointer (some r7))) tI fun r11 =>
 .out 1 [.bool ((r11:Int) != 10)]) (
 .out 1 [.bool false])) fun x12 =>
 .ite x12.1 (
 .op (am ar (.pointer (some ⟨r7.block,r7.off+2,none⟩))) tI fun r13 =>
 .op (dE a0_yield #[.agg #[.int .i64 0,.string kE,.int .i64 r13,.int .i64 0],.int .i64 4]) tB fun r14 =>
 .ret #[]) (
 .op (am ad (.pointer (some r7))) (.c (.agg [.int .i64,.str,.int .i64,.int .i64])) fun r15 =>
 .op (dE a0_yield #[.agg #[.int .i64 r15.1,.string r15.2.1,.int .i64 r15.2.2.1,.int .i64 r15.2.2.2.1],.int .i64 0]) tB fun r16 =>
 .ite (!r16) (
 .ret #[]) (
 .op (am ar (.pointer (some r7))) tI fun r17 =>
 .ite ((r17:Int)==10) (
 .ret #[]) (
 .out 0 [.int .i64 (IntKind.i64.wrap (x5.1+1))])))))
theorem B1 (a0_yield:Value) (a1_a1:Addr):cc Tryz.prog Tryz.f70 Az [a0_yield,.pointer (some a1_a1)]=oH a0_yield a1_a1:=by kernel_rfl
theorem CK {ε σ β:Type} {I:aN ε σ} {t:Ty} {s:Sp ε σ β} {Rel:β→t.den→ak→Fact} {Γ:List Fact} (a0_yield:Value) (a1_a1:Addr) (h:Sim Tryz.prog I t Rel noLabel none (oH a0_yield a1_a1) s [] Γ):MeetsO Tryz.prog I (aa fq #[a0_yield,.pointer (some a1_a1)]) t s Rel Γ :=
 aq (args:=[a0_yield,.pointer (some a1_a1)]) Tryz.func70 rfl rfl (Nat.le_of_ble_eq_true rfl) (by rw [B1]; exact h)
def BI:An :=
 .s (.r [none,none]) (.s (.r [none,none,none]) (.s (.s (.r [none,none,none]) (.b (.l [(6,.b (.int .i64)),(7,.b (.int .i64)),(8,.b (.int .i64)),(13,.b (.int .i64))] (.s (.r [none]) (.s (.c (.x) (.x)) (.s (.b (.s (.r [none,some tA,some (.c (.agg [.int .i64,.str,.int .i64,.int .i64])),some tA,none,some tU]) (.s (.r [none,some (.c (.agg [.int .i64,.str,.int .i64,.int .i64])),some tI,none,none,none]) (.s (.r [none,none,none,none]) (.s (.r [none,none,none,none,none,none,none]) (.c (.r [none,none]) (.x))))))) (.r [none,none]))))))) (.s (.r [none,none,none,none]) (.x))))
def pH (a0_l:Option Addr × Nat × Nat) (a1_most:Int):T :=
 .loop 0 [.b (.int .i64),.b (.int .i64),.b (.int .i64),.b (.int .i64)] [.int .i64 0,.int .i64 0,.int .i64 (-1),.int .i64 0] fun x1 =>
 .ite (decide ((x1.2.2.2.1:Int) < (a0_l.2.1:Int))) (
 .op (bQ aw (.slice a0_l.1 a0_l.2.1 a0_l.2.2) (.int .i64 x1.2.2.2.1)) tA fun r2 =>
 .op (am ad (.pointer (some r2))) (.c (.agg [.int .i64,.str,.int .i64,.int .i64])) fun r3 =>
 .op (bD ad) tA fun r4 =>
 .op (a7 ad (.pointer (some r4)) (.agg #[.int .i64 r3.1,.string r3.2.1,.int .i64 r3.2.2.1,.int .i64 r3.2.2.2.1])) tU fun _ =>
 .op (am ad (.pointer (some r4))) (.c (.agg [.int .i64,.str,.int .i64,.int .i64])) fun r6 =>
 .op (aa lZ #[.agg #[.int .i64 r6.1,.string r6.2.1,.int .i64 r6.2.2.1,.int .i64 r6.2.2.2.1]]) tI fun r7 =>
 .ite (decide ((if (IntKind.i64.wrap (x1.1+r7):Int) > 0 then IntKind.i64.wrap (x1.1+r7) else 0:Int) > a1_most)) (
 .ite (decide ((x1.2.2.1:Int) < 0)) (
 .out 0 [.int .i64 (if (IntKind.i64.wrap (x1.1+r7):Int) > 0 then IntKind.i64.wrap (x1.1+r7) else 0),.int .i64 (if (if (IntKind.i64.wrap (x1.1+r7):Int) > 0 then IntKind.i64.wrap (x1.1+r7) else 0:Int) > x1.2.1 then if (IntKind.i64.wrap (x1.1+r7):Int) > 0 then IntKind.i64.wrap (x1.1+r7) else 0 else x1.2.1),.int .i64 x1.2.2.2.1,.int .i64 (IntKind.i64.wrap (x1.2.2.2.1+1))]) (
 .out 0 [.int .i64 (if (IntKind.i64.wrap (x1.1+r7):Int) > 0 then IntKind.i64.wrap (x1.1+r7) else 0),.int .i64 (if (if (IntKind.i64.wrap (x1.1+r7):Int) > 0 then IntKind.i64.wrap (x1.1+r7) else 0:Int) > x1.2.1 then if (IntKind.i64.wrap (x1.1+r7):Int) > 0 then IntKind.i64.wrap (x1.1+r7) else 0 else x1.2.1),.int .i64 x1.2.2.1,.int .i64 (IntKind.i64.wrap (x1.2.2.2.1+1))])) (
 .out 0 [.int .i64 (if (IntKind.i64.wrap (x1.1+r7):Int) > 0 then IntKind.i64.wrap (x1.1+r7) else 0),.int .i64 (if (if (IntKind.i64.wrap (x1.1+r7):Int) > 0 then IntKind.i64.wrap (x1.1+r7) else 0:Int) > x1.2.1 then if (IntKind.i64.wrap (x1.1+r7):Int) > 0 then IntKind.i64.wrap (x1.1+r7) else 0 else x1.2.1),.int .i64 x1.2.2.1,.int .i64 (IntKind.i64.wrap (x1.2.2.2.1+1))])) (
 .ret #[.v (.int .i64 x1.2.1),.v (.int .i64 x1.2.2.1)])
theorem Dh (a0_l:Option Addr × Nat × Nat) (a1_most:Int):cc Tryz.prog Tryz.f49 BI [.slice a0_l.1 a0_l.2.1 a0_l.2.2,.int .i64 a1_most]=pH a0_l a1_most:=by kernel_rfl
theorem Do {ε σ β:Type} {I:aN ε σ} {t:Ty} {s:Sp ε σ β} {Rel:β→t.den→ak→Fact} {Γ:List Fact} (a0_l:Option Addr × Nat × Nat) (a1_most:Int) (h:Sim Tryz.prog I t Rel noLabel none (pH a0_l a1_most) s [] Γ):MeetsO Tryz.prog I (aa pC #[.slice a0_l.1 a0_l.2.1 a0_l.2.2,.int .i64 a1_most]) t s Rel Γ :=
 aq (args:=[.slice a0_l.1 a0_l.2.1 a0_l.2.2,.int .i64 a1_most]) Tryz.func49 rfl rfl (Nat.le_of_ble_eq_true rfl) (by rw [Dh]; exact h)
def xQ:An :=
 .s (.r [some tA,none,none]) (.s (.r [none,some (.tup [.b .slice,.b (.int .i64),.b (.int .i64)]),none,none,none,none,none,none,none]) (.s (.s (.r [none,none]) (.c (.s (.r [none,none,none,some tU,none,none]) (.x)) (.x))) (.s (.s (.r [none,some (.tup [.b (.int .i64),.b (.int .i64)]),none,none,none,none,none]) (.s (.r [none,none]) (.c (.s (.d (.q 0 none (.q 1 none (.q 2 none (.q 3 (some tA) (.q 4 none (.q 5 (some tI) (.l 6 (some tU) (.q 7 none (.q 8 none (.e))))))))))) (.x)) (.x)))) (.s (.r [none,none,some (.tup [.agg [.slice],.b (.int .i64),.b .bool]),none,none,none,none,some tA,some tU,none,none]) (.s (.s (.r [none,none]) (.c (.s (.r [none,none,some tU,none,none]) (.x)) (.x))) (.s (.r [some (.c (.agg [.slice])),some tU,none,none]) (.x)))))))
def ni (a0_b:Option Addr × Nat × Nat) (a1_kind:Int):T :=
 .op (bD aB) tA fun r1 =>
 .op (aa ob #[.slice a0_b.1 a0_b.2.1 a0_b.2.2]) (.tup [.b .slice,.b (.int .i64),.b (.int .i64)]) fun r2 =>
 .ite ((r2.2.2.1:Int) != 0) (
 .op (a7 aB (.pointer (some r1)) (.agg #[.slice none 0 0])) tU fun _ =>
 .ret #[.c (.pointer (some r1)) aB,.v (.int .i64 r2.2.1),.v (.int .i64 r2.2.2.1)]) (
 .op (aa pC #[.slice r2.1.1 r2.1.2.1 r2.1.2.2,.int .i64 64]) (.tup [.b (.int .i64),.b (.int .i64)]) fun r4 =>
 .ite (decide ((r4.2.1:Int)≥0)) (
 .draw <|
 .opq (bQ aw (.slice r2.1.1 r2.1.2.1 r2.1.2.2) (.int .i64 r4.2.1)) tA fun r5 =>
 .opq (am ar (.pointer (some ⟨r5.block,r5.off+2,none⟩))) tI fun r6 =>
 .opl (a7 aB (.pointer (some r1)) (.agg #[.slice none 0 0])) tU fun _ =>
 .ret #[.c (.pointer (some r1)) aB,.v (.int .i64 r6),.v (.int .i64 5)]) (
 .op (aa oq #[.slice r2.1.1 r2.1.2.1 r2.1.2.2,.int .i64 a1_kind]) (.tup [.agg [.slice],.b (.int .i64),.b .bool]) fun r8 =>
 .op (bD aB) tA fun r9 =>
 .op (a7 aB (.pointer (some r9)) (.agg #[.slice r8.1.1.1 r8.1.1.2.1 r8.1.1.2.2])) tU fun _ =>
 .ite (!r8.2.2.1) (
 .op (a7 aB (.pointer (some r1)) (.agg #[.slice none 0 0])) tU fun _ =>
 .ret #[.c (.pointer (some r1)) aB,.v (.int .i64 r8.2.1),.v (.int .i64 6)]) (
 .op (am aB (.pointer (some r9))) (.c (.agg [.slice])) fun r12 =>
 .op (a7 aB (.pointer (some r1)) (.agg #[.slice r12.1.1 r12.1.2.1 r12.1.2.2])) tU fun _ =>
 .ret #[.c (.pointer (some r1)) aB,.v (.int .i64 0),.v (.int .i64 0)])))
theorem Av (a0_b:Option Addr × Nat × Nat) (a1_kind:Int):cc Tryz.prog Tryz.f33 xQ [.slice a0_b.1 a0_b.2.1 a0_b.2.2,.int .i64 a1_kind]=ni a0_b a1_kind:=by kernel_rfl
theorem Ag {ε σ β:Type} {I:aN ε σ} {t:Ty} {s:Sp ε σ β} {Rel:β→t.den→ak→Fact} {Γ:List Fact} (a0_b:Option Addr × Nat × Nat) (a1_kind:Int) (h:Sim Tryz.prog I t Rel noLabel none (ni a0_b a1_kind) s [] Γ):MeetsO Tryz.prog I (aa mF #[.slice a0_b.1 a0_b.2.1 a0_b.2.2,.int .i64 a1_kind]) t s Rel Γ :=
 aq (args:=[.slice a0_b.1 a0_b.2.1 a0_b.2.2,.int .i64 a1_kind]) Tryz.func33 rfl rfl (Nat.le_of_ble_eq_true rfl) (by rw [Av]; exact h)
def un:An :=
 .s (.r [some tA,none,none]) (.s (.r [none,some (.tup [.agg [.slice],.b (.int .i64),.b (.int .i64)]),none,none,none,some tU,none,none]) (.x))
def kC (a0_b:Option Addr × Nat × Nat):T :=
 .op (bD aB) tA fun r1 =>
 .op (aa mF #[.slice a0_b.1 a0_b.2.1 a0_b.2.2,.int .i64 0]) (.tup [.agg [.slice],.b (.int .i64),.b (.int .i64)]) fun r2 =>
 .op (a7 aB (.pointer (some r1)) (.agg #[.slice r2.1.1.1 r2.1.1.2.1 r2.1.1.2.2])) tU fun _ =>
 .ret #[.c (.pointer (some r1)) aB,.v (.int .i64 r2.2.1),.v (.int .i64 r2.2.2.1)]
theorem vc (a0_b:Option Addr × Nat × Nat):cc Tryz.prog Tryz.f16 un [.slice a0_b.1 a0_b.2.1 a0_b.2.2]=kC a0_b:=by kernel_rfl
theorem wP {ε σ β:Type} {I:aN ε σ} {t:Ty} {s:Sp ε σ β} {Rel:β→t.den→ak→Fact} {Γ:List Fact} (a0_b:Option Addr × Nat × Nat) (h:Sim Tryz.prog I t Rel noLabel none (kC a0_b) s [] Γ):MeetsO Tryz.prog I (aa ii #[.slice a0_b.1 a0_b.2.1 a0_b.2.2]) t s Rel Γ :=
 aq (args:=[.slice a0_b.1 a0_b.2.1 a0_b.2.2]) Tryz.func16 rfl rfl (Nat.le_of_ble_eq_true rfl) (by rw [vc]; exact h)
end
end Go.Proofs.YtjlgcpgjdgeejaaGreatDoor
end

section
namespace Go.Proofs.YtjlgcpgjdgeejaaGreatDoor
open Go
set_option linter.unusedSimpArgs false
set_option linter.unusedVariables false
set_option linter.constructorNameAsVariable false
set_option maxRecDepth 100000
section
variable {ε σ β:Type} {P:Program} {I:aN ε σ} {t:Ty} {Rel:β→t.den→ak→Fact} {Δ:Labels ε σ β} {md:cS} {L:ak} {Γ:List Fact} {st:σ} {run:Option (Res ε σ β)}
theorem sj {m:T}:∀ (K:ak) {Γ:List Fact} {md:cS},(∀ Γ',(∀ A∈Γ,A∈Γ')→(∀ p∈K,Fact.at p.1 p.2∈Γ')→ay P I t Rel Δ none st m run L Γ')→ay P I t Rel Δ md st m run (K++L) Γ
 | [],Γ,md,h=>gM (h Γ (fun A h=>h) (fun p h=>nomatch h))
 | p::K,Γ,md,h=>qI (sj K fun Γ' h1 h2=>h Γ' (fun A hA=>h1 A (List.mem_cons_of_mem _ hA)) fun q hq=>by
   rcases List.mem_cons.1 hq with rfl | hq
   ·exact h1 _ (List.mem_cons_self ..)
   ·exact h2 q hq)
end
theorem nP (b:ByteArray):(rows dL b.data.toList).length=b.size:=by
 rw [dz pt]; simp
theorem C3 (b:ByteArray):∀ u∈rows dL b.data.toList,u.oneCell'=true:=by
 intro u hu
 simp only [rows,List.mem_flatMap] at hu
 obtain ⟨x,_,hx⟩:=hu
 simp only [dL,List.mem_singleton] at hx
 subst hx; rfl
def OwnB (b:ByteArray) (x:aV) (K:ak):Fact:=Fact.prop (Buf ax 1 x (rows dL b.data.toList) K)
theorem OwnB.byF {b:ByteArray} {x:aV} {K:ak} {F:Heap} (h:Buf ax 1 x (rows dL b.data.toList) K) (hK:∀ p∈K,F p.1=some p.2):(ByF x b).p F:=by
 have hlen:x.2.1=b.size:=by have h1:=Buf.len h; rw [nP] at h1; omega
 rcases h with ⟨_,rfl,h3⟩ | ⟨g,cells,rfl,h2,h3,h4,h5,h6,h7⟩
 ·exact ⟨hlen,Nat.le_refl _,.inl hlen.symm⟩
 ·refine ⟨hlen,h4,.inr ⟨⟨g,0,none⟩,cells.toArray,ax,(0,0),h2,rfl,hK _ (List.mem_cons_self ..),fun i hi=>?_⟩⟩
  have h8:=nT pt b.data.toList i b[i] (vh b i hi)
  rw [← h7,List.drop_take,List.take_take] at h8
  have h9:((cells.drop (i * 1)).take (min 1 (x.2.1 * 1 - i * 1)))[0]? = (dL b[i])[0]?:=by rw [h8]
  rw [List.getElem?_take,if_pos (by omega),List.getElem?_drop] at h9
  simpa [dL] using h9
theorem Fm (w:World):(aG aj 0 #[]).run PG w=.ok (.value (.slice (some ⟨w.heap.size,0,none⟩) 0 0)) (w.alloc (ap ax [])):=by
 have h1:PG.underlying aj=some (.slice ax):=by kernel_rfl
 have h2:cK PG ax=some (false,1):=by kernel_rfl
 simp only [aG,cG,Instr.buildSlice,run_underlying h1,(dG h2).2,Sem.run_bind,Result.andThen_ok,Sem.run_pure]
 have h0:Array.range 0=#[]:=rfl
 simp [newRow,ap,Instr.fill,h0]
theorem I4 {ε:Type} (sl:aV) (b:ByteArray) (hb:b.size≤17179869184):MeetsO PG (I0:aN ε Unit) (aa fi #[.slice sl.1 sl.2.1 sl.2.2]) ai (Pure.pure ():Sp ε Unit Unit) (fun _ x K=>OwnB b x K) [ByF sl b]:=by
 refine oQ sl (c5 fun st=>?_)
 unfold fo
 have h1:PG.underlying aj=some (.slice ax):=by kernel_rfl
 refine dK (t1:=tB) sl.1.isNone (PVal.pure fun w=>?_) (aT (fun h=>?_) (fun h=>?_))
 ·simp [cU,cG,eqGuard,binOp,run_equal_slice_nil w aj ax sl.1 sl.2.1 sl.2.2 h1]
  rfl
 ·refine fk (φ:=rows dL b.data.toList=[]) (fun F hF=>?_) fun h0=>?_
  ·obtain ⟨_,_,hs⟩:=hF (ByF sl b) (by repeat (first | exact mz | apply ms))
   rcases hs with hs | ⟨a,_,_,_,ha,_⟩
   ·exact List.eq_nil_of_length_eq_zero (by rw [nP]; exact hs)
   ·have:sl.1.isNone=true:=h
    rw [ha] at this; cases this
  ·exact me () [] (none,0,0) (List.nil_sublist _) rfl (fun r w F H _ _=>by rw [fJ]; rfl) fun F hF=>.inl ⟨rfl,rfl,h0⟩
 ·have hs:∃ a,sl.1=some a:=by
   have:sl.1.isNone=false:=h
   cases ha:sl.1 with
   | none=>rw [ha] at this; cases this
   | some a=>exact ⟨a,rfl⟩
  obtain ⟨a,ha⟩:=hs
  refine cT (post:=fun y L' Γ'=>∃ g,y=(some ⟨g,0,none⟩,0,0)∧L'=[(g,ap ax [])]∧Γ'=[ByF sl b]) (Loc.val fun r w F H hF hsp=>⟨(some ⟨w.heap.size,0,none⟩,0,0),_,_,_,F,.inl (Fm w),Heap.le.refl F,hF,(hsp.new _).perm (List.perm_middle),w.heap.size,rfl,rfl,rfl⟩) ?_
  rintro _ _ _ ⟨g,rfl,rfl,rfl⟩
  have hB0:Buf ax 1 (some ⟨g,0,none⟩,0,0) [] [(g,ap ax [])]:=.inr ⟨g,[],rfl,rfl,rfl,Nat.le_refl _,Nat.zero_le _,rfl,rfl⟩
  refine fX (by repeat (first | exact mz | apply ms)) fun hl=>?_
  by_cases hz:b.size=0
  ·have h0:rows dL b.data.toList=[]:=List.eq_nil_of_length_eq_zero (by rw [nP]; exact hz)
   refine dK (t1:=ai) ((some ⟨g,0,none⟩,0,0):aV) (PVal.pure fun w=>?_) ?_
   ·have h2:cK PG ax=some (false,1):=by kernel_rfl
    show (cW #[aj,aj] aj #[.slice (some ⟨g,0,none⟩) 0 0,.slice sl.1 sl.2.1 sl.2.2]).run PG w=_
    rw [hl,hz,ha]
    simp [cW,cG,Builtin.append_,run_underlying h1,(dG h2).2,Builtin.lenOf,Builtin.firstCells,storeCells,loadCells]
    rfl
   ·exact me () [(g,ap ax [])] ((some ⟨g,0,none⟩,0,0):aV) (List.Sublist.refl _) rfl (fun r w F H _ _=>by rw [fJ]; rfl) fun F hF=>by show Buf _ _ _ _ _; rw [h0]; exact hB0
  ·refine fk (φ:=a.spot=none) (fun F hF=>by
    obtain ⟨a',h1,h2⟩:=ByF.addr (hF (ByF sl b) (by repeat (first | exact mz | apply ms))) (by omega)
    rw [ha] at h1; cases h1; exact h2) fun hsp'=>?_
   refine gM ?_
   ·rw [hl,ha]
    refine cT (t6 (L0:=[]) (K:=[(g,ap ax [])]) (x:=(some ⟨g,0,none⟩,0,0)) (xs:=[]) (size:=1) (bytes:=1) (e:=ax) (m:=b.size) (a:=a) (news:=rows dL b.data.toList) (by kernel_rfl) rfl hB0 (fun r w F H hF hsp j u hj=>?_) (by rw [nP,Nat.mul_one]) (by omega) (C3 b) (by simp; omega) (by simp; omega)) ?_
    ·have hjl:j < b.size:=by
      rcases Nat.lt_or_ge j b.size with h | h
      ·exact h
      ·rw [List.getElem?_eq_none (by rw [nP]; exact h)] at hj; cases hj
     have hB:=ByF.bytes (hF (ByF sl b) (by repeat (first | exact mz | apply ms))) ha hsp.stab j hjl
     have h8:=nT pt b.data.toList j b[j] (vh b j hjl)
     have h9:(((rows dL b.data.toList).drop (j * 1)).take 1)[0]? = (dL b[j])[0]?:=by rw [h8]
     rw [List.getElem?_take,if_pos (by decide),List.getElem?_drop,Nat.mul_one,Nat.add_zero,hj] at h9
     obtain rfl:u=.int .u8 (b[j].toNat:Int):=by simpa [dL] using h9
     obtain ⟨x1,x2,x3⟩:=dQ a hsp' j
     rw [← hB]
     cases hh:a.add j with
     | mk p o sp=>rw [hh] at x1 x2 x3; simp only at x1 x2 x3; subst x1; subst x2; subst x3; rfl
    rintro x _ _ ⟨K',rfl,rfl,hx,hb'⟩
    refine me () K' x (by simp) rfl (fun r w F H _ _=>by rw [fJ]; rfl) fun F hF=>?_
    show Buf ax 1 x (rows dL b.data.toList) K'
    simpa using hb'
def IF (b:ByteArray) (v:Value):Fact:=Fact.ex fun bb:Nat=>Fact.ex fun sl:aV=>(Fact.prop (v=.func (.func fq) #[] #[.pointer (some ⟨bb,0,none⟩)])).both ((Fact.at bb (ap aj [.slice sl.1 sl.2.1 sl.2.2])).both (ByF sl b))
theorem Gl {ε:Type} (sl:aV) (b:ByteArray) (hb:b.size≤17179869184):Meets PG (I0:aN ε Unit) (aa qS #[.slice sl.1 sl.2.1 sl.2.2]) tV (Pure.pure ():Sp ε Unit Unit) (fun _ v=>IF b v) [ByF sl b]:=by
 refine EJ sl (c5 fun st=>?_)
 unfold qT
 refine cT (nV _) ?_
 rintro _ _ _ ⟨bb,rfl,rfl,rfl⟩
 refine fQ (b1:=.slice) sl (List.mem_cons_self ..) (by kernel_rfl) rfl rfl ?_
 refine vv (I4 sl b hb) (by simp) fun x K=>?_
 refine cT (br (L1:=K) (L2:=[]) (l:=[.slice sl.1 sl.2.1 sl.2.2]) (T:=aj) (T0:=aj) (c:=false) rfl (by kernel_rfl) rfl (Nat.le_of_ble_eq_true rfl) (by simp [Value.cells,Value.oneCell'])) ?_
 rintro _ _ _ ⟨rfl,rfl⟩
 refine bX fun F0 hB=>?_
 have hB':Buf ax 1 x (rows dL b.data.toList) K:=hB
 refine Gh (L':=K++[(bb,ap aj [.slice x.1 x.2.1 x.2.2])]) (List.Perm.refl _) (sj K fun Γ' h1 h2=>qI ?_)
 refine eW (t:=tV) () (Value.func (.func fq) #[] #[.pointer (some ⟨bb,0,none⟩)]) rfl (fun r w F H _ _=>by rw [fJ]; rfl) fun F hF=>?_
 exact ⟨bb,x,rfl,hF _ (by repeat (first | exact mz | apply ms)),OwnB.byF hB' fun p hp=>hF _ (List.mem_cons_of_mem _ (h2 p hp))⟩
def Kx (sl:aV) (x:Option Addr) (K:ak):Fact:=Fact.ex fun pb:Nat=>Fact.prop (x=some ⟨pb,0,none⟩∧K=[(pb,ap ck (eg sl 0 (none,0,0)))])
theorem Jf {ε:Type} (sl:aV):MeetsO PG (I0:aN ε Unit) (aa oP #[.slice sl.1 sl.2.1 sl.2.2]) tP (Pure.pure ():Sp ε Unit Unit) (fun _ x K=>Kx sl x K) []:=by
 refine Ca sl (c5 fun st=>?_)
 unfold oD
 refine cT (nV _) ?_
 rintro _ _ _ ⟨pb,rfl,rfl,rfl⟩
 exact me () [(pb,ap ck (eg sl 0 (none,0,0)))] (some ⟨pb,0,none⟩) (List.Sublist.refl _) rfl (fun r w F H _ _=>by rw [fJ]; rfl) fun F hF=>⟨pb,rfl,rfl⟩
theorem I6 {σ:Type} (I:aN Empty σ) (b:ByteArray) (sl:aV) (bb:Nat) (yv:Value) (yS:Tok→Int→Sp Empty σ Bool) (Γ0:List Fact)
  (hy:∀ (t:Tok) (e:Int),Meets PG I (dE yv #[.agg #[.int .i64 t.1,.string t.2.1,.int .i64 t.2.2.1,.int .i64 t.2.2.2.1],.int .i64 e]) tB (yS t e) bm Γ0) :
  Meets PG I (aa fq #[yv,.pointer (some ⟨bb,0,none⟩)]) tU (kp yS b) (fun _ _=>Fact.prop True) (Fact.at bb (ap aj [.slice sl.1 sl.2.1 sl.2.2])::ByF sl b::MxF::Γ0):=by
 have bindN:∀ {α β:Type} {x:Sp Empty σ α} {f:α→Sp Empty σ β} {st:σ},x st=none→(x>>=f) st=none:=fun h=>by
  show Sp.bind _ _ _=none
  unfold Sp.bind; rw [h]
 have bindO:∀ {α β:Type} {x:Sp Empty σ α} {f:α→Sp Empty σ β} {st st':σ} {a:α},x st=some (.ok a st')→(x>>=f) st=f a st':=fun h=>by
  show Sp.bind _ _ _=_
  unfold Sp.bind; rw [h]
 refine CK yv ⟨bb,0,none⟩ (c5 fun st=>?_)
 unfold oH
 have ldB:∀ {L:ak} {Γ:List Fact} {st:σ} {k:aV→T} {run} {Δ:Labels Empty σ Unit} {Rel:Unit→tU.den→ak→Fact},Fact.at bb (ap aj [.slice sl.1 sl.2.1 sl.2.2])∈Γ→ay PG I tU Rel Δ none st (k sl) run L Γ→ay PG I tU Rel Δ none st (.op (am aj (.pointer (some ⟨bb,0,none⟩))) ai k) run L Γ:=fun hm hk=>by
  refine cT (dt (b1:=.slice) sl (Rd.at hm) (by kernel_rfl) rfl rfl) ?_
  rintro _ _ _ ⟨rfl,rfl,rfl⟩
  exact hk
 refine ldB (by repeat (first | exact mz | apply ms)) (fX (b:=b) (by repeat (first | exact mz | apply ms)) fun hl=>aT (fun h=>?_) (fun h=>?_))
 ·have hgt:b.size > 65536:=by have:=of_decide_eq_true h; omega
  have hrun:kp yS b st=(yS bt 2>>=fun _=>Pure.pure ()) st:=by unfold kp; rw [if_pos hgt]
  rw [hrun]
  refine eb (hy bt 2) (fun A hA=>by repeat (first | exact hA | apply List.mem_cons_of_mem)) (fun h=>bindN h) (fun e=>e.elim) fun x c st' h=>?_
  rw [bindO h]
  exact eW (t:=tU) () () rfl (fun r w F H _ _=>by rw [iH]; rfl) fun F hF=>trivial
 ·have hle:b.size≤65536:=by have:=of_decide_eq_false h; omega
  have hrun:kp yS b st=fu yS b 8194 0 ⟨0,[]⟩ st:=by unfold kp; rw [if_neg (by omega)]
  rw [hrun]
  refine ldB (by repeat (first | exact mz | apply ms)) ?_
  refine vv (Jf sl) (fun _ h=>nomatch h) fun x K=>G9 fun pb=>bX fun F0 hx=>?_
  obtain ⟨rfl,rfl⟩:=hx
  refine sH (δ:=Nat × cM) (fun d=>((d.1:Int),())) (fun d L'=>(Fact.prop (d.1≤8192)).both ((SI b sl pb).inv d.2 L')) (fun f d=>fu yS b f d.1 d.2) 8194 (0,⟨0,[]⟩) rfl rfl (fun d st=>rfl) (fun F hF=>⟨Nat.zero_le _,(none,0,0),[],rfl,Buf.nil _ _,Nat.zero_le _⟩) ?_
  rintro f ⟨n,s⟩ L' st
  refine jy (bX fun F1 hn=>?_)
  have hn:n≤8192:=hn
  have hdef:∀ st,fu yS b (f+1) n s st=(match pk b s with
   | none=>none
   | some ((t,ok),s') =>
    if !ok then (yS ⟨0,kE,t.pos,0,()⟩ 3>>=fun _=>Pure.pure ()) st
    else if n==8192&&t.kind != 10 then (yS ⟨0,kE,t.pos,0,()⟩ 4>>=fun _=>Pure.pure ()) st
    else (yS t 0>>=fun c=>if !c then Pure.pure () else if t.kind==10 then Pure.pure () else fu yS b f (n+1) s') st):=fun st=>rfl
  show ay _ _ _ _ _ _ _ _ (fu yS b (f+1) n s st) _ _
  refine Gh (L':=L'++[]) (by rw [List.append_nil]) (KV (I2:=SI b sl pb) (st2:=s) (L0:=[]) (Ku (sl:=sl) (pb:=pb) hle) (by simp) (fun F hF=>hF _ (List.mem_cons_self ..)) (fun h=>?_) (fun e=>e.elim) fun x c s2 H2 h=>?_)
  ·cases h2:pk b s with
   | none=>rw [hdef,h2]
   | some y=>simp only [sG,h2] at h; cases h
  cases h2:pk b s with
  | none=>simp only [sG,h2] at h; cases h
  | some y =>
  obtain ⟨⟨t,ok⟩,s'⟩:=y
  simp only [sG,h2,Option.map_some,GF,Option.some.injEq,Res.ok.injEq] at h
  obtain ⟨rfl,rfl⟩:=h
  simp only [h2] at hdef
  refine wC (A:=(SI b sl pb).inv s' H2) (fun F hF=>hF _ (List.mem_cons_self ..)) (fk (φ:=x=(t,ok,())) (fun F hF=>hF _ (List.mem_cons_of_mem _ (List.mem_cons_of_mem _ (List.mem_cons_self ..)))) fun hx=>?_)
  subst hx
  rw [List.append_nil]
  refine rM t fun b7=>?_
  have tail:∀ {Δ:Labels Empty σ Unit} {L:ak} {Γ:List Fact} {st:σ} (t':Tok) (e:Int),(∀ A∈Γ0,A∈Γ)→ay PG I tU (pl fun _ _=>Fact.prop True) Δ none st (.op (dE yv #[.agg #[.int .i64 t'.1,.string t'.2.1,.int .i64 t'.2.2.1,.int .i64 t'.2.2.2.1],.int .i64 e]) tB fun _=>.ret #[]) ((yS t' e>>=fun _=>Pure.pure ()) st) L Γ:=fun t' e hΓ =>
   eb (hy t' e) hΓ (fun h=>bindN h) (fun e=>e.elim) fun x c st' h=>by
    rw [bindO h]
    exact eW (t:=tU) () () rfl (fun r w F H _ _=>by rw [iH]; rfl) fun F hF=>trivial
  have hGm:∀ {Γ:List Fact},(∀ A∈(Fact.at bb (ap aj [.slice sl.1 sl.2.1 sl.2.2])::ByF sl b::MxF::Γ0),A∈Γ)→∀ A∈Γ0,A∈Γ:=fun h A hA=>h A (List.mem_cons_of_mem _ (List.mem_cons_of_mem _ (List.mem_cons_of_mem _ hA)))
  cases ok with
  | false =>
   refine aT (fun _=>?_) (fun h=>by cases h)
   refine fQ (b1:=.int .i64) t.pos (List.mem_cons_self ..) (by kernel_rfl) rfl rfl ?_
   rw [hdef,if_pos (show (!false)=true from rfl)]
   exact tail (0,kE,t.pos,0,()) 3 (fun A hA=>by repeat (first | exact hA | apply List.mem_cons_of_mem))
  | true =>
  refine aT (fun h=>by cases h) (fun _=>?_)
  have hdef:∀ st,fu yS b (f+1) n s st=if n==8192&&t.kind != 10 then (yS ⟨0,kE,t.pos,0,()⟩ 4>>=fun _=>Pure.pure ()) st
    else (yS t 0>>=fun c=>if !c then Pure.pure () else if t.kind==10 then Pure.pure () else fu yS b f (n+1) s') st:=fun st=>by
   rw [hdef,if_neg (by decide)]
  refine kU (fun x st=>if x.1=(n==8192&&t.kind != 10) then fu yS b (f+1) n s st else none) ?_ fun y st2=>?_
  ·refine aT (fun h=>?_) (fun h=>?_)
   ·have hn8:(n==8192)=true:=by have h3:(n:Int)=8192:=eq_of_beq h; exact beq_iff_eq.2 (by omega)
    refine fQ (b1:=.int .i64) t.kind (List.mem_cons_self ..) (by kernel_rfl) rfl rfl ?_
    exact em (s':=fun (x:HC [.b .bool]) st=>if x.1=(n==8192&&t.kind != 10) then fu yS b (f+1) n s st else none) ((t.kind != 10:Bool),()) co rfl (by rw [if_pos (by rw [hn8,Bool.true_and])])
   ·have hn8:(n==8192)=false:=by
     have h3:¬ (n:Int)=8192:=fun h3=>by have h4:((n:Int)==8192)=false:=h; rw [h3] at h4; cases h4
     exact beq_eq_false_iff_ne.2 (by omega)
    exact em (s':=fun (x:HC [.b .bool]) st=>if x.1=(n==8192&&t.kind != 10) then fu yS b (f+1) n s st else none) (false,()) co rfl (by rw [if_pos (by rw [hn8,Bool.false_and])])
  ·obtain ⟨(c:Bool),⟨⟩⟩:=y
   by_cases hc:c=(n==8192&&t.kind != 10)
   case neg=>exact cZ (if_neg hc)
   show ay _ _ _ _ _ _ _ _ (if c=(n==8192&&t.kind != 10) then _ else none) _ _
   rw [if_pos hc,hdef,← hc]
   refine aT (fun h=>?_) (fun h=>?_)
   ·rw [if_pos h]
    refine fQ (b1:=.int .i64) t.pos (List.mem_cons_self ..) (by kernel_rfl) rfl rfl ?_
    exact tail (0,kE,t.pos,0,()) 4 (fun A hA=>by repeat (first | exact hA | apply List.mem_cons_of_mem))
   ·obtain rfl:c=false:=h
    rw [if_neg (show ¬ false=true by decide)]
    refine nB t (List.mem_cons_self ..) ?_
    refine eb (hy t 0) (fun A hA=>by repeat (first | exact hA | apply List.mem_cons_of_mem)) (fun h=>bindN h) (fun e=>e.elim) fun x c2 st' h2=>?_
    rw [bindO h2]
    refine bX fun F2 hx=>?_
    obtain rfl:c2=x:=(show x=c2 from hx).symm
    cases c2 with
    | false =>
     refine aT (fun _=>?_) (fun h=>by cases h)
     exact eW (t:=tU) () () rfl (fun r w F H _ _=>by rw [iH]; rfl) fun F hF=>trivial
    | true =>
    refine aT (fun h=>by cases h) (fun _=>?_)
    refine fQ (b1:=.int .i64) t.kind (List.mem_cons_self ..) (by kernel_rfl) rfl rfl (aT (fun h=>?_) (fun h=>?_))
    ·have hk:(t.kind==10)=true:=h
     refine eW (t:=tU) () () ?_ (fun r w F H _ _=>by rw [iH]; rfl) fun F hF=>trivial
     show (if (!true)=true then _ else if (t.kind==10)=true then _ else _:Sp Empty σ Unit) st'=_
     rw [if_neg (by decide),if_pos hk]; rfl
    ·have hk:(t.kind==10)=false:=h
     have hn2:n+1≤8192:=by
      have:(n==8192)=false:=by
       cases h8:(n==8192) with
       | false=>rfl
       | true=>rw [h8] at hc; simp only [bne,hk,Bool.not_false,Bool.and_self] at hc; cases hc
      have:=beq_eq_false_iff_ne.1 this
      omega
     refine wt (List.sublist_cons_self ..) ?_
     refine td (l:=0) (n:=f) (ts:=[.b (.int .i64)]) (f:=fun d:Nat × cM=>(((d.1:Int),()):HC [.b (.int .i64)])) (J:=fun d L'=>(Fact.prop (d.1≤8192)).both ((SI b sl pb).inv d.2 L')) (sp:=fun f d=>fu yS b f d.1 d.2) (n+1,s') co ?_ ?_ fun F hF=>⟨hn2,?_⟩
     ·rw [bg (by omega) (by omega)]; rfl
     ·show (if (!true)=true then _ else if (t.kind==10)=true then _ else _:Sp Empty σ Unit) st'=_
      rw [if_neg (by decide),if_neg (by rw [hk]; decide)]
     ·exact hF ((SI b sl pb).inv s' H2) (by repeat (first | exact mz | apply ms))
end Go.Proofs.YtjlgcpgjdgeejaaGreatDoor
end
