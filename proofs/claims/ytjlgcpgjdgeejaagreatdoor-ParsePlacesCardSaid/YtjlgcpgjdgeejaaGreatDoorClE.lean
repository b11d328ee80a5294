/- A part of the claim: general tools, trees of the program, and what its functions come to (PRun to Utf). Conditions: as its theorems say. -/
import Derived.Test.YtjlgcpgjdgeejaaGreatDoorClD
import Derived.Lib.CountLaws
import Derived.Lib.SlBytesConst
import Derived.Lib.Split
import Derived.Test.YtjlgcpgjdgeejaaGreatDoorProg

section
namespace Go.Proofs.YtjlgcpgjdgeejaaGreatDoor
open Go
set_option linter.unusedSimpArgs false
set_option linter.unusedVariables false
set_option linter.constructorNameAsVariable false
set_option maxRecDepth 100000
def sZ (R:a6):Nat→N→PM N
 | 0,_=>Sp.stop
 | k+1,n=>do
  let t ← cj
  cond (t.kind != 10) (do let x ← R.statement; sZ R k (n.push x)) (pure n)
def wJ (R:a6) (whole:Int):PM N:=cond (whole==0) (sZ R R.fuel (aE 3 kE 0 0 [])) (cond (whole==1) R.expr R.typed)
def lO (R:a6) (whole:Int):PM N:=do
 let n ← wJ R whole
 let t ← cj
 cond (t.kind != 10) cz (pure n)
def gn (l:List Tok):PSt:=⟨l,0,bt,false⟩
def kF (fuel:Nat) (l:List Tok) (whole:Int):Option (Sum Int (List FN)):=match lO (de fuel) whole (gn l) with
 | none=>none
 | some (.err y)=>some (.inl y)
 | some (.ok n _)=>if n.size≤549755813888 then some (.inr (dO n.size [(n,-1)] [])) else none
abbrev tRun:Ty:=.tup [.agg [.slice],.b (.int .i64),.b .bool]
def ra (v:Sum Int (List FN)) (x:tRun.den) (K:ak):Fact:=match v with
 | .inl y=>Fact.prop (x=(((none,0,0),()),y,false,())∧K=[])
 | .inr l=>(Fact.prop (x.2=(0,true,()))).both (tl l x.1 K)
theorem GV {R:a6} (hR:cJ R) (pb:Nat) (whole:Int) (hw:whole=0∨whole=1∨whole=2) {Δ:Labels Int PSt N} {t:Ty} {Rel:N→t.den→ak→Fact} :
  Sim PG (PI pb) t Rel (Δ.set 1 (DA NodeF (fun n=>Pure.pure n) [])) none (.ite ((whole:Int)==0) (
   .op (aa al #[.int .i64 3,.string kE,.int .i64 0,.int .i64 0,.slice none 0 0]) tP fun r5 =>
   .loop 2 [] [] fun x6 =>
    .op (aa aL #[.pointer (some (aR pb))]) (.c (.agg [.int .i64,.str,.int .i64,.int .i64])) fun r7 =>
    .ite ((r7.1:Int) != 10) (
     .draw <|
     .opq (cg (.pointer r5)) tA fun r8 =>
     .opq (am ae (.pointer (some ⟨r8.block,r8.off+5,none⟩))) ai fun r9 =>
     .opl (aa dI #[.pointer (some (aR pb))]) tP fun r10 =>
     .opl (aG ae 1 #[(0,.pointer r10)]) ai fun r11 =>
     .opl (cW #[ae,ae] ae #[.slice r9.1 r9.2.1 r9.2.2,.slice r11.1 r11.2.1 r11.2.2]) ai fun r12 =>
     .opq (cg (.pointer r5)) tA fun r13 =>
     .op (a7 ae (.pointer (some ⟨r13.block,r13.off+5,none⟩)) (.slice r12.1 r12.2.1 r12.2.2)) tU fun _ =>
     .out 2 []) (
     .out 1 [.pointer r5])) (
   .ite ((whole:Int)==1) (
    .op (aa bS #[.pointer (some (aR pb))]) tP fun r15 =>
    .out 1 [.pointer r15]) (
    .ite ((whole:Int)==2) (
     .op (aa cI #[.pointer (some (aR pb))]) tP fun r16 =>
     .out 1 [.pointer r16]) (
     .out 1 [.pointer none])))) (wJ R whole) [] []:=by
 unfold wJ
 refine qA (fun h=>?_) (fun h=>?_)
 ·refine gA fun r5 K5=>?_
  refine im (sZ R) R.fuel _ (fun _=>rfl) rfl (by have:=hR.fuel; simp [aE,N.kids]; omega) (by repeat (first | exact mz | apply ms)) fun k n K hn=>?_
  refine ag (bk _) (fun _ h=>nomatch h) fun r7 b=>Sim.prop fun h=>?_
  subst h
  refine qA (fun h=>?_) (fun h=>?_)
  ·refine gr (by repeat (first | exact mz | apply ms)) fun b sl ps K2 hx hb=>?_
   refine ef (hR.statement _) (fun _ h=>nomatch h) fun r10 n10=>?_
   subst hx
   refine gD hb (by repeat (first | exact mz | apply ms)) (by repeat (first | exact mz | apply ms)) (by omega) fun K=>?_
   (first | refine kh _ rfl (by simp [N.push_len] at hn ⊢; omega) (by repeat (first | exact mz | apply ms)) | refine kb _ (by decide) rfl (by simp [N.push_len] at hn ⊢; omega) (by repeat (first | exact mz | apply ms)))
  ·refine dC (n:=n) (x:=r5) (by repeat (first | exact mz | apply ms)) ?_
   exact cQ (x:=DA NodeF (fun n=>Pure.pure n) []) (by simp [Labels.set]) n rfl fun F hF=>⟨r5,⟨rfl,rfl⟩,hF _ (List.mem_cons_self ..)⟩
 ·refine qA (fun h1=>?_) (fun h1=>?_)
  ·refine af (hR.expr _) (fun _ h=>nomatch h) fun r15 n15=>?_
   exact dY _ (by simp [Labels.set]) rfl (fun F hF=>hF _ (List.mem_cons_self ..))
  ·refine qE (fun h2=>?_) (fun h2=>?_)
   ·refine af (hR.typed _) (fun _ h=>nomatch h) fun r16 n16=>?_
    exact dY _ (by simp [Labels.set]) rfl (fun F hF=>hF _ (List.mem_cons_self ..))
   ·simp at h h1 h2; omega
theorem HY (b1 b2 b3:Nat) (w:World):CallsD PG 83 #[.pointer (some (aR b1)),.pointer (some (aR b2)),.pointer (some (aR b3))] .returning w fun e u2 w'=>e=.returned (.tuple #[])∧u2=.returning∧w'=w:=by
 refine ph (aR b1) (aR b2) (aR b3) (Post:=fun w'=>w'=w) (.inl ⟨rfl,rfl,rfl⟩) ?_
 unfold iW
 simp only [T.wp,vm (P:=PG) (t:=gY) (by kernel_rfl),e8]
 exact ⟨true,rfl,fun _=>trivial,fun h=>by cases h⟩
def dp (b1 b2 b3:Nat) (x:aV) (y:Int) (c:Bool):ak:=[(b1,ap aB [.slice x.1 x.2.1 x.2.2]),(b2,ap ar [.int .i64 y]),(b3,ap bE [.bool c])]
theorem Ff {r:fp} {w:World} {L:ak} {F:Heap} (b1 b2 b3:Nat) (y:Int) (x0:aV) (y0:Int) (c0:Bool) (hsp:Split r w (dp b1 b2 b3 x0 y0 c0++L) F) :
  CallsD PG 83 #[.pointer (some (aR b1)),.pointer (some (aR b2)),.pointer (some (aR b3))] (.panicking [{ v:=.iface bO (.agg #[.int .i64 y]),recovered:=false }]) w fun e u2 w' =>
   e=.returned (.tuple #[])∧u2=.panicking [{ v:=.iface bO (.agg #[.int .i64 y]),recovered:=true }]∧∃ F',F.le F'∧Split r w' (dp b1 b2 b3 (none,0,0) y false++L) F':=by
 refine ph (aR b1) (aR b2) (aR b3) (Post:=fun w'=>∃ F',F.le F'∧Split r w' (dp b1 b2 b3 (none,0,0) y false++L) F') (.inr ⟨[],rfl,rfl⟩) ?_
 unfold iW
 refine iz (J:=fun vs L'=>Fact.prop (L'=dp b1 b2 b3 (none,0,0) y false++L)) (Γ:=[]) ?_ (fun _ h=>nomatch h) hsp (fun vs L' F' w' hle hJ hS=>⟨F',hle,(show L'=_ from hJ)▸hS⟩)
 refine bA (eG (t1:=tB) false fun w=>v6 (by kernel_rfl) w) ?_
 rintro _ _ _ ⟨rfl,rfl,rfl⟩
 refine kZ (fun h=>by cases h) (fun _=>?_)
 refine bA (eG (t1:=.tup [.agg [.int .i64],.b .bool]) ((y,()),true,()) fun w=>FV (by kernel_rfl) w) ?_
 rintro _ _ _ ⟨rfl,rfl,rfl⟩
 refine kZ (fun _=>?_) (fun h=>by cases h)
 refine bA (bT (z:=[.int .i64 0]) (by kernel_rfl)) ?_
 rintro _ _ _ ⟨b4,rfl,rfl,rfl⟩
 refine bA (br (L1:=[]) (T:=bO) (c:=true) rfl (by kernel_rfl) rfl (Nat.le_of_ble_eq_true rfl) (by simp [Value.cells,Value.oneCell'])) ?_
 rintro _ _ _ ⟨rfl,rfl⟩
 refine iR [(b4,ap bO [.int .i64 y])] (fun p hp=>by simp at hp; subst hp; exact List.mem_cons_self ..) ?_
 refine c8 (t1:=tI) y (cf (QRd.own (List.mem_cons_self ..)) (by kernel_rfl) rfl rfl) ?_
 refine yV (br (L1:=[_]) (T:=aB) (c:=true) rfl (by kernel_rfl) rfl (Nat.le_of_ble_eq_true rfl) (by simp [Value.cells,Value.oneCell'])) ?_
 rintro _ _ _ ⟨rfl,rfl⟩
 refine ⟨fun p hp=>by simp at hp; subst hp; exact List.mem_cons_self ..,?_⟩
 refine bA (br (L1:=[_,_]) (T:=ar) (c:=false) rfl (by kernel_rfl) rfl (Nat.le_of_ble_eq_true rfl) (by simp [Value.cells,Value.oneCell'])) ?_
 rintro _ _ _ ⟨rfl,rfl⟩
 refine bA (br (L1:=[_,_,_]) (T:=bE) (c:=false) rfl (by kernel_rfl) rfl (Nat.le_of_ble_eq_true rfl) (by simp [Value.cells,Value.oneCell'])) ?_
 rintro _ _ _ ⟨rfl,rfl⟩
 exact D2 (L':=dp b1 b2 b3 (none,0,0) y false++L) (List.sublist_cons_self ..) (ml fun F hF=>rfl)
theorem Dy {P:Program} {l:Nat} {ts:List C} {m:T} {k:HC ts→T} {S:World→Prop} {Φ:Outs} {R:Ending→World→Prop} {w:World}
  (h:m.wp P S (Φ.set l fun vs w'=>∃ x,vs=HC.enc ts x∧(k x).wp P S Φ R w') R w):(T.join l ts m k).wp P S Φ R w:=by simp only [T.wp]; exact h
theorem EZ {P:Program} {s:Sem Next} {t:Ty} {k:t.den→T} {S:World→Prop} {Φ:Outs} {R:Ending→World→Prop} {w:World}
  (h:e8 P (fun v w'=>∃ x:t.den,v=t.enc x∧(k x).wp P S Φ R w') (fun c w'=>R (.panicked c) w') (s.run P w)):(T.op s t k).wp P S Φ R w:=by simp only [T.wp]; exact h
theorem FS {P:Program} {b:Bool} {x y:T} {S:World→Prop} {Φ:Outs} {R:Ending→World→Prop} {w:World} (h1:b=true→x.wp P S Φ R w) (h2:b=false→y.wp P S Φ R w):(T.ite b x y).wp P S Φ R w:=by simp only [T.wp]; exact ⟨h1,h2⟩
theorem JI {P:Program} {l:Nat} {vs:List Value} {S:World→Prop} {Φ:Outs} {R:Ending→World→Prop} {w:World} (h:Φ l vs w):(T.out l vs).wp P S Φ R w:=by simp only [T.wp]; exact h
theorem Ho {w:World} {b1 b2 b3:Nat} {x:aV} {y:Int} {c:Bool} (h1:w.heap[b1]? = some (ap aB [.slice x.1 x.2.1 x.2.2])) (h2:w.heap[b2]? = some (ap ar [.int .i64 y])) (h3:w.heap[b3]? = some (ap bE [.bool c])) :
  (dw #[.c (.pointer (some (aR b1))) aB,.c (.pointer (some (aR b2))) ar,.c (.pointer (some (aR b3))) bE]).run PG w=.ok (tRun.enc ((x,()),y,c,())) w:=by
 have e1:(loadVar aB (aR b1)).run PG w=.ok (.agg #[.slice x.1 x.2.1 x.2.2]) w:=pu (vs:=[.slice x.1 x.2.1 x.2.2]) (by kernel_rfl) h1 rfl rfl
 obtain ⟨n2,hs2⟩:=eV (P:=PG) (t:=ar) (by kernel_rfl)
 obtain ⟨n3,hs3⟩:=eV (P:=PG) (t:=bE) (by kernel_rfl)
 have e2:(loadVar ar (aR b2)).run PG w=.ok (.int .i64 y) w:=j7 hs2 h2 rfl rfl
 have e3:(loadVar bE (aR b3)).run PG w=.ok (.bool c) w:=j7 hs3 h3 rfl rfl
 have:(dw #[.c (.pointer (some (aR b1))) aB,.c (.pointer (some (aR b2))) ar,.c (.pointer (some (aR b3))) bE]).run PG w=.ok (.tuple #[.agg #[.slice x.1 x.2.1 x.2.2],.int .i64 y,.bool c]) w:=by
  simp [dw,RV.sem,asAddr,e1,e2,e3]
 exact this
def iw {ε σ:Type} (fuel:Nat) (l:List Tok) (whole:Int):Sp ε σ (Sum Int (List FN)):=fun st=>match kF fuel l whole with
 | none=>none
 | some v=>some (.ok v st)
theorem Ll (hnum:Fh) {ε σ:Type} (I:aN ε σ) (fuel:Nat) (hfuel:fuel≤549755813888) (sl:aV) (l:List Tok) (hl:(gn l).ok) (whole:Int) (hw:whole=0∨whole=1∨whole=2) :
  MeetsO PG I (aa oq #[.slice sl.1 sl.2.1 sl.2.2,.int .i64 whole]) tRun (iw fuel l whole) ra [Sl 4 aP sl l]:=by
 intro r w F H st res hs hΓ hi hsp
 have hR:=HJ hnum fuel hfuel
 have hsl:=hΓ _ (List.mem_cons_self ..)
 rw [fK Tryz.func53 rfl rfl]
 refine Calls.mono (As sl whole (Mid:=fun vs w'=>∃ b1 b2 b3 b4 F',F.le F'∧vs=[.int .i64 whole,.pointer (some (aR b1)),.pointer (some (aR b2)),.pointer (some (aR b3)),.pointer (some (aR b4))]∧Split r w' ([(b4,ap cF (bF sl (gn l)))]++(dp b1 b2 b3 (none,0,0) 0 false++H)) F')
  (R:=fun e w'=>match e with | .returned v=>Ends I tRun ra r F res (.returned v) w' | .panicked c=>Ends I tRun ra r F res (.panicked c) w' | .outgrown=>False) ?_ ?_ ?_) (fun e w' h=>by cases e<;>exact h)
 ·rintro vs w' ⟨b1,b2,b3,b4,F',_,rfl,_⟩; exact ⟨_,_,_,_,_,rfl⟩
 ·unfold mP
  refine iz (J:=fun vs L'=>Fact.ex fun b1:Nat=>Fact.ex fun b2:Nat=>Fact.ex fun b3:Nat=>Fact.ex fun b4:Nat=>Fact.prop (vs=[.int .i64 whole,.pointer (some (aR b1)),.pointer (some (aR b2)),.pointer (some (aR b3)),.pointer (some (aR b4))]∧L'.Perm ([(b4,ap cF (bF sl (gn l)))]++(dp b1 b2 b3 (none,0,0) 0 false++H)))) (Γ:=[]) (L:=H) ?_ (fun _ h=>nomatch h) hsp ?_
  ·refine bA (bT (z:=[.slice none 0 0]) (by kernel_rfl)) ?_
   rintro _ _ _ ⟨b1,rfl,rfl,rfl⟩
   refine bA (bT (z:=[.int .i64 0]) (by kernel_rfl)) ?_
   rintro _ _ _ ⟨b2,rfl,rfl,rfl⟩
   refine bA (bT (z:=[.bool false]) (by kernel_rfl)) ?_
   rintro _ _ _ ⟨b3,rfl,rfl,rfl⟩
   refine bA (nV _) ?_
   rintro _ _ _ ⟨b4,rfl,rfl,rfl⟩
   refine ml fun F hF=>⟨b1,b2,b3,b4,rfl,?_⟩
   refine List.Perm.cons _ ?_
   show ((b3,_)::(b2,_)::(b1,_)::H).Perm ((b1,_)::(b2,_)::(b3,_)::H)
   exact (List.Perm.swap _ _ _).trans (((List.Perm.swap _ _ _).cons _).trans (List.Perm.swap _ _ _)) |>.trans (by exact List.Perm.refl _)
  ·rintro vs L' F' w' hle ⟨b1,b2,b3,b4,rfl,hp⟩ hS
   exact ⟨b1,b2,b3,b4,F',hle,rfl,hS.perm hp.symm⟩
 ·rintro s1 s4 s5 s6 s7 w1 ⟨b1,b2,b3,b4,F1,hle1,hv,hS⟩
  obtain rfl:s1=whole:=by have:=(List.cons.inj hv).1; cases this; rfl
  obtain rfl:s4=aR b1:=by have:=(List.cons.inj (List.cons.inj hv).2).1; cases this; rfl
  obtain rfl:s5=aR b2:=by have:=(List.cons.inj (List.cons.inj (List.cons.inj hv).2).2).1; cases this; rfl
  obtain rfl:s6=aR b3:=by have:=(List.cons.inj (List.cons.inj (List.cons.inj (List.cons.inj hv).2).2).2).1; cases this; rfl
  obtain rfl:s7=some (aR b4):=by have:=(List.cons.inj (List.cons.inj (List.cons.inj (List.cons.inj (List.cons.inj hv).2).2).2).2).1; cases this; rfl
  have hinv1:((PI b4).inv (gn l) [(b4,ap cF (bF sl (gn l)))]).p F1:=⟨sl,cF,⟨rfl,hl⟩,(Sl 4 aP sl l).mono _ _ hle1 hsl⟩
  -- the end: the results are read
  have fin:∀ (v:Sum Int (List FN)) (x:aV) (y:Int) (c:Bool) (K:ak) (w2:World) (F2:Heap),res=.ok v st→F.le F2→Split r w2 (K++(dp b1 b2 b3 x y c++H)) F2→(ra v ((x,()),y,c,()) K).p F2 →
    ∃ u,(dw #[.c (.pointer (some (aR b1))) aB,.c (.pointer (some (aR b2))) ar,.c (.pointer (some (aR b3))) bE]).run PG w2=.ok u w2∧Ends I tRun ra r F res (.returned u) w2:=by
   intro v x y c K w2 F2 hres hle2 hS2 hv2
   have ho:∀ b o,(b,o)∈dp b1 b2 b3 x y c→w2.heap[b]? = some o:=fun b o hm=>hS2.own b o (List.mem_append_right _ (List.mem_append_left _ hm))
   refine ⟨_,Ho (x:=x) (y:=y) (c:=c) (ho _ _ (by simp [dp])) (ho _ _ (by simp [dp])) (ho _ _ (by simp [dp])),F2,hle2,?_⟩
   subst hres
   refine ⟨H,K,((x,()),y,c,()),rfl,(I.inv st H).mono _ _ hle2 hi,?_,hv2⟩
   exact (hS2.sub ((List.sublist_append_right _ _).append_left K)).perm List.perm_append_comm
  have caught:∀ (y:Int) (w2:World) (F2:Heap),res=.ok (.inl y) st→F.le F2→Split r w2 (dp b1 b2 b3 (none,0,0) 0 false++H) F2 →
    k6 PG 83 #[.pointer (some (aR b1)),.pointer (some (aR b2)),.pointer (some (aR b3))] #[.c (.pointer (some (aR b1))) aB,.c (.pointer (some (aR b2))) ar,.c (.pointer (some (aR b3))) bE]
     (fun e w'=>match e with | .returned v=>Ends I tRun ra r F res (.returned v) w' | .panicked c=>Ends I tRun ra r F res (.panicked c) w' | .outgrown=>False) (.panicking [{ v:=.iface bO (.agg #[.int .i64 y]),recovered:=false }]) w2:=by
   intro y w2 F2 hres hle2 hS2
   refine CallsD.mono (Ff b1 b2 b3 y (none,0,0) 0 false hS2) ?_
   rintro e u' w4 ⟨rfl,rfl,F4,hle4,hS4⟩
   exact ⟨_,rfl,fin (.inl y) (none,0,0) y false [] w4 F4 hres (hle2.trans hle4) hS4 ⟨rfl,rfl⟩⟩
  have hfst:kF fuel l s1=(match lO (de fuel) s1 (gn l) with
   | none=>none
   | some (.err y)=>some (.inl y)
   | some (.ok n _)=>if n.size≤549755813888 then some (.inr (dO n.size [(n,-1)] [])) else none):=rfl
  have hsV:∀ v,kF fuel l s1=some v→res=.ok v st:=fun v h=>by
   have e:(iw fuel l s1:Sp ε σ _) st=some (.ok v st):=by unfold iw; rw [h]
   rw [e] at hs; cases hs; rfl
  unfold nk
  refine Dy ?_
  cases hres1:wJ (de fuel) s1 (gn l) with
  | none =>
   have e:lO (de fuel) s1 (gn l)=none:=by show Sp.bind _ _ _=none; simp only [Sp.bind,hres1]
   have e2:kF fuel l s1=none:=by rw [hfst,e]
   have e3:(iw fuel l s1:Sp ε σ _) st=none:=by unfold iw; rw [e2]
   rw [e3] at hs; cases hs
  | some res1 =>
   have hh:=GV hR b4 s1 hw (Δ:=noLabel) (t:=tP) (Rel:=fun _ _ _=>Fact.prop False) (Split.give r (dp b1 b2 b3 (none,0,0) 0 false++H)) w1 F1 _ (gn l) res1 (fun _=>True) hres1 (fun _ h=>nomatch h) hinv1 (FB hS.out) trivial
   refine T.wp_mono _ ?_ ?_ hh
   ·intro lb vs w2 ho
    by_cases hlb:lb=1
    ·subst hlb
     obtain ⟨n,L2,F2,H2,st2,hle2,hsp2,⟨p,⟨rfl,rfl⟩,hn2⟩,hinv2,hS2⟩:=ho
     have hr1:res1=.ok n st2:=by
      have:(some (Res.ok n st2):Option (Res Int PSt N))=some res1:=hsp2
      cases this; rfl
     subst hr1
     refine ⟨(p,()),rfl,?_⟩
     rw [List.append_nil] at hS2
     refine EZ (bR ?_ ?_ _ (bk b4 (Split.give r (dp b1 b2 b3 (none,0,0) 0 false++H)) w2 F2 H2 st2 (.ok st2.now st2) rfl (fun _ h=>nomatch h) hinv2 hS2))
     ·rintro v w3 ⟨F3,hle3,H3,K3,x3,hx3,hinv3,hS3,hK3,hR3⟩
      cases hx3
      have hK3':K3=[]:=hK3
      have hR3':x3=st2.now:=hR3
      subst hK3'; subst hR3'
      rw [List.append_nil] at hS3
      refine ⟨_,rfl,Dy (FS (fun h10=>?_) (fun h10=>?_))⟩
      ·-- something is left over
       have e:lO (de fuel) s1 (gn l)=some (.err st2.now.pos):=by
        show Sp.bind _ _ _=_
        simp only [Sp.bind,hres1]
        show (cond (st2.now.kind != 10) cz (Pure.pure n):PM N) st2=_
        rw [show (st2.now.kind != 10)=true from h10]; rfl
       have hres:=hsV (.inl st2.now.pos) (by rw [hfst,e])
       refine EZ (bR ?_ ?_ _ (gl (β:=Unit) (t:=tU) (Rel:=fun _ _ _=>Fact.prop False) b4 (Split.give r (dp b1 b2 b3 (none,0,0) 0 false++H)) w3 F3 H3 st2 (.err st2.now.pos) rfl (fun _ h=>nomatch h) hinv3 hS3))
       ·rintro v w4 ⟨F4,_,c,hc,_⟩; cases hc
       ·rintro c w4 ⟨F4,hle4,c',hc,hy,hS4⟩
        cases hc
        have hy':c=[{ v:=.iface bO (.agg #[.int .i64 st2.now.pos]),recovered:=false }]:=hy
        subst hy'
        exact caught _ w4 F4 hres (hle1.trans (hle2.trans (hle3.trans hle4))) (Split.back (L:=dp b1 b2 b3 (none,0,0) 0 false++H) hS hS4)
      ·refine JI ⟨(),rfl,?_⟩
       have e:lO (de fuel) s1 (gn l)=some (.ok n st2):=by
        show Sp.bind _ _ _=_
        simp only [Sp.bind,hres1]
        show (cond (st2.now.kind != 10) cz (Pure.pure n):PM N) st2=_
        rw [show (st2.now.kind != 10)=false from h10]; rfl
       by_cases hsz:n.size≤549755813888
       case neg =>
        have e2:kF fuel l s1=none:=by rw [hfst,e]; simp only [if_neg hsz]
        have e3:(iw fuel l s1:Sp ε σ _) st=none:=by unfold iw; rw [e2]
        rw [e3] at hs; cases hs
       have hres:=hsV (.inr (dO n.size [(n,-1)] [])) (by rw [hfst,e]; simp only [if_pos hsz])
       have hS4:Split r w3 ([]++(H3++(dp b1 b2 b3 (none,0,0) 0 false++H))) F3:=Split.back (L:=dp b1 b2 b3 (none,0,0) 0 false++H) hS hS3
       refine EZ (bR ?_ ?_ _ (KF (I0:aN Unit Unit) n p (Split.give r (H3++(dp b1 b2 b3 (none,0,0) 0 false++H))) w3 F3 [] () (.ok (dO n.size [(n,-1)] []) ()) (by unfold ED; rw [if_pos hsz]; rfl) (fun A hA=>by obtain rfl:=List.mem_singleton.1 hA; exact (NodeF n p).mono _ _ hle3 hn2) rfl hS4.out))
       ·rintro v w5 ⟨F5,hle5,H5,K5,x5,hx5,hinv5,hS5,hT5⟩
        cases hx5
        have hH5:H5=[]:=hinv5
        subst hH5
        refine ⟨_,rfl,?_⟩
        have hS6:Split r w5 (K5++(H3++(dp b1 b2 b3 (none,0,0) 0 false++H))) F5:=Split.back hS4 hS5
        obtain ⟨x5,⟨⟩⟩:=x5
        refine T.wp_mono _ ?_ (fun _ _ h=>h.elim) (iz (r:=r) (F:=F5) (Γ:=[]) (J:=fun vs L'=>Fact.prop (L'=K5++(H3++(dp b1 b2 b3 x5 0 true++H)))) (Post:=fun vs w'=>∃ F6,F5.le F6∧Split r w' (K5++(H3++(dp b1 b2 b3 x5 0 true++H))) F6) ?_ (fun _ h=>nomatch h) hS6 ?_)
        ·rintro lb vs w6 ⟨F6,hle6,hS7⟩
         refine CallsD.mono (HY b1 b2 b3 w6) ?_
         rintro e u' w7 ⟨rfl,rfl,rfl⟩
         exact ⟨_,rfl,fin (.inr _) x5 0 true K5 w7 F6 hres (hle1.trans (hle2.trans (hle3.trans (hle5.trans hle6)))) (hS7.sub ((List.sublist_append_right _ _).append_left K5)) ⟨rfl,(tl _ _ _).mono _ _ hle6 hT5⟩⟩
        ·refine bA (br (L1:=K5++H3) (L2:=(b2,ap ar [.int .i64 0])::(b3,ap bE [.bool false])::H) (l:=[.slice none 0 0]) (T0:=aB) (T:=aB) (c:=true) (by simp [dp]) (by kernel_rfl) rfl (Nat.le_of_ble_eq_true rfl) (by simp [Value.cells,Value.oneCell'])) ?_
         rintro _ _ _ ⟨rfl,rfl⟩
         refine bA (br (L1:=K5++H3++[(b1,ap aB [.slice x5.1 x5.2.1 x5.2.2])]) (L2:=(b3,ap bE [.bool false])::H) (l:=[.int .i64 0]) (T0:=ar) (T:=ar) (c:=false) (by simp [bW,Value.cells]) (by kernel_rfl) rfl (Nat.le_of_ble_eq_true rfl) (by simp [Value.cells,Value.oneCell'])) ?_
         rintro _ _ _ ⟨rfl,rfl⟩
         refine bA (br (L1:=K5++H3++[(b1,ap aB [.slice x5.1 x5.2.1 x5.2.2]),(b2,ap ar [.int .i64 0])]) (L2:=H) (l:=[.bool false]) (T0:=bE) (T:=bE) (c:=false) (by simp [bW,Value.cells]) (by kernel_rfl) rfl (Nat.le_of_ble_eq_true rfl) (by simp [Value.cells,Value.oneCell'])) ?_
         rintro _ _ _ ⟨rfl,rfl⟩
         exact ml fun F hF=>by show _=_; simp [dp,bW,Value.cells]
        ·intro vs L' F' w' hle' hJ hS'
         exact ⟨F',hle',(show L'=_ from hJ)▸hS'⟩
       ·rintro c w5 ⟨F5,hle5,H5,K5,x5,hx5,_⟩; cases hx5
     ·rintro c w3 ⟨F3,hle3,H3,K3,x3,hx3,_⟩; cases hx3
    ·simp only [Labels.set,if_neg hlb,noLabel] at ho
     obtain ⟨i,_⟩:=ho
     exact i.elim
   ·rintro e w2 ⟨F2,hle2,h⟩
    cases res1 with
    | ok n st2=>obtain ⟨_,_,_,_,_,_,h⟩:=h; exact (show False from h).elim
    | err y =>
     obtain ⟨c,rfl,hy,hS2⟩:=h
     have hy':c=[{ v:=.iface bO (.agg #[.int .i64 y]),recovered:=false }]:=hy
     subst hy'
     have e:lO (de fuel) s1 (gn l)=some (.err y):=by show Sp.bind _ _ _=_; simp only [Sp.bind,hres1]
     exact caught y w2 F2 (hsV (.inl y) (by rw [hfst,e])) (hle1.trans hle2) (Split.back (L:=dp b1 b2 b3 (none,0,0) 0 false++H) hS hS2)
end Go.Proofs.YtjlgcpgjdgeejaaGreatDoor
end

section
namespace Go.Proofs.YtjlgcpgjdgeejaaGreatDoor
open Go
set_option linter.unusedSimpArgs false
set_option linter.unusedVariables false
set_option linter.constructorNameAsVariable false
end Go.Proofs.YtjlgcpgjdgeejaaGreatDoor
end

section
namespace Go.Proofs.YtjlgcpgjdgeejaaGreatDoor
open Go
set_option linter.unusedVariables false
set_option maxRecDepth 100000
noncomputable section
def pW:An :=
 .r [some tA,some tA,some tA]
def pZ:An :=
 .r [some tA]
def qa:An :=
 .r [none,some tV]
def qh:An :=
 .s (.r [some tA,some tU]) (.r [none])
def qk:An :=
 .b (.s (.s (.r [none,none]) (.c (.s (.d (.q 0 none (.q 1 (some tI) (.q 2 none (.l 3 (some tU) (.l 4 (some tU) (.l 5 (some tU) (.e)))))))) (.x)) (.x))) (.r [some ai,some (.c (.agg [.int .i64,.str,.int .i64,.int .i64])),some ai,some ai,some tU]))
def pQ:An :=
 .s (.r [some ai,some tU,some tU,some tU]) (.x)
def mH (a0_b:Option Addr × Nat × Nat):T :=
 .op (bD aw) tA fun r1 =>
 .op (bD ar) tA fun r2 =>
 .op (bD cb) tA fun r3 =>
 .op (bD aw) tA fun r4 =>
 .op (aa qS #[.slice a0_b.1 a0_b.2.1 a0_b.2.2]) tV fun r5 =>
 .out 0 [.pointer (some r1),.pointer (some r2),.pointer (some r3),.pointer (some r4),r5]
def mM (s2:Addr) (s3:Addr) (s4:Addr) (s5:Addr) (s9:Value) (p10:HB [.int .i64,.str,.int .i64,.int .i64]) (p11:Int):T :=
 .op (bD ad) tA fun r6 =>
 .op (a7 ad (.pointer (some r6)) (.agg #[.int .i64 p10.1,.string p10.2.1,.int .i64 p10.2.2.1,.int .i64 p10.2.2.2.1])) tU fun _ =>
 .out 0 [.pointer (some s2),.pointer (some s3),.pointer (some s4),.pointer (some s5),.pointer (some r6),.int .i64 p11]
def mZ (b2:Addr) (b3:Addr) (b4:Addr) (b5:Addr) (b6:Addr) (b7:Int):T :=
 .ite ((b7:Int) != 0) (
  .draw <|
  .opq (am ar (.pointer (some ⟨b6.block,b6.off+2,none⟩))) tI fun r8 =>
  .opl (a7 aw (.pointer (some b2)) (.slice none 0 0)) tU fun _ =>
  .opl (a7 ar (.pointer (some b3)) (.int .i64 r8)) tU fun _ =>
  .op (a7 cb (.pointer (some b4)) (.int .i64 b7)) tU fun _ =>
  .out 1 []) (
  .op (am aw (.pointer (some b5))) ai fun r12 =>
  .op (am ad (.pointer (some b6))) (.c (.agg [.int .i64,.str,.int .i64,.int .i64])) fun r13 =>
  .op (aG aw 1 #[(0,.agg #[.int .i64 r13.1,.string r13.2.1,.int .i64 r13.2.2.1,.int .i64 r13.2.2.2.1])]) ai fun r14 =>
  .op (cW #[aw,aw] aw #[.slice r12.1 r12.2.1 r12.2.2,.slice r14.1 r14.2.1 r14.2.2]) ai fun r15 =>
  .op (a7 aw (.pointer (some b5)) (.slice r15.1 r15.2.1 r15.2.2)) tU fun _ =>
  .out 0 [])
def mV (s2:Addr) (s3:Addr) (s4:Addr) (s5:Addr) (s9:Value):T :=
 .op (am aw (.pointer (some s5))) ai fun r17 =>
 .op (a7 aw (.pointer (some s2)) (.slice r17.1 r17.2.1 r17.2.2)) tU fun _ =>
 .op (a7 ar (.pointer (some s3)) (.int .i64 0)) tU fun _ =>
 .op (a7 cb (.pointer (some s4)) (.int .i64 0)) tU fun _ =>
 .out 0 []
theorem AK (a0_b:Option Addr × Nat × Nat):den Tryz.prog (NN.of 22) #[] (cO Tryz.f26).lft pW 1 (eR [.slice a0_b.1 a0_b.2.1 a0_b.2.2]) (fun e=>den Tryz.prog (NN.of 22) #[] (cO Tryz.f26).rgt.lft pZ 1 e (fun e=>den Tryz.prog (NN.of 22) #[] (cO Tryz.f26).rgt.rgt.lft.lft qa 1 e (gG 0 [2,3,4,5,9]) lA) lA) lA=mH a0_b:=by kernel_rfl
theorem Au (s2:Addr) (s3:Addr) (s4:Addr) (s5:Addr) (s9:Value) (p10:HB [.int .i64,.str,.int .i64,.int .i64]) (p11:Int) (l:Nat):den Tryz.prog ⟨0,22,[],fun _=>undef,some l⟩ #[] (cO Tryz.f26).rgt.rgt.lft.rgt.inB.rAs qh 1 (Env.puts (Env.puts (fun _=>none) [2,3,4,5,9] [.pointer (some s2),.pointer (some s3),.pointer (some s4),.pointer (some s5),s9]) [10,11] [.agg #[.int .i64 p10.1,.string p10.2.1,.int .i64 p10.2.2.1,.int .i64 p10.2.2.2.1],.int .i64 p11]) (gG 0 [2,3,4,5,6,7]) lA=mM s2 s3 s4 s5 s9 p10 p11:=by kernel_rfl
theorem AH (b2:Addr) (b3:Addr) (b4:Addr) (b5:Addr) (b6:Addr) (b7:Int) (l:Nat):den Tryz.prog ⟨0,22,[],fun _=>undef,some l⟩ #[] (cO Tryz.f26).rgt.rgt.lft.rgt.inB.rBd qk 2 (Env.puts (fun _=>none) [2,3,4,5,6,7] [.pointer (some b2),.pointer (some b3),.pointer (some b4),.pointer (some b5),.pointer (some b6),.int .i64 b7]) sR Bf=mZ b2 b3 b4 b5 b6 b7:=by kernel_rfl
theorem z6 (s2:Addr) (s3:Addr) (s4:Addr) (s5:Addr) (s9:Value) (D:List Deferred) (K:Nat→Value):den Tryz.prog ⟨5,22,D,K,none⟩ #[] (cO Tryz.f26).rgt.rgt.rgt pQ 1 (Env.puts (fun _=>none) [2,3,4,5,9] [.pointer (some s2),.pointer (some s3),.pointer (some s4),.pointer (some s5),s9]) sR (fun ex _=>match ex with | .ret=>.out 0 [] | _=>.bad)=mV s2 s3 s4 s5 s9:=by kernel_rfl
theorem z1 (s2:Addr) (s3:Addr) (s4:Addr) (s5:Addr) (s9:Value) (p10:HB [.int .i64,.str,.int .i64,.int .i64]) (p11:Int) {l fid:Nat} {tmps:Array Value} {w:World} {K:Value→World→Prop} {N:List PanicEntry→World→Prop} (hsz:tmps.size=22) (hag:∀ s v,(Env.puts (fun _=>none) [2,3,4,5,9] [.pointer (some s2),.pointer (some s3),.pointer (some s4),.pointer (some s5),s9]) s=some v→tmps.getD s undef=v.val)
  (h:(mM s2 s3 s4 s5 s9 p10 p11).wp Tryz.prog (fun _=>True) (fun _ vs w1=>∃ r:Loop,w1.heap[l]? = some (.loop r)∧r.state=.ready∧∃ b2:Addr,∃ b3:Addr,∃ b4:Addr,∃ b5:Addr,∃ b6:Addr,∃ b7:Int,vs=[.pointer (some b2),.pointer (some b3),.pointer (some b4),.pointer (some b5),.pointer (some b6),.int .i64 b7]∧(mZ b2 b3 b4 b5 b6 b7).wp Tryz.prog (fun _=>True) (fun i _ w2=>Bz l K i w2) (fun _ _=>False) (w1.putObj l (.loop { r with state:=.busy }))) (fun _ _=>False) w) :
  RoundIn Fence.wide 0 Tryz.prog l fid ((#[10,11].zip #[.agg #[.int .i64 p10.1,.string p10.2.1,.int .i64 p10.2.2.1,.int .i64 p10.2.2.2.1],.int .i64 p11]).foldl (fun t (p,v)=>t.setIfInBounds p v) tmps) (cO Tryz.f26).rgt.rgt.lft.rgt.inB.rAs (cO Tryz.f26).rgt.rgt.lft.rgt.inB.rBd w fun
   | .returned v,w'=>K v w'
   | .panicked c,w'=>N c w'
   | .outgrown,_=>False:=by
 refine Ds (nt:=22) (anA:=qh) (anB:=qk) (slots:=[2,3,4,5,6,7]) (e:=Env.puts (Env.puts (fun _=>none) [2,3,4,5,9] [.pointer (some s2),.pointer (some s3),.pointer (some s4),.pointer (some s5),s9]) [10,11] [.agg #[.int .i64 p10.1,.string p10.2.1,.int .i64 p10.2.2.1,.int .i64 p10.2.2.2.1],.int .i64 p11]) (S:=fun _=>True) (Φ:=fun _ _ _=>False) (by rw [Gx]; exact hsz) (Fa [10,11] [.agg #[.int .i64 p10.1,.string p10.2.1,.int .i64 p10.2.2.1,.int .i64 p10.2.2.2.1],.int .i64 p11] (by decide) (by rw [hsz]; decide) hag) ?_
 have e1:=Au s2 s3 s4 s5 s9 p10 p11 l
 rw [e1]
 refine T.wp_mono _ ?_ (fun _ _ h=>h) h
 rintro lb vs w1 ⟨r,h1,h2,b2,b3,b4,b5,b6,b7,rfl,h3⟩
 refine ⟨r,h1,h2,?_⟩
 have e2:=AH b2 b3 b4 b5 b6 b7 l
 rw [e2]
 exact h3
theorem Ai (a0_b:Option Addr × Nat × Nat) {w:World} {R:Ending→World→Prop} {Mid:List Value→World→Prop} (hsh:∀ vs w',Mid vs w'→∃ s2 s3 s4 s5 s9,vs=[.pointer (some s2),.pointer (some s3),.pointer (some s4),.pointer (some s5),s9])
  (h1:(mH a0_b).wp Tryz.prog (fun _=>True) (fun _ vs w'=>Mid vs w') (fun _ _=>False) w)
  (h2:∀ (s2:Addr) (s3:Addr) (s4:Addr) (s5:Addr) (s9:Value) w',Mid [.pointer (some s2),.pointer (some s3),.pointer (some s4),.pointer (some s5),s9] w'→∃ gf lb,s9=.func (.func gf) #[] lb∧(∀ args w,(callFunc gf args).run Tryz.prog w=.ok (.enter gf args) w) ∧
   ∀ (tmps:Array Value) (fid:FuncId),tmps.size=22→(∀ s v,(Env.puts (fun _=>none) [2,3,4,5,9] [.pointer (some s2),.pointer (some s3),.pointer (some s4),.pointer (some s5),s9]) s=some v→tmps.getD s undef=v.val) →
    Calls Tryz.prog gf (#[.func (.yield (w'.heap.size+1)) #[] #[]]++lb) ((w'.alloc (.deferred (some []))).alloc (.loop { state:=.ready,pending:=none,fn:=fid,tmps:=tmps,params:=#[10,11],assign:=(cO Tryz.f26).rgt.rgt.lft.rgt.inB.rAs,body:=(cO Tryz.f26).rgt.rgt.lft.rgt.inB.rBd,defers:=w'.heap.size })) fun e w3 =>
     ∃ v r,e=.returned v∧w3.heap[w'.heap.size+1]? = some (.loop r)∧r.state≠.busy ∧
      ((r.pending=none∧(mV s2 s3 s4 s5 s9).wp Tryz.prog (fun _=>True) (fun _ _ w5=>yx Tryz.prog #[.c (.pointer (some s2)) aw,.c (.pointer (some s3)) ar,.c (.pointer (some s4)) cb] w'.heap.size R w5) (fun _ _=>False) (w3.putObj (w'.heap.size+1) (.loop { r with state:=.exhausted }))) ∨
       (r.pending=some .ret∧yx Tryz.prog #[.c (.pointer (some s2)) aw,.c (.pointer (some s3)) ar,.c (.pointer (some s4)) cb] w'.heap.size R (w3.putObj (w'.heap.size+1) (.loop { r with state:=.exhausted }))))):Calls Tryz.prog ob #[.slice a0_b.1 a0_b.2.1 a0_b.2.2] w R:=by
 refine Fq (args:=[.slice a0_b.1 a0_b.2.1 a0_b.2.2]) (c1:=(cO Tryz.f26).lft) (c2:=(cO Tryz.f26).rgt.lft) (c3:=(cO Tryz.f26).rgt.rgt.lft.lft) (c4:=(cO Tryz.f26).rgt.rgt.rgt) (asn:=(cO Tryz.f26).rgt.rgt.lft.rgt.inB.rAs) (bd:=(cO Tryz.f26).rgt.rgt.lft.rgt.inB.rBd) (bi:=0) (g:=9) (ps:=#[10,11]) (lo:=5) (slots:=[2,3,4,5,9]) (an1:=pW) (an2:=pZ) (an3:=qa) (an4:=pQ) (Mid:=Mid) Tryz.func26 rfl (Nat.le_of_ble_eq_true rfl) (by decide) (by kernel_rfl) ?_ ?_
 ·have e:=AK a0_b
  exact e▸h1
 ·intro vs w' hM
  obtain ⟨s2,s3,s4,s5,s9,rfl⟩:=hsh vs w' hM
  obtain ⟨gf,lb,hg,hc,hall⟩:=h2 s2 s3 s4 s5 s9 w' hM
  have er:Array.map (il (Env.puts (fun _=>none) [2,3,4,5,9] [.pointer (some s2),.pointer (some s3),.pointer (some s4),.pointer (some s5),s9])) Tryz.f26.results=#[.c (.pointer (some s2)) aw,.c (.pointer (some s3)) ar,.c (.pointer (some s4)) cb]:=by kernel_rfl
  rw [er]
  subst hg
  refine ⟨gf,lb,rfl,hc,fun tmps fid h3 h4=>Calls.mono (hall tmps fid h3 h4) ?_⟩
  rintro e w3 ⟨v,r,h5,h6,h7,h8⟩
  refine ⟨v,r,h5,h6,h7,?_⟩
  rcases h8 with ⟨h8,h9⟩ | h8
  ·refine .inl ⟨h8,?_⟩
   rintro ⟨lo,hi,D,K,rd⟩ hlo hhi hrd
   obtain rfl:lo=5:=hlo
   obtain rfl:hi=22:=hhi
   obtain rfl:rd=none:=hrd
   have e4:=z6 s2 s3 s4 s5 (.func (.func gf) #[] lb) D K
   exact e4▸h9
  ·exact .inr h8
end
end Go.Proofs.YtjlgcpgjdgeejaaGreatDoor
end

section
namespace Go.Proofs.YtjlgcpgjdgeejaaGreatDoor
open Go
set_option linter.unusedSimpArgs false
set_option linter.unusedVariables false
set_option linter.constructorNameAsVariable false
set_option maxRecDepth 100000
noncomputable abbrev Hq:Code:=(cO Tryz.f26).rgt.rgt.lft.rgt.inB.rAs
noncomputable abbrev Hi:Code:=(cO Tryz.f26).rgt.rgt.lft.rgt.inB.rBd
noncomputable def ey (fid:Nat) (tmps:Array Value) (D:Nat) (s:LoopState) (p:Option Code):Loop:={ state:=s,pending:=p,fn:=fid,tmps:=tmps,params:=#[10,11],assign:=Hq,body:=Hi,defers:=D }
noncomputable def my (fid:Nat) (tmps:Array Value) (D:Nat) (fin:Option (Int × Int)):Obj:=.loop (ey fid tmps D (if fin.isSome then .done else .ready) (fin.map fun _=>.ret))
def fd (b2 b3 b4 b5:Nat) (fin:Option (Int × Int)) (sl:aV):ak :=
 [(b2,ap aw [.slice none 0 0]),(b3,ap ar [.int .i64 (fin.getD (0,0)).1]),(b4,ap cb [.int .i64 (fin.getD (0,0)).2]),(b5,ap aw [.slice sl.1 sl.2.1 sl.2.2])]
noncomputable def YI (l D b2 b3 b4 b5 fid:Nat) (tmps:Array Value):aN Empty KO where
 inv s H:=Fact.ex fun sl:aV=>Fact.ex fun K:ak=>Fact.prop (H=(l,my fid tmps D s.fin)::((D,.deferred (some []))::fd b2 b3 b4 b5 s.fin sl++K)∧Buf ad 4 sl (rows aP s.acc) K∧s.acc.length≤65537)
 err _ _:=False
theorem Jw {l D b2 b3 b4 b5 fid:Nat} {s9:Value} {tmps:Array Value} (hsz:tmps.size=22)
  (hag:∀ s v,(Env.puts (fun _=>none) [2,3,4,5,9] [.pointer (some ⟨b2,0,none⟩),.pointer (some ⟨b3,0,none⟩),.pointer (some ⟨b4,0,none⟩),.pointer (some ⟨b5,0,none⟩),s9]) s=some v→tmps.getD s undef=v.val) (t:Tok) (e:Int) :
  Meets PG (YI l D b2 b3 b4 b5 fid tmps) (dE (.func (.yield l) #[] #[]) #[.agg #[.int .i64 t.1,.string t.2.1,.int .i64 t.2.2.1,.int .i64 t.2.2.2.1],.int .i64 e]) tB (eQ t e) bm []:=by
 rintro r w F H ⟨acc,fin⟩ res hs hΓ ⟨sl,K,rfl,hB,hlen⟩ hsp
 cases fin with
 | some x=>simp [eQ] at hs
 | none =>
 have hB:Buf ad 4 sl (rows aP acc) K:=hB
 have hlen:acc.length≤65537:=hlen
 have hl:w.heap[l]? = some (.loop (ey fid tmps D .ready none)):=hsp.own _ _ (List.mem_cons_self ..)
 have hrun:(dE (.func (.yield l) #[] #[]) #[.agg #[.int .i64 t.1,.string t.2.1,.int .i64 t.2.2.1,.int .i64 t.2.2.2.1],.int .i64 e]).run PG w =
   .ok (.round l fid ((#[10,11].zip #[.agg #[.int .i64 t.1,.string t.2.1,.int .i64 t.2.2.1,.int .i64 t.2.2.2.1],.int .i64 e]).foldl (fun t (p,v)=>t.setIfInBounds p v) tmps) Hq Hi) w:=by
  have h1:=run_yield (P:=PG) (args:=#[.agg #[.int .i64 t.1,.string t.2.1,.int .i64 t.2.2.1,.int .i64 t.2.2.2.1],.int .i64 e]) hl rfl
  have h2:(dE (.func (.yield l) #[] #[]) #[.agg #[.int .i64 t.1,.string t.2.1,.int .i64 t.2.2.1,.int .i64 t.2.2.2.1],.int .i64 e]).run PG w=(Instr.yield l #[.agg #[.int .i64 t.1,.string t.2.1,.int .i64 t.2.2.1,.int .i64 t.2.2.2.1],.int .i64 e]).run PG w:=by
   simp [dE,Deferred.ofValue,invoke]
  rw [h2,h1]; rfl
 rw [hrun]
 show RoundIn Fence.wide 0 PG l fid _ Hq Hi w _
 refine z1 ⟨b2,0,none⟩ ⟨b3,0,none⟩ ⟨b4,0,none⟩ ⟨b5,0,none⟩ s9 t e hsz hag ?_
 unfold mM
 -- the loop's left sides
 refine iz (J:=fun vs L'=>Fact.ex fun b6:Nat=>Fact.prop (vs=[.pointer (some ⟨b2,0,none⟩),.pointer (some ⟨b3,0,none⟩),.pointer (some ⟨b4,0,none⟩),.pointer (some ⟨b5,0,none⟩),.pointer (some ⟨b6,0,none⟩),.int .i64 e]∧L'=(b6,ap ad (aP t))::((l,my fid tmps D none)::((D,.deferred (some []))::fd b2 b3 b4 b5 none sl++K)))) (Γ:=[]) ?_ (fun _ h=>nomatch h) hsp ?_
 ·refine bA (bT (z:=[.int .i64 0,.string kE,.int .i64 0,.int .i64 0]) (by kernel_rfl)) ?_
  rintro _ _ _ ⟨b6,rfl,rfl,rfl⟩
  refine bA (br (L1:=[]) (l:=[.int .i64 0,.string kE,.int .i64 0,.int .i64 0]) (T:=ad) (T0:=ad) (c:=true) rfl (by kernel_rfl) rfl (Nat.le_of_ble_eq_true rfl) (by simp [Value.cells,Value.oneCell'])) ?_
  rintro _ _ _ ⟨rfl,rfl⟩
  exact ml fun F hF=>⟨b6,rfl,rfl⟩
 rintro vs L' F1 w1 hle1 ⟨b6,rfl,rfl⟩ hS1
 refine ⟨ey fid tmps D .ready none,hS1.own _ _ (List.mem_cons_of_mem _ (List.mem_cons_self ..)),rfl,⟨b2,0,none⟩,⟨b3,0,none⟩,⟨b4,0,none⟩,⟨b5,0,none⟩,⟨b6,0,none⟩,e,rfl,?_⟩
 have hS2:=Split.putObj (L1:=[(b6,ap ad (aP t))]) hS1 (.loop { ey fid tmps D .ready none with state:=.busy })
 unfold mZ
 refine FS (fun he=>?_) (fun he=>?_)
 ·-- an error
  have he':(e != 0)=true:=he
  have hres:res=.ok false { acc:=acc,fin:=some (t.pos,e) }:=by
   have:eQ t e ⟨acc,none⟩=some (.ok false { acc:=acc,fin:=some (t.pos,e) }):=by simp only [eQ]; rw [if_neg (by decide),if_pos he']
   rw [this] at hs; exact (Option.some.inj hs).symm
  subst hres
  refine zl (J:=fun i vs L'=>Fact.prop (i=1∧L'=(b6,ap ad (aP t))::(l,.loop { ey fid tmps D .ready none with state:=.busy })::((D,.deferred (some []))::fd b2 b3 b4 b5 (some (t.pos,e)) sl++K))) (Γ:=[]) ?_ (fun _ h=>nomatch h) hS2 ?_
  ·refine iR [(b6,ap ad (aP t))] (fun p hp=>by simp at hp; simp [hp]) ?_
   refine c8 (t1:=tI) t.pos (cf (T0:=ad) (l:=aP t) (QRd.own (List.mem_cons_self ..)) (by kernel_rfl) rfl rfl) ?_
   refine yV (br (L1:=[(b6,ap ad (aP t)),(l,.loop { ey fid tmps D .ready none with state:=.busy }),(D,.deferred (some []))]) (L2:=[(b3,ap ar [.int .i64 0]),(b4,ap cb [.int .i64 0]),(b5,ap aw [.slice sl.1 sl.2.1 sl.2.2])]++K) (l:=[.slice none 0 0]) (T:=aw) (T0:=aw) (c:=false) rfl (by kernel_rfl) rfl (Nat.le_of_ble_eq_true rfl) (by simp [Value.cells,Value.oneCell'])) ?_
   rintro _ _ _ ⟨rfl,rfl⟩
   refine ⟨fun p hp=>by simp at hp; simp [hp],?_⟩
   refine yV (br (L1:=[(b6,ap ad (aP t)),(l,.loop { ey fid tmps D .ready none with state:=.busy }),(D,.deferred (some [])),(b2,ap aw [.slice none 0 0])]) (L2:=[(b4,ap cb [.int .i64 0]),(b5,ap aw [.slice sl.1 sl.2.1 sl.2.2])]++K) (l:=[.int .i64 0]) (T:=ar) (T0:=ar) (c:=false) rfl (by kernel_rfl) rfl (Nat.le_of_ble_eq_true rfl) (by simp [Value.cells,Value.oneCell'])) ?_
   rintro _ _ _ ⟨rfl,rfl⟩
   refine ⟨fun p hp=>by simp at hp; simp [hp],?_⟩
   refine bA (br (L1:=[(b6,ap ad (aP t)),(l,.loop { ey fid tmps D .ready none with state:=.busy }),(D,.deferred (some [])),(b2,ap aw [.slice none 0 0]),(b3,ap ar [.int .i64 t.pos])]) (L2:=[(b5,ap aw [.slice sl.1 sl.2.1 sl.2.2])]++K) (l:=[.int .i64 0]) (T:=cb) (T0:=cb) (c:=false) rfl (by kernel_rfl) rfl (Nat.le_of_ble_eq_true rfl) (by simp [Value.cells,Value.oneCell'])) ?_
   rintro _ _ _ ⟨rfl,rfl⟩
   exact Ef fun F hF=>⟨rfl,rfl⟩
  ·rintro i vs L' F2 w2 hle2 ⟨rfl,rfl⟩ hS3
   refine ⟨{ ey fid tmps D .ready none with state:=.busy },hS3.own _ _ (List.mem_cons_of_mem _ (List.mem_cons_self ..)),?_⟩
   rw [if_neg (by decide)]
   have hS4:=Split.putObj (L1:=[(b6,ap ad (aP t))]) hS3 (my fid tmps D (some (t.pos,e)))
   refine ⟨F2,hle1.trans hle2,_,[],false,rfl,⟨sl,K,rfl,hB,hlen⟩,?_,rfl,rfl⟩
   rw [List.append_nil]
   exact hS4.sub (List.sublist_cons_self ..)
 ·-- a token more
  have he':(e != 0)=false:=he
  by_cases hacc:acc.length≤65536
  case neg =>
   have:eQ t e ⟨acc,none⟩=none:=by simp only [eQ]; rw [if_neg (by decide),if_neg (by rw [he']; decide),if_neg hacc]
   rw [this] at hs; cases hs
  have hres:res=.ok true { acc:=acc++[t],fin:=none }:=by
   have:eQ t e ⟨acc,none⟩=some (.ok true { acc:=acc++[t],fin:=none }):=by simp only [eQ]; rw [if_neg (by decide),if_neg (by rw [he']; decide),if_pos hacc]
   rw [this] at hs; exact (Option.some.inj hs).symm
  subst hres
  have hsl:sl.2.1=acc.length:=by have h1:=hB.len; rw [dz dW] at h1; omega
  let HT:ak:=[(b2,ap aw [.slice none 0 0]),(b3,ap ar [.int .i64 0]),(b4,ap cb [.int .i64 0])]
  let LB:ak:=(b6,ap ad (aP t))::(l,.loop { ey fid tmps D .ready none with state:=.busy })::(D,.deferred (some []))::HT
  refine zl (J:=fun i vs L'=>Fact.ex fun sl':aV=>Fact.ex fun K':ak=>Fact.prop (i=0∧Buf ad 4 sl' (rows aP (acc++[t])) K'∧L'.Perm (LB++(b5,ap aw [.slice sl'.1 sl'.2.1 sl'.2.2])::K'))) (Γ:=[]) ?_ (fun _ h=>nomatch h) hS2 ?_
  ·refine bA (dt (b1:=.slice) sl (Rd.own (show (b5,ap aw [.slice sl.1 sl.2.1 sl.2.2])∈_ by simp [fd])) (by kernel_rfl) rfl rfl) ?_
   rintro _ _ _ ⟨rfl,rfl,rfl⟩
   refine bA (f5 (bs:=el) t (Rd.own (List.mem_cons_self ..)) (by kernel_rfl) rfl rfl) ?_
   rintro _ _ _ ⟨rfl,rfl,rfl⟩
   refine bA (lC (e:=ad) (size:=4) (z:=.agg #[.int .i64 0,.string kE,.int .i64 0,.int .i64 0]) (aP t) (by kernel_rfl) (by kernel_rfl) (by decide) (by decide) (by kernel_rfl)) ?_
   rintro _ _ _ ⟨bn,rfl,rfl,rfl⟩
   refine DN (L':=K++(LB++[(b5,ap aw [.slice sl.1 sl.2.1 sl.2.2])])) ?_ ?_
   ·show (K++(LB++[(b5,ap aw [.slice sl.1 sl.2.1 sl.2.2])])).Perm ((LB++[(b5,ap aw [.slice sl.1 sl.2.1 sl.2.2])])++K)
    exact List.perm_append_comm
   refine bA (eZ (L0:=LB++[(b5,ap aw [.slice sl.1 sl.2.1 sl.2.2])]) (K:=K) (size:=4) (bytes:=40) (e:=ad) (m:=1) (news:=aP t) (by kernel_rfl) rfl hB (Rd.at (List.mem_cons_self ..)) rfl rfl rfl (by decide) (by simp [aP,HB.enc,B.enc,Value.oneCell']) (by omega) (by omega)) ?_
   rintro x _ _ ⟨K',rfl,rfl,hx,hb'⟩
   refine bA (br (L1:=K'++LB) (L2:=[]) (l:=[.slice sl.1 sl.2.1 sl.2.2]) (T:=aw) (T0:=aw) (c:=false) (by simp) (by kernel_rfl) rfl (Nat.le_of_ble_eq_true rfl) (by simp [Value.cells,Value.oneCell'])) ?_
   rintro _ _ _ ⟨rfl,rfl⟩
   refine Ef fun F hF=>⟨x,K',rfl,?_,?_⟩
   ·rw [ma]
    have:rows aP [t]=aP t:=by simp [rows]
    rw [this]; exact hb'
   ·show ((K'++LB)++[(b5,ap aw [.slice x.1 x.2.1 x.2.2])]).Perm (LB++(b5,ap aw [.slice x.1 x.2.1 x.2.2])::K')
    have h1:((K'++LB)++[(b5,ap aw [.slice x.1 x.2.1 x.2.2])]).Perm ((LB++[(b5,ap aw [.slice x.1 x.2.1 x.2.2])])++K'):=by
     rw [List.append_assoc]; exact List.perm_append_comm
    simpa [List.append_assoc] using h1
  ·rintro i vs L' F2 w2 hle2 ⟨sl',K',rfl,hB',hp⟩ hS3
   have hS3':=hS3.perm hp.symm
   refine ⟨{ ey fid tmps D .ready none with state:=.busy },hS3'.own _ _ (List.mem_cons_of_mem _ (List.mem_cons_self ..)),?_⟩
   rw [if_pos rfl]
   have hS4:=Split.putObj (L1:=[(b6,ap ad (aP t))]) (L2:=(D,.deferred (some []))::HT++(b5,ap aw [.slice sl'.1 sl'.2.1 sl'.2.2])::K') (o:=.loop { ey fid tmps D .ready none with state:=.busy }) hS3' (my fid tmps D none)
   refine ⟨F2,hle1.trans hle2,(l,my fid tmps D none)::((D,.deferred (some []))::fd b2 b3 b4 b5 none sl'++K'),[],true,rfl,⟨sl',K',rfl,hB',by simp; omega⟩,?_,rfl,rfl⟩
   rw [List.append_nil]
   exact hS4.sub (List.sublist_cons_self ..)
abbrev tTok3:Ty:=.tup [.b .slice,.b (.int .i64),.b (.int .i64)]
def EC (v:Sum (Int × Int) (List Tok)) (x:HC [.b .slice,.b (.int .i64),.b (.int .i64)]):Fact:=match v with
 | .inl p=>Fact.prop (x=((none,0,0),p.1,p.2,()))
 | .inr l=>Fact.ex fun sl:aV=>(Fact.prop (x=(sl,0,0,()))).both (Sl 4 aP sl l)
def nX (b:ByteArray) {ε σ:Type}:Sp ε σ (Sum (Int × Int) (List Tok)):=fun st=>(fb b).map fun v=>.ok v st
theorem Gw {w:World} {b1 b2 b3:Nat} {x:aV} {y z:Int} (h1:w.heap[b1]? = some (ap aw [.slice x.1 x.2.1 x.2.2])) (h2:w.heap[b2]? = some (ap ar [.int .i64 y])) (h3:w.heap[b3]? = some (ap cb [.int .i64 z])) :
  (dw #[.c (.pointer (some ⟨b1,0,none⟩)) aw,.c (.pointer (some ⟨b2,0,none⟩)) ar,.c (.pointer (some ⟨b3,0,none⟩)) cb]).run PG w=.ok (tTok3.enc (x,y,z,())) w:=by
 obtain ⟨n1,hs1⟩:=eV (P:=PG) (t:=aw) (by kernel_rfl)
 obtain ⟨n2,hs2⟩:=eV (P:=PG) (t:=ar) (by kernel_rfl)
 obtain ⟨n3,hs3⟩:=eV (P:=PG) (t:=cb) (by kernel_rfl)
 have e1:(loadVar aw ⟨b1,0,none⟩).run PG w=.ok (.slice x.1 x.2.1 x.2.2) w:=j7 hs1 h1 rfl rfl
 have e2:(loadVar ar ⟨b2,0,none⟩).run PG w=.ok (.int .i64 y) w:=j7 hs2 h2 rfl rfl
 have e3:(loadVar cb ⟨b3,0,none⟩).run PG w=.ok (.int .i64 z) w:=j7 hs3 h3 rfl rfl
 have:(dw #[.c (.pointer (some ⟨b1,0,none⟩)) aw,.c (.pointer (some ⟨b2,0,none⟩)) ar,.c (.pointer (some ⟨b3,0,none⟩)) cb]).run PG w=.ok (.tuple #[.slice x.1 x.2.1 x.2.2,.int .i64 y,.int .i64 z]) w:=by
  simp [dw,RV.sem,asAddr,e1,e2,e3]
 exact this
theorem GZ {ε σ:Type} (I:aN ε σ) (sl:aV) (b:ByteArray) (hb:b.size≤17179869184):Meets PG I (aa ob #[.slice sl.1 sl.2.1 sl.2.2]) tTok3 (nX b) EC [ByF sl b,MxF]:=by
 intro r w F H st res hs hΓ hi hsp
 have hbF:=hΓ (ByF sl b) (List.mem_cons_self ..)
 have hmF:=hΓ MxF (List.mem_cons_of_mem _ (List.mem_cons_self ..))
 rw [fK Tryz.func26 rfl rfl]
 refine Calls.mono (Ai sl (Mid:=fun vs w'=>∃ b2 b3 b4 b5 bb sl2 F',F.le F'∧vs=[.pointer (some ⟨b2,0,none⟩),.pointer (some ⟨b3,0,none⟩),.pointer (some ⟨b4,0,none⟩),.pointer (some ⟨b5,0,none⟩),.func (.func fq) #[] #[.pointer (some ⟨bb,0,none⟩)]] ∧
   F' bb=some (ap aj [.slice sl2.1 sl2.2.1 sl2.2.2])∧(ByF sl2 b).p F'∧Split r w' (fd b2 b3 b4 b5 none (none,0,0)++H) F')
  (R:=fun e w'=>match e with | .returned v=>Ends I tTok3 (pl EC) r F res (.returned v) w' | _=>False) ?_ ?_ ?_) (fun e w' h=>by cases e<;>first | exact h | exact h.elim)
 ·rintro vs w' ⟨b2,b3,b4,b5,bb,sl2,F',_,rfl,_⟩; exact ⟨_,_,_,_,_,rfl⟩
 ·unfold mH
  refine iz (J:=fun vs L'=>Fact.ex fun b2:Nat=>Fact.ex fun b3:Nat=>Fact.ex fun b4:Nat=>Fact.ex fun b5:Nat=>Fact.ex fun v:Value=>(Fact.prop (vs=[.pointer (some ⟨b2,0,none⟩),.pointer (some ⟨b3,0,none⟩),.pointer (some ⟨b4,0,none⟩),.pointer (some ⟨b5,0,none⟩),v]∧L'.Perm (fd b2 b3 b4 b5 none (none,0,0)++H))).both (IF b v)) (Γ:=[ByF sl b,MxF]) (L:=H) ?_ hΓ hsp ?_
  ·refine bA (bT (z:=[.slice none 0 0]) (by kernel_rfl)) ?_
   rintro _ _ _ ⟨b2,rfl,rfl,rfl⟩
   refine bA (bT (z:=[.int .i64 0]) (by kernel_rfl)) ?_
   rintro _ _ _ ⟨b3,rfl,rfl,rfl⟩
   refine bA (bT (z:=[.int .i64 0]) (by kernel_rfl)) ?_
   rintro _ _ _ ⟨b4,rfl,rfl,rfl⟩
   refine bA (bT (z:=[.slice none 0 0]) (by kernel_rfl)) ?_
   rintro _ _ _ ⟨b5,rfl,rfl,rfl⟩
   refine IM (Gl sl b hb) (by simp) fun v K=>xn (nM fun hK=>?_)
   have hK':K=[]:=hK
   subst hK'
   refine ml fun F hF=>⟨b2,b3,b4,b5,v,⟨rfl,?_⟩,hF _ (List.mem_cons_self ..)⟩
   show ((b5,_)::(b4,_)::(b3,_)::(b2,_)::H).Perm ((b2,_)::(b3,_)::(b4,_)::(b5,_)::H)
   have h4:∀ (x1 x2 x3 x4:Nat × Obj),([x4,x3,x2,x1]++H).Perm ([x1,x2,x3,x4]++H):=fun x1 x2 x3 x4=>(List.reverse_perm [x1,x2,x3,x4]).append_right H
   exact h4 _ _ _ _
  ·rintro vs L' F' w' hle ⟨b2,b3,b4,b5,v,⟨rfl,hp⟩,bb,sl2,rfl,hat,hby⟩ hS
   exact ⟨b2,b3,b4,b5,bb,sl2,F',hle,rfl,hat,hby,hS.perm hp.symm⟩
 ·rintro s2 s3 s4 s5 s9 w1 ⟨b2,b3,b4,b5,bb,sl2,F1,hle1,hv,hat,hby,hS⟩
  simp only [List.cons.injEq,Value.pointer.injEq,Option.some.injEq,and_true] at hv
  obtain ⟨rfl,rfl,rfl,rfl,rfl⟩:=hv
  refine ⟨fq,#[.pointer (some ⟨bb,0,none⟩)],rfl,fun args w=>rg Tryz.func70 rfl rfl,fun tmps fid hsz hag=>?_⟩
  have hD:Split r (w1.alloc (.deferred (some []))) ((w1.heap.size,.deferred (some []))::(fd b2 b3 b4 b5 none (none,0,0)++H)) F1:=hS.new _
  have hL:=hD.new (.loop (ey fid tmps w1.heap.size .ready none))
  rw [World.size_alloc] at hL
  have hS1:Split r ((w1.alloc (.deferred (some []))).alloc (.loop (ey fid tmps w1.heap.size .ready none))) (((w1.heap.size+1,my fid tmps w1.heap.size none)::((w1.heap.size,.deferred (some []))::fd b2 b3 b4 b5 none (none,0,0)++[]))++H) F1:=by
   rw [List.append_nil]; exact hL
  have hm:=I6 (YI (w1.heap.size+1) w1.heap.size b2 b3 b4 b5 fid tmps) b sl2 bb (.func (.yield (w1.heap.size+1)) #[] #[]) eQ [] (Jw hsz hag)
  cases hall:kp eQ b ⟨[],none⟩ with
  | none =>
   have:fb b=none:=by simp only [fb,hall]
   simp only [nX,this] at hs; cases hs
  | some res2 =>
  cases res2 with
  | err e=>exact e.elim
  | ok u st2 =>
  have h2:=hm (Split.give r H) _ F1 _ ⟨[],none⟩ _ hall (fun A hA=>by
   simp only [List.mem_cons,List.not_mem_nil,or_false] at hA
   rcases hA with rfl | rfl | rfl
   ·exact hat
   ·exact hby
   ·exact MxF.mono _ _ hle1 hmF) ⟨(none,0,0),[],rfl,Buf.nil _ _,Nat.zero_le _⟩ hS1.out
  ·rw [fK Tryz.func70 rfl rfl] at h2
   refine Calls.mono h2 fun e w3 he=>?_
   cases e with
   | panicked c=>obtain ⟨F',hle,H',K1,x,hv,_⟩:=he; cases hv
   | outgrown=>exact he.elim
   | returned v =>
   obtain ⟨F3,hle3,H',K1,x,hv,⟨sl3,K3,rfl,hB3,hlen3⟩,hS3,hK1,_⟩:=he
   have hK1':K1=[]:=hK1
   subst hK1'
   rw [List.append_nil] at hS3
   obtain ⟨acc,fin⟩:=st2
   have hS4:Split r w3 ((w1.heap.size+1,my fid tmps w1.heap.size fin)::((w1.heap.size,.deferred (some []))::fd b2 b3 b4 b5 fin sl3++K3)++H) F3:=Split.back hS1 hS3
   have hl3:w3.heap[w1.heap.size+1]? = some (my fid tmps w1.heap.size fin):=hS4.own _ _ (List.mem_cons_self ..)
   have hS5:∀ o,Split r (w3.putObj (w1.heap.size+1) o) ((w1.heap.size+1,o)::((w1.heap.size,.deferred (some []))::fd b2 b3 b4 b5 fin sl3++K3)++H) F3:=fun o =>
    Split.putObj (L1:=[]) (L2:=((w1.heap.size,.deferred (some []))::fd b2 b3 b4 b5 fin sl3++K3)++H) hS4 o
   have hres:∀ v,fb b=some v→res=.ok v st:=fun v hv=>by
    simp only [nX,hv] at hs; exact (Option.some.inj hs).symm
   -- the results are read
   have fin3:∀ (v:Sum (Int × Int) (List Tok)) (o:Obj) (w5:World) (F5:Heap) (x:aV) (y z:Int),fb b=some v→F3.le F5 →
     Split r w5 ((w1.heap.size+1,o)::((w1.heap.size,.deferred (some []))::([(b2,ap aw [.slice x.1 x.2.1 x.2.2]),(b3,ap ar [.int .i64 y]),(b4,ap cb [.int .i64 z]),(b5,ap aw [.slice sl3.1 sl3.2.1 sl3.2.2])]++K3))++H) F5 →
     (∀ F6,F5.le F6→(∀ p∈K3,F6 p.1=some p.2)→(EC v (x,y,z,())).p F6) →
     yx PG #[.c (.pointer (some ⟨b2,0,none⟩)) aw,.c (.pointer (some ⟨b3,0,none⟩)) ar,.c (.pointer (some ⟨b4,0,none⟩)) cb] w1.heap.size
      (fun e w'=>match e with | .returned v=>Ends I tTok3 (pl EC) r F res (.returned v) w' | _=>False) w5:=by
    intro v o w5 F5 x y z hv hle5 hS6 hR
    refine ⟨hS6.own _ _ (List.mem_cons_of_mem _ (List.mem_cons_self ..)),?_⟩
    have hS7:=Split.putObj (L1:=[(w1.heap.size+1,o)]) hS6 (.deferred none)
    refine ⟨_,Gw (x:=x) (y:=y) (z:=z) (hS7.own _ _ (by simp)) (hS7.own _ _ (by simp)) (hS7.own _ _ (by simp)),?_⟩
    have hS8:Split r _ (K3++H) F5:=hS7.sub (H':=K3++H) (by
     show (K3++H).Sublist ([(w1.heap.size+1,o),(w1.heap.size,Obj.deferred none),(b2,ap aw [.slice x.1 x.2.1 x.2.2]),(b3,ap ar [.int .i64 y]),(b4,ap cb [.int .i64 z]),(b5,ap aw [.slice sl3.1 sl3.2.1 sl3.2.2])]++K3++H)
     rw [List.append_assoc]
     exact List.sublist_append_right _ _)
    obtain ⟨F6,hle6,hK6,hS9⟩:=Split.freezeL K3 hS8
    refine ⟨F6,hle1.trans (hle3.trans (hle5.trans hle6)),?_⟩
    rw [hres v hv]
    refine ⟨H,[],(x,y,z,()),rfl,(I.inv st H).mono _ _ (hle1.trans (hle3.trans (hle5.trans hle6))) hi,by rw [List.append_nil]; exact hS9,rfl,hR F6 hle6 hK6⟩
   cases fin with
   | some pe =>
    have hval:fb b=some (.inl pe):=by simp only [fb,hall]
    refine ⟨v,ey fid tmps w1.heap.size .done (some .ret),rfl,hl3,fun h=>(by cases h),.inr ⟨rfl,?_⟩⟩
    exact fin3 (.inl pe) _ _ F3 (none,0,0) pe.1 pe.2 hval (Heap.le.refl _) (hS5 _) fun F6 _ _=>rfl
   | none =>
    have hval:fb b=some (.inr acc):=by simp only [fb,hall]
    refine ⟨v,ey fid tmps w1.heap.size .ready none,rfl,hl3,fun h=>(by cases h),.inl ⟨rfl,?_⟩⟩
    unfold mV
    refine iz (J:=fun vs L'=>Fact.prop (L'=(w1.heap.size+1,.loop { ey fid tmps w1.heap.size .ready none with state:=.exhausted })::((w1.heap.size,.deferred (some []))::([(b2,ap aw [.slice sl3.1 sl3.2.1 sl3.2.2]),(b3,ap ar [.int .i64 0]),(b4,ap cb [.int .i64 0]),(b5,ap aw [.slice sl3.1 sl3.2.1 sl3.2.2])]++K3))++H)) (Γ:=[]) ?_ (fun _ h=>nomatch h) (hS5 (.loop { ey fid tmps w1.heap.size .ready none with state:=.exhausted })) ?_
    ·refine bA (dt (b1:=.slice) sl3 (Rd.own (show (b5,ap aw [.slice sl3.1 sl3.2.1 sl3.2.2])∈_ by simp [fd])) (by kernel_rfl) rfl rfl) ?_
     rintro _ _ _ ⟨rfl,rfl,rfl⟩
     refine bA (br (L1:=[(w1.heap.size+1,.loop { ey fid tmps w1.heap.size .ready none with state:=.exhausted }),(w1.heap.size,.deferred (some []))]) (L2:=[(b3,ap ar [.int .i64 0]),(b4,ap cb [.int .i64 0]),(b5,ap aw [.slice sl3.1 sl3.2.1 sl3.2.2])]++K3++H) (l:=[.slice none 0 0]) (T:=aw) (T0:=aw) (c:=false) rfl (by kernel_rfl) rfl (Nat.le_of_ble_eq_true rfl) (by simp [Value.cells,Value.oneCell'])) ?_
     rintro _ _ _ ⟨rfl,rfl⟩
     refine bA (br (L1:=[(w1.heap.size+1,.loop { ey fid tmps w1.heap.size .ready none with state:=.exhausted }),(w1.heap.size,.deferred (some [])),(b2,ap aw [.slice sl3.1 sl3.2.1 sl3.2.2])]) (L2:=[(b4,ap cb [.int .i64 0]),(b5,ap aw [.slice sl3.1 sl3.2.1 sl3.2.2])]++K3++H) (l:=[.int .i64 0]) (T:=ar) (T0:=ar) (c:=false) rfl (by kernel_rfl) rfl (Nat.le_of_ble_eq_true rfl) (by simp [Value.cells,Value.oneCell'])) ?_
     rintro _ _ _ ⟨rfl,rfl⟩
     refine bA (br (L1:=[(w1.heap.size+1,.loop { ey fid tmps w1.heap.size .ready none with state:=.exhausted }),(w1.heap.size,.deferred (some [])),(b2,ap aw [.slice sl3.1 sl3.2.1 sl3.2.2]),(b3,ap ar [.int .i64 0])]) (L2:=[(b5,ap aw [.slice sl3.1 sl3.2.1 sl3.2.2])]++K3++H) (l:=[.int .i64 0]) (T:=cb) (T0:=cb) (c:=false) rfl (by kernel_rfl) rfl (Nat.le_of_ble_eq_true rfl) (by simp [Value.cells,Value.oneCell'])) ?_
     rintro _ _ _ ⟨rfl,rfl⟩
     exact ml fun F hF=>rfl
    ·rintro vs L' F5 w5 hle5 hL5 hS6
     obtain rfl:L'=_:=hL5
     exact fin3 (.inr acc) _ w5 F5 sl3 0 0 hval hle5 hS6 fun F6 hle6 hK6=>⟨sl3,rfl,Buf.sl hB3 (by decide) rfl dW hK6⟩
end Go.Proofs.YtjlgcpgjdgeejaaGreatDoor
end

section
namespace Go.Proofs.YtjlgcpgjdgeejaaGreatDoor
open Go
set_option linter.unusedSimpArgs false
set_option linter.unusedVariables false
set_option linter.constructorNameAsVariable false
set_option maxRecDepth 100000
theorem Jt {ε σ:Type} {I:aN ε σ} {s0:Sem Next} {t:Ty} {x:t.den} (hm:Meets PG (I0:aN ε Unit) s0 t (Pure.pure x:Sp ε Unit t.den) bm []):Meets PG I s0 t (Pure.pure x) bm []:=by
 intro r w F H st res hs hΓ hi hsp
 have h0:Split r w ([]++H) F:=hsp
 have hres:res=.ok x st:=(Option.some.inj hs).symm
 subst hres
 refine bR ?_ ?_ _ (hm (Split.give r H) w F [] () (.ok x ()) rfl (fun _ h=>nomatch h) rfl h0.out)
 ·rintro v w' ⟨F',hle,H',K1,y,hv,hinv,hS,hK,hR⟩
  have hH:H'=[]:=hinv
  have hK':K1=[]:=hK
  subst hH; subst hK'
  have hS':Split r w' H F':=Split.back (L:=H) h0 hS
  exact ⟨F',hle,H,[],y,hv,(I.inv st H).mono _ _ hle hi,by rw [List.append_nil]; exact hS',rfl,hR⟩
 ·rintro c w' ⟨F',hle,H',K1,y,hv,_⟩; cases hv
theorem HF:Fh:=by
 intro ε σ I s hl h
 refine Jt ?_
 obtain ⟨n,hn⟩:=Option.isSome_iff_exists.1 h
 refine wl s (c5 fun st=>?_)
 unfold kB
 refine fy (Kl s n hl hn) (fun _ h=>nomatch h) ?_
 have:lp s=n:=by simp [lp,hn]
 exact f8 (t:=tI) (lp s) (by rw [this]; rfl) rfl
def c9 (most:Int):List Tok→Nat→Int→Int→Int→Int × Int
 | [],_,_,d,f=>(d,f)
 | t::l,i,n,d,f =>
  let m:=if n+cy t > 0 then n+cy t else 0
  c9 most l (i+1) m (if m > d then m else d) (if m > most∧f < 0 then (i:Int) else f)
theorem IJ (t:Tok):-1≤cy t∧cy t≤1:=by
 unfold cy
 repeat' split
 all_goals decide
abbrev Lp:Ty:=.tup [.b (.int .i64),.b (.int .i64)]
def fG (most:Int) (l:List Tok) (k:Nat) (n d f i:Int) {ε σ:Type}:Sp ε σ (HC [.b (.int .i64),.b (.int .i64)]):=fun st =>
 if 0≤n∧n≤i∧0≤i∧i≤l.length∧l.length - i.toNat+1=k then some (.ok ((c9 most (l.drop i.toNat) i.toNat n d f).1,(c9 most (l.drop i.toNat) i.toNat n d f).2,()) st) else none
theorem I3 {ε:Type} (sl:aV) (l:List Tok) (hl:l.length≤1099511627776) (most:Int):Meets PG (I0:aN ε Unit) (aa pC #[.slice sl.1 sl.2.1 sl.2.2,.int .i64 most]) Lp (Pure.pure ((c9 most l 0 0 0 (-1)).1,(c9 most l 0 0 0 (-1)).2,())) bm [Sl 4 aP sl l]:=by
 refine Do sl most (c5 fun st=>?_)
 unfold pH
 refine qj (fun k (y:HC [.b (.int .i64),.b (.int .i64),.b (.int .i64),.b (.int .i64)])=>fG most l k y.1 y.2.1 y.2.2.1 y.2.2.2.1) (l.length+1) ((0:Int),(0:Int),(-1:Int),(0:Int),()) rfl ?_ (fun y st=>?_) fun k y st=>?_
 ·show _=fG most l (l.length+1) 0 0 (-1) 0 st
  simp only [fG]
  rw [if_pos (by omega)]; rfl
 ·show fG most l 0 y.1 y.2.1 y.2.2.1 y.2.2.2.1 st=none
  simp only [fG]
  rw [if_neg (by omega)]
 ·obtain ⟨(n:Int),(d:Int),(f:Int),(i:Int),⟨⟩⟩:=y
  show ay _ _ _ _ _ _ _ _ (fG most l (k+1) n d f i st) _ _
  by_cases hg:0≤n∧n≤i∧0≤i∧i≤l.length∧l.length - i.toNat+1=k+1
  case neg=>exact cZ (by simp only [fG]; rw [if_neg hg])
  obtain ⟨i,rfl⟩:=Int.eq_ofNat_of_zero_le hg.2.2.1
  have hdef:(fG most l (k+1) n d f (i:Int):Sp ε Unit _) st=some (.ok ((c9 most (l.drop i) i n d f).1,(c9 most (l.drop i) i n d f).2,()) st):=by
   simp only [fG]; rw [if_pos hg]; rfl
  rw [hdef]
  refine fk (φ:=sl.2.1=l.length) (fun F hF=>(hF (Sl 4 aP sl l) (by repeat (first | exact mz | apply ms))).1) fun hlen=>aT (fun h=>?_) (fun h=>?_)
  ·have hi:i < l.length:=kg hlen h
   refine fk (φ:=∃ a,sl.1=some a∧a.spot=none) (fun F hF=>Sl.addr (hF (Sl 4 aP sl l) (by repeat (first | exact mz | apply ms))) (by omega)) fun ⟨a,ha,hsp⟩=>?_
   have hget:l[i]? = some l[i]:=List.getElem?_eq_getElem hi
   refine cT (p3 (n:=4) (f:=aP) ha (fun F hF=>hF (Sl 4 aP sl l) (by repeat (first | exact mz | apply ms))) (by kernel_rfl) i rfl hi) ?_
   rintro _ _ _ ⟨rfl,rfl,rfl⟩
   refine cT (zJ (bs:=el) (f:=aP) dW ha (fun F hF=>hF (Sl 4 aP sl l) (by repeat (first | exact mz | apply ms))) hget (by kernel_rfl) l[i] rfl) ?_
   rintro _ _ _ ⟨rfl,rfl,rfl⟩
   refine rM l[i] fun b4=>nB l[i] (List.mem_cons_self ..) ?_
   refine fy (Gd _ l[i]) (fun _ h=>nomatch h) ?_
   have ht:=IJ l[i]
   have hnl:n≤(i:Int):=hg.2.1
   rw [bg (n:=n+cy l[i]) (by omega) (by omega),bg (n:=(i:Int)+1) (by omega) (by omega)]
   have hdrop:l.drop i=l[i]::l.drop (i+1):=List.drop_eq_getElem_cons hi
   have next:∀ m d' f',m=(if n+cy l[i] > 0 then n+cy l[i] else 0)→d'=(if m > d then m else d)→f'=(if m > most∧f < 0 then (i:Int) else f) →
     some (Res.ok ((c9 most (l.drop i) i n d f).1,(c9 most (l.drop i) i n d f).2,()) st)=(fG most l k m d' f' ((i:Int)+1):Sp ε Unit _) st:=by
    intro m d' f' hm hd hf
    have e1:c9 most (l.drop i) i n d f=c9 most (l.drop (i+1)) (i+1) m d' f':=by
     rw [hdrop]
     show c9 most (l.drop (i+1)) (i+1) (if n+cy l[i] > 0 then n+cy l[i] else 0) _ _=_
     rw [← hm,← hd,← hf]
    simp only [fG]
    rw [show ((i:Int)+1).toNat=i+1 by omega,e1,if_pos ?_]
    refine ⟨?_,?_,by omega,by omega,by have:=hg.2.2.2.2; simp only [Int.toNat_natCast] at this; omega⟩
    ·rw [hm]; split<;>omega
    ·rw [hm]; split<;>omega
   let M:Int:=if n+cy l[i] > 0 then n+cy l[i] else 0
   let D:Int:=if M > d then M else d
   refine wt (L':=[]) (List.nil_sublist _) (aT (fun h1=>?_) (fun h1=>?_))
   ·have h1':M > most:=of_decide_eq_true h1
    refine aT (fun h2=>?_) (fun h2=>?_)
    ·have h2':f < 0:=of_decide_eq_true h2
     refine gQ (sp:=fun k (y:HC [.b (.int .i64),.b (.int .i64),.b (.int .i64),.b (.int .i64)])=>fG most l k y.1 y.2.1 y.2.2.1 y.2.2.2.1) (M,D,(i:Int),(i:Int)+1,()) co rfl ?_
     exact next M D i rfl rfl (if_pos (c:=M > most∧f < 0) ⟨h1',h2'⟩).symm
    ·have h2':¬ f < 0:=of_decide_eq_false h2
     refine gQ (sp:=fun k (y:HC [.b (.int .i64),.b (.int .i64),.b (.int .i64),.b (.int .i64)])=>fG most l k y.1 y.2.1 y.2.2.1 y.2.2.2.1) (M,D,f,(i:Int)+1,()) co rfl ?_
     exact next M D f rfl rfl (if_neg (c:=M > most∧f < 0) (fun h=>h2' h.2)).symm
   ·have h1':¬ M > most:=of_decide_eq_false h1
    refine gQ (sp:=fun k (y:HC [.b (.int .i64),.b (.int .i64),.b (.int .i64),.b (.int .i64)])=>fG most l k y.1 y.2.1 y.2.2.1 y.2.2.2.1) (M,D,f,(i:Int)+1,()) co rfl ?_
    exact next M D f rfl rfl (if_neg (c:=M > most∧f < 0) (fun h=>h1' h.1)).symm
  ·have hi:¬ i < l.length:=kf hlen h
   have hd:l.drop i=[]:=List.drop_eq_nil_of_le (by omega)
   rw [hd]
   exact eW (t:=Lp) (d,f,()) (d,f,()) rfl (fun r w F H _ _=>by rw [kk]; rfl) fun F hF=>rfl
def vb (t:Tok):Bool:=(t.kind != 3||(decide (t.text.size≤18)&&(Lib.atoi t.text.data.toList).isSome))&&decide (t.text.size≤4194304)
def Bv (l:List Tok):Bool:=decide (0 < l.length)&&decide (l.length≤1099511627776)&&l.all vb
theorem CZ {t:Tok} (h:vb t=true):o8 t:=by
 simp only [vb,Bool.and_eq_true,Bool.or_eq_true,decide_eq_true_eq] at h
 refine ⟨fun hk=>?_,h.2⟩
 rcases h.1 with h1 | h1
 ·rw [hk] at h1; exact absurd h1 (by decide)
 ·exact h1
theorem Hu {l:List Tok} (h:Bv l=true):(gn l).ok:=by
 simp only [Bv,Bool.and_eq_true,decide_eq_true_eq] at h
 exact ⟨h.1.1,h.1.2,⟨fun h=>absurd (show (0:Int)=3 from h) (by decide),show (0:Nat)≤4194304 by decide⟩,fun t ht=>CZ (List.all_eq_true.1 h.2 t ht)⟩
def iG (fuel:Nat) (b:ByteArray) (kind:Int):Option (Sum (Int × Int) (List FN)):=match fb b with
 | none=>none
 | some (.inl p)=>if p.2 != 0 then some (.inl p) else none
 | some (.inr l) =>
  if Bv l then
   if decide ((c9 64 l 0 0 0 (-1)).2≥0) then (match l[(c9 64 l 0 0 0 (-1)).2.toNat]? with
    | some t=>some (.inl (t.pos,5))
    | none=>none)
   else match kF fuel l kind with
    | none=>none
    | some (.inl at_)=>some (.inl (at_,6))
    | some (.inr ns)=>some (.inr ns)
  else none
abbrev tWhole:Ty:=.tup [.agg [.slice],.b (.int .i64),.b (.int .i64)]
def FR (v:Sum (Int × Int) (List FN)) (x:tWhole.den) (K:ak):Fact:=match v with
 | .inl p=>Fact.prop (x=(((none,0,0),()),p.1,p.2,())∧K=[])
 | .inr ns=>(Fact.prop (x.2=(0,0,()))).both (tl ns x.1 K)
def fL (fuel:Nat) (b:ByteArray) (kind:Int) {ε σ:Type}:Sp ε σ (Sum (Int × Int) (List FN)):=fun st=>(iG fuel b kind).map fun v=>.ok v st
theorem JU {q:Quiet} {sl:aV} {l:List Tok} {a:Addr} {i:Nat} {t:Tok} (ha:sl.1=some a) (hs:a.spot=none) (hF:∀ F,Holds q.Γ F→(Sl 4 aP sl l).p F) (hg:l[i]? = some t) :
  mK PG q (am ar (.pointer (some ⟨(a.add (i * 4)).block,(a.add (i * 4)).off+2,none⟩))) (.int .i64 t.pos):=by
 intro K hK _ w hw
 obtain ⟨a',cs,T0,h1,h2,h3,h4⟩:=Sl.elem dW (hF K hK) hg
 rw [ha] at h1; cases h1
 obtain ⟨x1,x2,x3⟩:=dQ a hs (i * 4)
 refine lY (T0:=T0) (l:=cs) (by kernel_rfl) (by rw [show (⟨(a.add (i * 4)).block,(a.add (i * 4)).off+2,none⟩:Addr).block=a.block from x1]; exact hw _ _ h3) rfl ?_
 show cs[(a.add (i * 4)).off+2]? = _
 rw [x2]
 have e:((cs.drop (a.off+i * 4)).take 4)[2]? = (aP t)[2]?:=by rw [h4]
 rw [List.getElem?_take,if_pos (by decide),List.getElem?_drop] at e
 exact e
theorem vR {ε σ β:Type} {I:aN ε σ} {Rel:β→tWhole.den→ak→Fact} {Δ:Labels ε σ β} {md:cS} {L1 L2:ak} {L:ak} {Γ:List Fact} {st:σ} {run:Option (Res ε σ β)} {b1:Nat} {x0 x:aV} {y z:Int} (v:β) (K:ak)
  (hL:L=L1++(b1,ap aB [.slice x0.1 x0.2.1 x0.2.2])::L2) (hK:K.Sublist (L1++(b1,ap aB [.slice x.1 x.2.1 x.2.2])::L2)) (hrun:run=some (.ok v st)) (h:∀ F,Holds Γ F→(Rel v ((x,()),y,z,()) K).p F) :
  ay PG I tWhole Rel Δ md st (.op (a7 aB (.pointer (some ⟨b1,0,none⟩)) (.agg #[.slice x.1 x.2.1 x.2.2])) tU fun _=>.ret #[.c (.pointer (some ⟨b1,0,none⟩)) aB,.v (.int .i64 y),.v (.int .i64 z)]) run L Γ:=by
 refine cT (br (L1:=L1) (L2:=L2) (l:=[.slice x0.1 x0.2.1 x0.2.2]) (T:=aB) (T0:=aB) (c:=true) hL (by kernel_rfl) rfl (Nat.le_of_ble_eq_true rfl) (by simp [Value.cells,Value.oneCell'])) ?_
 rintro _ _ _ ⟨rfl,rfl⟩
 refine me v K ((x,()),y,z,()) hK hrun (fun r w F H hF hsp=>?_) h
 exact ua (a:=⟨b1,0,none⟩) (T0:=aB) (l:=[.slice x.1 x.2.1 x.2.2]) (vs:=[.slice x.1 x.2.1 x.2.2]) (by kernel_rfl) (hsp.own _ _ (List.mem_append_right _ (List.mem_append_right _ (List.mem_cons_self ..)))) rfl rfl
theorem IW {ε σ:Type} (I:aN ε σ) (fuel:Nat) (hfuel:fuel≤549755813888) (sl:aV) (b:ByteArray) (hb:b.size≤17179869184) (kind:Int) (hk:kind=0∨kind=1∨kind=2) :
  MeetsO PG I (aa mF #[.slice sl.1 sl.2.1 sl.2.2,.int .i64 kind]) tWhole (fL fuel b kind) FR [ByF sl b,MxF]:=by
 refine Ag sl kind (c5 fun st=>?_)
 unfold ni
 refine cT (bT (z:=[.slice none 0 0]) (by kernel_rfl)) ?_
 rintro _ _ _ ⟨b1,rfl,rfl,rfl⟩
 cases htok:fb b with
 | none=>exact cZ (by simp only [fL,iG,htok]; rfl)
 | some v =>
 refine eb (GZ I sl b hb) (fun A h=>h) (fun h=>by simp only [nX,htok] at h; cases h) (fun e h=>by simp only [nX,htok] at h; cases h) fun x v' st' h=>?_
 simp only [nX,htok,Option.map_some,Option.some.injEq,Res.ok.injEq] at h
 obtain ⟨rfl,rfl⟩:=h
 cases v with
 | inl p =>
  refine bX fun F0 hx=>?_
  obtain rfl:x=((none,0,0),p.1,p.2,()):=hx
  cases hp:(p.2 != 0) with
  | false=>exact cZ (by simp only [fL,iG,htok,hp]; rfl)
  | true =>
  refine aT (fun _=>?_) (fun h=>by cases h)
  exact vR (L1:=[]) (L2:=[]) (x0:=(none,0,0)) (x:=(none,0,0)) (.inl p) [] rfl (List.nil_sublist _) (by simp only [fL,iG,htok,hp]; rfl) fun F hF=>⟨rfl,rfl⟩
 | inr l =>
  refine G9 fun sl2=>jy (bX fun F0 hx=>?_)
  obtain rfl:x=(sl2,0,0,()):=hx
  refine aT (fun h=>by cases h) (fun _=>?_)
  cases hok:Bv l with
  | false=>exact cZ (by simp only [fL,iG,htok,hok]; rfl)
  | true =>
  have hst:=Hu hok
  refine fy (I3 sl2 l hst.2.1 64) (by simp) ?_
  have hW:(fL fuel b kind:Sp ε σ _) st=(if decide ((c9 64 l 0 0 0 (-1)).2≥0) then (match l[(c9 64 l 0 0 0 (-1)).2.toNat]? with
    | some t=>some (Sum.inl (t.pos,(5:Int)))
    | none=>none)
   else match kF fuel l kind with
    | none=>none
    | some (.inl at_)=>some (.inl (at_,6))
    | some (.inr ns)=>some (.inr ns)).map fun v=>.ok v st:=by simp only [fL,iG,htok,hok,if_true]
  rw [hW]
  refine aT (fun h=>?_) (fun h=>?_)
  ·have h':decide ((c9 64 l 0 0 0 (-1)).2≥0)=true:=h
   have h0:(0:Int)≤(c9 64 l 0 0 0 (-1)).2:=of_decide_eq_true h'
   rw [if_pos h']
   obtain ⟨i,hi⟩:=Int.eq_ofNat_of_zero_le h0
   rw [hi,Int.toNat_natCast]
   cases hg:l[i]? with
   | none=>exact cZ rfl
   | some t =>
   have hlt:i < l.length:=(List.getElem?_eq_some_iff.1 hg).1
   refine fk (φ:=∃ a,sl2.1=some a∧a.spot=none) (fun F hF=>Sl.addr (hF (Sl 4 aP sl2 l) (by repeat (first | exact mz | apply ms))) (by omega)) fun ⟨a,ha,hsp⟩=>?_
   refine ft [] (fun _ h=>nomatch h) ?_
   refine Be (t1:=tA) (a.add (i * 4)) (Fo (n:=4) (f:=aP) dW ha (fun F hF=>hF (Sl 4 aP sl2 l) (by repeat (first | exact mz | apply ms))) (by kernel_rfl) i rfl hlt) ?_
   refine Be (t1:=tI) t.pos (JU ha hsp (fun F hF=>hF (Sl 4 aP sl2 l) (by repeat (first | exact mz | apply ms))) hg) ?_
   refine Cx (br (L1:=[]) (L2:=[]) (l:=[.slice none 0 0]) (T:=aB) (T0:=aB) (c:=true) rfl (by kernel_rfl) rfl (Nat.le_of_ble_eq_true rfl) (by simp [Value.cells,Value.oneCell'])) ?_
   rintro _ _ _ ⟨rfl,rfl⟩
   refine ⟨(fun _ h=>nomatch h),?_⟩
   refine me (.inl (t.pos,5)) [] (((none,0,0),()),t.pos,5,()) (List.nil_sublist _) rfl (fun r w F H hF hsp=>?_) fun F hF=>⟨rfl,rfl⟩
   exact ua (a:=⟨b1,0,none⟩) (T0:=aB) (l:=[.slice none 0 0]) (vs:=[.slice none 0 0]) (by kernel_rfl) (hsp.own _ _ (List.mem_append_right _ (List.mem_cons_self ..))) rfl rfl
  ·have h':decide ((c9 64 l 0 0 0 (-1)).2≥0)=false:=h
   rw [if_neg (by rw [h']; decide)]
   refine sT (Ll HF I fuel hfuel sl2 l hst kind hk) (by simp) (fun h=>?_) (fun e h=>?_) fun x v K st' h=>?_
   ·cases hr:kF fuel l kind with
    | none=>rfl
    | some v=>simp only [iw,hr] at h; cases h
   ·simp only [iw] at h
    split at h<;>cases h
   cases hr:kF fuel l kind with
   | none=>simp only [iw,hr] at h; cases h
   | some v2 =>
   simp only [iw,hr,Option.some.injEq,Res.ok.injEq] at h
   obtain ⟨rfl,rfl⟩:=h
   cases v2 with
   | inl y =>
    refine bX fun F0 hx=>?_
    obtain ⟨rfl,rfl⟩:=hx
    refine cT (bT (z:=[.slice none 0 0]) (by kernel_rfl)) ?_
    rintro _ _ _ ⟨b9,rfl,rfl,rfl⟩
    refine cT (br (L1:=[]) (l:=[.slice none 0 0]) (T:=aB) (T0:=aB) (c:=true) rfl (by kernel_rfl) rfl (Nat.le_of_ble_eq_true rfl) (by simp [Value.cells,Value.oneCell'])) ?_
    rintro _ _ _ ⟨rfl,rfl⟩
    refine aT (fun _=>?_) (fun h=>by cases h)
    exact vR (L1:=[_]) (L2:=[]) (x0:=(none,0,0)) (x:=(none,0,0)) (.inl (y,6)) [] rfl (List.nil_sublist _) rfl fun F hF=>⟨rfl,rfl⟩
   | inr ns =>
    obtain ⟨⟨x,⟨⟩⟩,x2⟩:=x
    refine jy (bX fun F0 hx=>?_)
    obtain rfl:x2=(0,true,()):=hx
    refine cT (bT (z:=[.slice none 0 0]) (by kernel_rfl)) ?_
    rintro _ _ _ ⟨b9,rfl,rfl,rfl⟩
    refine cT (br (L1:=[]) (l:=[.slice none 0 0]) (T:=aB) (T0:=aB) (c:=true) rfl (by kernel_rfl) rfl (Nat.le_of_ble_eq_true rfl) (by simp [Value.cells,Value.oneCell'])) ?_
    rintro _ _ _ ⟨rfl,rfl⟩
    refine aT (fun h=>by cases h) (fun _=>?_)
    refine cT (f5 (bs:=[.slice]) (l:=[.slice x.1 x.2.1 x.2.2]) (T0:=aB) (x,()) (Rd.own (List.mem_cons_self ..)) (by kernel_rfl) rfl rfl) ?_
    rintro _ _ _ ⟨rfl,rfl,rfl⟩
    refine vR (L1:=(b9,ap aB [.slice x.1 x.2.1 x.2.2])::K) (L2:=[]) (x0:=(none,0,0)) (x:=x) (.inr ns) K rfl ?_ rfl fun F hF=>⟨rfl,hF (tl ns (x,()) K) (by repeat (first | exact mz | apply ms))⟩
    exact ((List.sublist_append_left K _).cons _)
theorem GC {ε σ:Type} {fuel:Nat} {b:ByteArray} {kind:Int} {st st':σ} {v:Sum (Int × Int) (List FN)} (h:(fL fuel b kind:Sp ε σ _) st=some (.ok v st')):st'=st:=by
 simp only [fL,Option.map_eq_some_iff] at h
 obtain ⟨_,_,h⟩:=h
 cases h; rfl
theorem vo {ε σ:Type} (I:aN ε σ) (fuel:Nat) (hfuel:fuel≤549755813888) (sl:aV) (b:ByteArray) (hb:b.size≤17179869184):MeetsO PG I (aa ii #[.slice sl.1 sl.2.1 sl.2.2]) tWhole (fL fuel b 0) FR [ByF sl b,MxF]:=by
 refine wP sl (c5 fun st=>?_)
 unfold kC
 refine cT (bT (z:=[.slice none 0 0]) (by kernel_rfl)) ?_
 rintro _ _ _ ⟨b1,rfl,rfl,rfl⟩
 refine sT (IW I fuel hfuel sl b hb 0 (.inl rfl)) (fun A h=>h) (fun h=>h) (fun e h=>h) fun x v K st' h=>?_
 obtain ⟨⟨x,⟨⟩⟩,y,z,⟨⟩⟩:=x
 rw [h]
 exact vR (L1:=K) (L2:=[]) (x0:=(none,0,0)) (x:=x) v K rfl (List.sublist_append_left _ _) (by rw [GC h]) fun F hF=>hF _ (List.mem_cons_self ..)
end Go.Proofs.YtjlgcpgjdgeejaaGreatDoor
end

section
namespace Go.Proofs.YtjlgcpgjdgeejaaGreatDoor
open Go
set_option linter.unusedVariables false
set_option maxRecDepth 100000
noncomputable section
def z8:An :=
 .s (.r [none]) (.s (.r [some ai,some ai,some (.tup [.agg [.slice],.b (.int .i64),.b (.int .i64)]),none,none,none,none,some tA,some tU,none,none]) (.s (.r [none,none,none,none,some ai,none,none,none,none,none,some ai,some tA,none,some tI,none,none,none,none,some ai,some tA,none,some tI,none,none,none,none,some ai,some tA,none,some tI,none,none,none]) (.x)))
def oc  : T :=
 .op (aG aj 5 #[(0,.int .u8 102),(1,.int .u8 40),(2,.int .u8 49),(3,.int .u8 41),(4,.int .u8 59)]) ai fun r1 =>
 .op (ig aj aj (.slice r1.1 r1.2.1 r1.2.2)) ai fun r2 =>
 .op (aa ii #[.slice r2.1 r2.2.1 r2.2.2]) (.tup [.agg [.slice],.b (.int .i64),.b (.int .i64)]) fun r3 =>
 .op (bD aB) tA fun r4 =>
 .op (a7 aB (.pointer (some r4)) (.agg #[.slice r3.1.1.1 r3.1.1.2.1 r3.1.1.2.2])) tU fun _ =>
 .ite ((r3.2.2.1:Int)==0) (
 .op (am bf (.pointer (some r4))) ai fun r6 =>
 .ite (((r6.2.1:Int):Int)==7) (
 .op (am bf (.pointer (some r4))) ai fun r7 =>
 .op (bQ bf (.slice r7.1 r7.2.1 r7.2.2) (.int .i64 1)) tA fun r8 =>
 .op (am ar (.pointer (some r8))) tI fun r9 =>
 .ite ((r9:Int)==64) (
 .op (am bf (.pointer (some r4))) ai fun r10 =>
 .op (bQ bf (.slice r10.1 r10.2.1 r10.2.2) (.int .i64 2)) tA fun r11 =>
 .op (am ar (.pointer (some r11))) tI fun r12 =>
 .ite ((r12:Int)==27) (
 .op (am bf (.pointer (some r4))) ai fun r13 =>
 .op (bQ bf (.slice r13.1 r13.2.1 r13.2.2) (.int .i64 6)) tA fun r14 =>
 .op (am ar (.pointer (some ⟨r14.block,r14.off+2,none⟩))) tI fun r15 =>
 .ret #[.v (.bool ((r15:Int)==1))]) (
 .ret #[.v (.bool false)])) (
 .ret #[.v (.bool false)])) (
 .ret #[.v (.bool false)])) (
 .ret #[.v (.bool false)])
theorem BW  : cc Tryz.prog Tryz.f21 z8 []=oc  := by kernel_rfl
theorem B5 {ε σ β:Type} {I:aN ε σ} {t:Ty} {s:Sp ε σ β} {Rel:β→t.den→ak→Fact} {Γ:List Fact}  (h:Sim Tryz.prog I t Rel noLabel none (oc ) s [] Γ):MeetsO Tryz.prog I (aa iD #[]) t s Rel Γ :=
 aq (args:=[]) Tryz.func21 rfl rfl (Nat.le_of_ble_eq_true rfl) (by rw [BW]; exact h)
def rr:An :=
 .s (.r [none]) (.s (.s (.r [none,none,none]) (.c (.s (.r [none]) (.x)) (.x))) (.s (.r [none,some (.tup [.agg [.slice],.b (.int .i64),.b (.int .i64)]),none,none,none,none,some tA,some tU,none,none]) (.s (.s (.r [none,none]) (.c (.s (.r [some tB,none]) (.x)) (.x))) (.s (.s (.r [none]) (.j [] (.b (.l [(6,.b (.int .i64))] (.s (.s (.r [none,none,some ai,none,none]) (.c (.x) (.x))) (.s (.b (.s (.r [none,some ai,none,some tA,some (.c (.agg [.int .i64,.str,.int .i64,.slice,.int .i64])),some tA,some tU]) (.s (.s (.j [(41,.b .bool)] (.r [none,some tI,none,none,none,some tI,none,none])) (.c (.x) (.x))) (.s (.s (.j [(51,.b .bool)] (.r [none,some tI,none,none,none,some tI,none,none,none,none])) (.c (.s (.r [none]) (.x)) (.x))) (.s (.r [none]) (.b (.l [(8,.b (.int .i64))] (.s (.s (.r [none,none,some ai,none,none]) (.c (.x) (.x))) (.s (.b (.s (.d (.q 0 none (.q 1 (some ai) (.q 2 none (.q 3 (some ai) (.q 4 none (.q 5 (some tA) (.q 6 (some tI) (.q 7 (some tA) (.q 8 (some (.c (.agg [.int .i64,.str,.int .i64,.slice,.int .i64]))) (.l 9 (some tA) (.l 10 (some tU) (.e))))))))))))) (.s (.j [(75,.b .bool)] (.r [none,some tI,none,none,none,some tI,none,none])) (.c (.s (.s (.r [none,some tI,none,some tI,none]) (.c (.s (.r [none]) (.x)) (.x))) (.x)) (.x))))) (.r [none,none,none])))))))))) (.r [none,none,none]))))))) (.s (.r [some tB,none]) (.x))))))
def ik (a0_a0:Option Addr × Nat × Nat):T :=
 .ite (decide (((a0_a0.2.1:Int):Int) > 800)) (
 .ret #[.v (.bool true)]) (
 .op (aa ii #[.slice a0_a0.1 a0_a0.2.1 a0_a0.2.2]) (.tup [.agg [.slice],.b (.int .i64),.b (.int .i64)]) fun r1 =>
 .op (bD aB) tA fun r2 =>
 .op (a7 aB (.pointer (some r2)) (.agg #[.slice r1.1.1.1 r1.1.1.2.1 r1.1.1.2.2])) tU fun _ =>
 .ite ((r1.2.2.1:Int) != 0) (
 .op (aa iD #[]) tB fun r4 =>
 .ret #[.v (.bool r4)]) (
 .join 0 [] (
 .loop 1 [.b (.int .i64)] [.int .i64 0] fun x5 =>
 .op (am bf (.pointer (some r2))) ai fun r6 =>
 .ite (decide ((x5.1:Int) < (r6.2.1:Int))) (
 .op (am bf (.pointer (some r2))) ai fun r7 =>
 .op (bQ bf (.slice r7.1 r7.2.1 r7.2.2) (.int .i64 x5.1)) tA fun r8 =>
 .op (am ci (.pointer (some r8))) (.c (.agg [.int .i64,.str,.int .i64,.slice,.int .i64])) fun r9 =>
 .op (bD ci) tA fun r10 =>
 .op (a7 ci (.pointer (some r10)) (.agg #[.int .i64 r9.1,.string r9.2.1,.int .i64 r9.2.2.1,.slice r9.2.2.2.1.1 r9.2.2.2.1.2.1 r9.2.2.2.1.2.2,.int .i64 r9.2.2.2.2.1])) tU fun _ =>
 .join 2 [.b .bool] (
 .op (am ar (.pointer (some r10))) tI fun r12 =>
 .ite ((r12:Int)==1) (
 .out 2 [.bool true]) (
 .op (am ar (.pointer (some r10))) tI fun r13 =>
 .out 2 [.bool ((r13:Int)==2)])) fun x14 =>
 .ite x14.1 (
 .out 1 [.int .i64 (IntKind.i64.wrap (x5.1+1))]) (
 .join 2 [.b .bool] (
 .op (am ar (.pointer (some ⟨r10.block,r10.off+4,none⟩))) tI fun r15 =>
 .ite (decide ((r15:Int) < 0)) (
 .out 2 [.bool true]) (
 .op (am ar (.pointer (some ⟨r10.block,r10.off+4,none⟩))) tI fun r16 =>
 .out 2 [.bool (decide ((r16:Int) > (a0_a0.2.1:Int)))])) fun x17 =>
 .ite x17.1 (
 .ret #[.v (.bool false)]) (
 .loop 2 [.b (.int .i64)] [.int .i64 0] fun x18 =>
 .op (am eB (.pointer (some ⟨r10.block,r10.off+3,none⟩))) ai fun r19 =>
 .ite (decide ((x18.1:Int) < (r19.2.1:Int))) (
 .draw <|
 .opq (am bf (.pointer (some r2))) ai fun r20 =>
 .opq (am eB (.pointer (some ⟨r10.block,r10.off+3,none⟩))) ai fun r21 =>
 .opq (bQ eB (.slice r21.1 r21.2.1 r21.2.2) (.int .i64 x18.1)) tA fun r22 =>
 .opq (am ar (.pointer (some r22))) tI fun r23 =>
 .opq (bQ bf (.slice r20.1 r20.2.1 r20.2.2) (.int .i64 r23)) tA fun r24 =>
 .opq (am ci (.pointer (some r24))) (.c (.agg [.int .i64,.str,.int .i64,.slice,.int .i64])) fun r25 =>
 .opl (bD ci) tA fun r26 =>
 .op (a7 ci (.pointer (some r26)) (.agg #[.int .i64 r25.1,.string r25.2.1,.int .i64 r25.2.2.1,.slice r25.2.2.2.1.1 r25.2.2.2.1.2.1 r25.2.2.2.1.2.2,.int .i64 r25.2.2.2.2.1])) tU fun _ =>
 .join 3 [.b .bool] (
 .op (am ar (.pointer (some r26))) tI fun r28 =>
 .ite ((r28:Int) != 1) (
 .op (am ar (.pointer (some r26))) tI fun r29 =>
 .out 3 [.bool ((r29:Int) != 2)]) (
 .out 3 [.bool false])) fun x30 =>
 .ite x30.1 (
 .op (am ar (.pointer (some ⟨r26.block,r26.off+4,none⟩))) tI fun r31 =>
 .op (am ar (.pointer (some ⟨r10.block,r10.off+4,none⟩))) tI fun r32 =>
 .ite (decide ((r31:Int) < r32)) (
 .ret #[.v (.bool false)]) (
 .out 1 [.int .i64 (IntKind.i64.wrap (x5.1+1))])) (
 .out 2 [.int .i64 (IntKind.i64.wrap (x18.1+1))])) (
 .out 1 [.int .i64 (IntKind.i64.wrap (x5.1+1))])))) (
 .out 0 [])) fun x33 =>
 .op (aa iD #[]) tB fun r34 =>
 .ret #[.v (.bool r34)]))
theorem sb (a0_a0:Option Addr × Nat × Nat):cc Tryz.prog Tryz.f4 rr [.slice a0_a0.1 a0_a0.2.1 a0_a0.2.2]=ik a0_a0:=by kernel_rfl
theorem rY {ε σ β:Type} {I:aN ε σ} {t:Ty} {s:Sp ε σ β} {Rel:β→t.den→ak→Fact} {Γ:List Fact} (a0_a0:Option Addr × Nat × Nat) (h:Sim Tryz.prog I t Rel noLabel none (ik a0_a0) s [] Γ):MeetsO Tryz.prog I (aa mA #[.slice a0_a0.1 a0_a0.2.1 a0_a0.2.2]) t s Rel Γ :=
 aq (args:=[.slice a0_a0.1 a0_a0.2.1 a0_a0.2.2]) Tryz.func4 rfl rfl (Nat.le_of_ble_eq_true rfl) (by rw [sb]; exact h)
end
end Go.Proofs.YtjlgcpgjdgeejaaGreatDoor
end

section
namespace Go.Proofs.YtjlgcpgjdgeejaaGreatDoor
open Go
set_option linter.unusedSimpArgs false
set_option linter.unusedVariables false
set_option linter.constructorNameAsVariable false
set_option maxRecDepth 100000
theorem Ik {α:Type} {n:Nat} {f:α→List Value} {Γ:List Fact} {x:aV} {l:List α} {a:Addr} (hm:Sl n f x l∈Γ) (ha:x.1=some a) {t:TypeId} (ht:p8 PG t=some n) {i:Int} (k:Nat) (hi:i=k) (hk:k < l.length) :
  PVal PG Γ (bQ t (.slice x.1 x.2.1 x.2.2) (.int .i64 i)) (.pointer (some (a.add (k * n)))):=fun F hF w hw=>by
 have hl:=(hF _ hm).1
 rw [ha,ir ht (by omega) (by omega)]
 rw [hi]; rfl
theorem Ir {α:Type} {n:Nat} {f:α→List Value} (hf:∀ x,(f x).length=n) {Γ:List Fact} {x:aV} {l:List α} {a:Addr} (hm:Sl n f x l∈Γ) (ha:x.1=some a) {k:Nat} {y:α} (hy:l[k]? = some y) {T:TypeId} (hT:d5 PG T=some true) {j:Nat} {v:Value} (hv:(f y)[j]? = some v) {b:Addr} (hb:b.block=(a.add (k * n)).block∧b.off=(a.add (k * n)).off+j∧b.spot=none) :
  PVal PG Γ (am T (.pointer (some b))) v:=fun F hF w hw=>by
 obtain ⟨a',cs,T0,h1,h2,h3,h4⟩:=Sl.elem hf (hF _ hm) hy
 rw [ha] at h1; cases h1
 obtain ⟨x1,x2,x3⟩:=dQ a h2 (k * n)
 have hj:j < n:=by
  rcases Nat.lt_or_ge j n with h | h
  ·exact h
  ·rw [List.getElem?_eq_none (by rw [hf]; exact h)] at hv; cases hv
 refine lY (T0:=T0) (l:=cs) hT (by rw [hb.1,x1]; exact hw _ _ h3) hb.2.2 ?_
 rw [hb.2.1,x2]
 have e:((cs.drop (a.off+k * n)).take n)[j]? = (f y)[j]?:=by rw [h4]
 rw [List.getElem?_take,if_pos hj,List.getElem?_drop] at e
 rw [e,hv]
section
variable {ε σ β:Type} {I:aN ε σ} {t:Ty} {Rel:β→t.den→ak→Fact} {Δ:Labels ε σ β} {md:cS} {L Lq:ak} {Γ Γq:List Fact} {st:σ} {run:Option (Res ε σ β)}
theorem JJ {α:Type} {n:Nat} {f:α→List Value} {x:aV} {l:List α} {m:T} (hm:Sl n f x l∈Γ) (hk:0 < l.length) (h:∀ a,x.1=some a→a.spot=none→ay PG I t Rel Δ md st m run L Γ):ay PG I t Rel Δ md st m run L Γ :=
 fk (φ:=∃ a,x.1=some a∧a.spot=none) (fun F hF=>Sl.addr (hF _ hm) hk) fun ⟨a,h1,h2⟩=>h a h1 h2
theorem JN {α:Type} {n:Nat} {f:α→List Value} (hf:∀ x,(f x).length=n) {x:aV} {l:List α} (hm:Sl n f x l∈Γ) {T1 T2:TypeId} (ht:p8 PG T1=some n) (hT:d5 PG T2=some true) {i:Int} (j:Nat) (hi:i=j) {y:α} (hy:l[j]? = some y) {b1:B} (v:b1.den) (hv:(f y)[0]? = some (b1.enc v)) {k:b1.den→T}
  (hk:ay PG I t Rel Δ none st (k v) run L Γ):ay PG I t Rel Δ md st (.op (bQ T1 (.slice x.1 x.2.1 x.2.2) (.int .i64 i)) tA fun r=>.op (am T2 (.pointer (some r))) (.c (.b b1)) k) run L Γ:=by
 have hj:j < l.length:=(List.getElem?_eq_some_iff.1 hy).1
 refine JJ hm (by omega) fun a ha hs=>dK (t1:=tA) (a.add (j * n)) (Ik hm ha ht j hi hj) (dK (t1:=.c (.b b1)) v (Ir hf hm ha hy hT hv (zM hs _)) hk)
theorem Mi {α:Type} {n:Nat} {f:α→List Value} (hf:∀ x,(f x).length=n) {x:aV} {l:List α} (hm:Sl n f x l∈Γ) {T1 T2:TypeId} (ht:p8 PG T1=some n) (hT:d5 PG T2=some true) {i:Int} (j:Nat) (hi:i=j) {y:α} (hy:l[j]? = some y) {d:Nat} {b1:B} (v:b1.den) (hv:(f y)[d]? = some (b1.enc v)) {k:b1.den→T}
  (hk:ay PG I t Rel Δ none st (k v) run L Γ):ay PG I t Rel Δ md st (.op (bQ T1 (.slice x.1 x.2.1 x.2.2) (.int .i64 i)) tA fun r=>.op (am T2 (.pointer (some ⟨r.block,r.off+d,none⟩))) (.c (.b b1)) k) run L Γ:=by
 have hj:j < l.length:=(List.getElem?_eq_some_iff.1 hy).1
 refine JJ hm (by omega) fun a ha hs=>dK (t1:=tA) (a.add (j * n)) (Ik hm ha ht j hi hj) (dK (t1:=.c (.b b1)) v (Ir hf hm ha hy hT hv ⟨rfl,rfl,rfl⟩) hk)
def th (es:List E):Fact:=⟨fun F=>∀ e∈es,(Sl 1 si e.ks e.f.kids).p F,fun F F' hl h e he=>(Sl 1 si e.ks e.f.kids).mono F F' hl (h e he)⟩
theorem GT (l:List Int):l.map (Value.int .i64)=rows si l:=by
 induction l with
 | nil=>rfl
 | cons x l ih=>rw [List.map_cons,fF,ih]; rfl
theorem TreeP.facts {es:List E} {x:aV} {K:ak} {F:Heap} (h:TreeP es x K) (hK:∀ p∈K,F p.1=some p.2):(Sl 5 f9 x es).p F∧(th es).p F:=by
 obtain ⟨K0,rfl,hB,hE⟩:=h
 refine ⟨Buf.sl hB (by decide) rfl et fun p hp=>hK p (List.mem_append_left _ hp),fun e he=>?_⟩
 exact Buf.sl (hE e he) (by decide) (GT _) Bo fun p hp=>hK p (List.mem_append_right _ (List.mem_flatMap.2 ⟨e,he,hp⟩))
theorem Gi {m:T} {ns:List FN} {x:aV} {K:ak} (h:∀ es,es.map (·.f)=ns→ay PG I t Rel Δ none st m run L (Sl 5 f9 x es::th es::Γ)):ay PG I t Rel Δ md st m run (K++L) (tl ns (x,()) K::Γ):=by
 refine gM (G9 fun es=>bX fun F0 hx=>?_)
 obtain ⟨hns,hT⟩:=hx
 have hT':TreeP es x K:=hT
 refine sj K fun Γ' h1 h2=>?_
 refine wC (A:=th es) (fun F hF=>(hT'.facts fun p hp=>hF _ (h2 p hp)).2) (wC (A:=Sl 5 f9 x es) (fun F hF=>(hT'.facts fun p hp=>hF _ (List.mem_cons_of_mem _ (h2 p hp))).1) (Gy (h es hns) fun A hA=>?_))
 rcases List.mem_cons.1 hA with rfl | hA
 ·exact List.mem_cons_self ..
 ·rcases List.mem_cons.1 hA with rfl | hA
  ·exact List.mem_cons_of_mem _ (List.mem_cons_self ..)
  ·exact List.mem_cons_of_mem _ (List.mem_cons_of_mem _ (h1 A hA))
end
def Gq (x:Option (Sum (Int × Int) (List FN))):Bool:=match x with
 | some (.inr ns)=>ns.length==7&&((ns[1]?.map fun n=>n.kind==64).getD false)&&((ns[2]?.map fun n=>n.kind==27).getD false)&&((ns[6]?.map fun n=>n.num==1).getD false)
 | _=>false
abbrev p9:ByteArray:=⟨#[102,40,49,41,59]⟩
theorem Hs:Gq (iG 8 p9 0)=true:=by kernel_rfl
theorem EK {ε σ β:Type} {I:aN ε σ} {t:Ty} {Rel:β→t.den→ak→Fact} {Δ:Labels ε σ β} {md:cS} {L:ak} {Γ:List Fact} {st:σ} {run:Option (Res ε σ β)} {n:Nat} {ps:Array (Nat × Value)} {k:aV→T} (b:ByteArray) (hn:b.size=n) (h0:0 < n) (h1:n≤10000)
  (hf:Instr.fill (fun i=>some (i * 1,1)) ((Array.range (n * 1)).map ((Value.int .u8 0).cells[· % (Value.int .u8 0).cells.size]!)) ps.toList=some (rows dL b.data.toList).toArray)
  (hk:∀ y,ay PG I t Rel Δ none st (k y) run L (ByF y b::Γ)):ay PG I t Rel Δ md st (.op (aG aj n ps) ai fun r1=>.op (ig aj aj (.slice r1.1 r1.2.1 r1.2.2)) ai k) run L Γ:=by
 intro H r w F res S hs hΓ hsp hq
 have hrun:=k5 (P:=PG) (w:=w) (t:=aj) (e:=ax) (n:=n) (size:=1) (ps:=ps) (cells:=(rows dL b.data.toList).toArray) (zero:=.int .u8 0) (by kernel_rfl) (by omega) (by kernel_rfl) hf (by omega)
 have e1:PG.underlying aj=some (.slice ax):=by kernel_rfl
 have e2:PG.underlying ax=some (.int .u8):=by kernel_rfl
 have hrun1:(aG aj n ps).run PG w=.ok (.value (.slice (some ⟨w.heap.size,0,none⟩) n n)) (w.alloc (ap ax (rows dL b.data.toList))):=by simpa using hrun
 let C:Array Value:=(rows dL b.data.toList).toArray
 have hC:C.size=n:=by show (rows dL b.data.toList).toArray.size=n; rw [List.size_toArray,nP,hn]
 have hrun2:(ig aj aj (.slice (some ⟨w.heap.size,0,none⟩) n n)).run PG (w.alloc (ap ax (rows dL b.data.toList)))=.ok (.value (.slice (some ⟨w.heap.size,0,none⟩) n n)) (w.alloc (.cells C ax (C.size,C.size+1))):=by
  have h3:=Lib.run_convert_bytes_const (P:=PG) w aj ax C n n e1 e2
  simp only [ig,cG,Sem.run_bind]
  have h4:(w.alloc (ap ax (rows dL b.data.toList)))=w.alloc (.cells C ax):=rfl
  rw [h4,h3]; rfl
 simp only [T.wp,hrun1]
 refine ⟨(some ⟨w.heap.size,0,none⟩,n,n),rfl,?_⟩
 show e8 _ _ _ ((ig aj aj (.slice (some ⟨w.heap.size,0,none⟩) n n)).run PG (w.alloc (ap ax (rows dL b.data.toList))))
 rw [hrun2]
 refine ⟨(some ⟨w.heap.size,0,none⟩,n,n),rfl,?_⟩
 have hle:=hsp.new_le (.cells C ax (C.size,C.size+1))
 refine d7 hle (hk _ H r _ _ res S hs (Holds.cons ((I.inv st H).mono _ _ hle (hΓ _ (List.mem_cons_self ..))) (Holds.cons ?_ (Holds.mono (fun A hA=>hΓ A (List.mem_cons_of_mem _ hA)) hle))) (hsp.newF _) trivial)
 refine ⟨hn.symm,Nat.le_refl _,.inr ⟨⟨w.heap.size,0,none⟩,C,ax,(C.size,C.size+1),rfl,rfl,by simp [Heap.ins],fun i hi=>?_⟩⟩
 have h8:=nT pt b.data.toList i b[i] (vh b i hi)
 have h9:(((rows dL b.data.toList).drop (i * 1)).take 1)[0]? = (dL b[i])[0]?:=by rw [h8]
 rw [List.getElem?_take,if_pos (by decide),List.getElem?_drop,Nat.mul_one,Nat.add_zero] at h9
 show (rows dL b.data.toList).toArray[0+i]? = _
 rw [Nat.zero_add,List.getElem?_toArray,h9]
 rfl
theorem Jn {ε:Type}:Meets PG (I0:aN ε Unit) (aa iD #[]) tB (Pure.pure true) bm [MxF]:=by
 refine B5 (c5 fun st=>?_)
 unfold oc
 refine EK p9 rfl (by decide) (by decide) (by kernel_rfl) fun y=>?_
 have hk:=Hs
 cases hw:iG 8 p9 0 with
 | none=>rw [hw] at hk; cases hk
 | some v =>
 cases v with
 | inl p=>rw [hw] at hk; cases hk
 | inr ns =>
 rw [hw] at hk
 simp only [Gq,Bool.and_eq_true] at hk
 obtain ⟨⟨⟨h7,h1⟩,h2⟩,h6⟩:=hk
 have hlen:ns.length=7:=eq_of_beq h7
 have hP:(fL 8 p9 0:Sp ε Unit _) ()=some (.ok (.inr ns) ()):=by simp only [fL,hw]; rfl
 refine sT (vo I0 8 (by decide) y p9 (by decide)) (by simp) (fun h=>by rw [hP] at h; cases h) (fun e h=>by rw [hP] at h; cases h) fun x v K st' h=>?_
 rw [hP] at h
 obtain rfl:v=.inr ns:=by cases h; rfl
 obtain ⟨⟨sl,⟨⟩⟩,x2⟩:=x
 refine jy (bX fun F0 hx=>?_)
 obtain rfl:x2=(0,0,()):=hx
 refine Gi fun es hes=>?_
 have hle:es.length=7:=by rw [← hlen,← hes,List.length_map]
 refine cT (bT (z:=[.slice none 0 0]) (by kernel_rfl)) ?_
 rintro _ _ _ ⟨b4,rfl,rfl,rfl⟩
 refine cT (br (L1:=[]) (l:=[.slice none 0 0]) (T:=aB) (T0:=aB) (c:=true) rfl (by kernel_rfl) rfl (Nat.le_of_ble_eq_true rfl) (by simp [Value.cells,Value.oneCell'])) ?_
 rintro _ _ _ ⟨rfl,rfl⟩
 have hl:∀ F,Holds (Sl 5 f9 sl es::th es::[ByF y p9,MxF]) F→sl.2.1=7:=fun F hF=>by rw [(hF (Sl 5 f9 sl es) (List.mem_cons_self ..)).1,hle]
 have hfin:∀ (st':Unit),(Pure.pure true:Sp ε Unit Bool) st=some (.ok true st'):=fun _=>rfl
 refine aT (fun _=>?_) (fun h=>by cases h)
 refine fQ (b1:=.slice) sl (List.mem_cons_self ..) (by kernel_rfl) rfl rfl ?_
 refine fk hl fun hl=>aT (fun _=>?_) (fun h=>by have h':((sl.2.1:Int)==7)=false:=h; rw [hl] at h'; cases h')
 have get:∀ (i:Nat) (p:FN→Bool),((ns[i]?.map p).getD false)=true→∃ e,es[i]? = some e∧p e.f=true:=fun i p h=>by
  cases hn:ns[i]? with
  | none=>rw [hn] at h; cases h
  | some f =>
   rw [hn] at h
   obtain ⟨e,h3,h4⟩:=Lc hes hn
   exact ⟨e,h3,by rw [h4]; exact h⟩
 obtain ⟨e1,g1,p1⟩:=get 1 _ h1
 obtain ⟨e2,g2,p2⟩:=get 2 _ h2
 obtain ⟨e6,g6,p6⟩:=get 6 _ h6
 refine fQ (b1:=.slice) sl (List.mem_cons_self ..) (by kernel_rfl) rfl rfl ?_
 refine JN (b1:=.int .i64) et (List.mem_cons_self ..) (by kernel_rfl) (by kernel_rfl) 1 rfl g1 e1.f.kind rfl (aT (fun _=>?_) (fun h=>by have h':(e1.f.kind==64)=false:=h; rw [h'] at p1; cases p1))
 refine fQ (b1:=.slice) sl (List.mem_cons_self ..) (by kernel_rfl) rfl rfl ?_
 refine JN (b1:=.int .i64) et (List.mem_cons_self ..) (by kernel_rfl) (by kernel_rfl) 2 rfl g2 e2.f.kind rfl (aT (fun _=>?_) (fun h=>by have h':(e2.f.kind==27)=false:=h; rw [h'] at p2; cases p2))
 refine fQ (b1:=.slice) sl (List.mem_cons_self ..) (by kernel_rfl) rfl rfl ?_
 refine Mi (b1:=.int .i64) et (List.mem_cons_self ..) (by kernel_rfl) (by kernel_rfl) 6 rfl g6 e6.f.num rfl ?_
 exact f8 (t:=tB) true (by rw [show ((e6.f.num:Int)==1)=true from p6]; rfl) rfl
end Go.Proofs.YtjlgcpgjdgeejaaGreatDoor
end

section
namespace Go.Proofs.YtjlgcpgjdgeejaaGreatDoor
open Go
set_option linter.unusedSimpArgs false
set_option linter.unusedVariables false
set_option linter.constructorNameAsVariable false
set_option maxRecDepth 100000
def rP (s:ByteArray):Nat→Nat→Bool
 | 0,i=>decide (s.size≤i)
 | f+1,i=>if s.size≤i then true else if (cq (s.extract i (min (i+4) s.size)) 0).2.2.1 then rP s f (i+(cq (s.extract i (min (i+4) s.size)) 0).2.1.toNat) else false
def wW (s:ByteArray):Bool:=rP s (s.size+1) 0
theorem KM {b:ByteArray} {i:Nat} (h:(cq b i).2.2.1=true):∃ n:Nat,1≤n∧n≤4∧(cq b i).2.1=(n:Int):=by
 have hn4:=Cm (q7 b i)
 unfold cq at h ⊢
 by_cases h1:b.size≤i
 ·rw [if_pos h1] at h; cases h
 rw [if_neg h1] at h ⊢
 by_cases h2:(ce (bN b i)).1=0∨b.size - i < (ce (bN b i)).1
 ·rw [if_pos h2] at h; cases h
 rw [if_neg h2] at h ⊢
 revert h
 cases e7 b ((ce (bN b i)).1 - 1) (i+1) (ce (bN b i)).2 with
 | none=>intro h; cases h
 | some r =>
  simp only
  by_cases h3:ib r (ce (bN b i)).1=true
  ·rw [if_pos h3]; exact fun _=>⟨_,by omega,hn4,rfl⟩
  ·rw [if_neg h3]; intro h; cases h
def dZ (s:ByteArray):Bool:=!(s.toList==kE.toList||(c6 (aY s 0)||iA s))&&(List.range s.size).all fun i=>d1 (aY s i)||c6 (aY s i)
section
variable {ε β:Type} {t:Ty} {Rel:β→t.den→ak→Fact} {Δ:Labels ε Unit β} {md:cS} {Γ:List Fact} {st:Unit} {L:ak}
end
def Cv (s l:ByteArray):Bool:=!(s.toList==kE.toList)&&(!(Bu s k_sp)&&Bu (k_sp++l++k_sp) (k_sp++s++k_sp))
def EG (s sep:ByteArray):List ByteArray:=Lib.splitB sep 0 (Lib.countB s sep) s
def DM (s:ByteArray):Bool:=(s.toList==knull.toList||(s.toList==kundefined.toList||(s.toList==ktrue.toList||s.toList==kfalse.toList)))||(EG s k_dot).all dZ
end Go.Proofs.YtjlgcpgjdgeejaaGreatDoor
end

section
namespace Go.Proofs.YtjlgcpgjdgeejaaGreatDoor
open Go
set_option linter.unusedVariables false
set_option linter.constructorNameAsVariable false
set_option maxRecDepth 100000
def dh (k:Int) (s:ByteArray) (n:Int):Bool :=
 (bif ((k:Int)==10) then (bif (s.toList==kE.toList) then (bif (decide ((n:Int)≥0)) then ((decide ((n:Int)≤9007199254740991)))
 else (false))
 else (false))
 else (bif ((k:Int)==81) then (bif (s.toList==kE.toList) then (bif (decide ((n:Int)≥(-9007199254740991))) then ((decide ((n:Int)≤9007199254740991)))
 else (false))
 else (false))
 else (bif (((k:Int)==11)||((k:Int)==82)) then (bif ((n:Int)==0) then ((wW s))
 else (false))
 else (bif ((k:Int)==23) then (bif ((n:Int)==0) then ((Cv s jo))
 else (false))
 else (bif ((k:Int)==24) then (bif ((n:Int)==0) then ((Cv s Jp))
 else (false))
 else (bif ((k:Int)==26) then (bif ((n:Int)==0) then ((Cv s Hm))
 else (false))
 else (bif ((k:Int)==80) then (bif ((n:Int)==0) then ((DM s))
 else (false))
 else (bif (((k:Int)==40)||(((k:Int)==56)||(((k:Int)==47)||((k:Int)==85)))) then (bif (((Int.fdiv n (2 ^ min (1:Int).toNat IntKind.i64.bits)):Int)==0) then ((dZ s))
 else (false))
 else (bif ((k:Int)==44) then (bif (((eE n 4):Int)==0) then ((dZ s))
 else (false))
 else (bif ((k:Int)==66) then (bif (((eE n 7):Int)==0) then ((dZ s))
 else (false))
 else (bif (((k:Int)==17)||(((k:Int)==21)||(((k:Int)==29)||(((k:Int)==32)||(((k:Int)==41)||(((k:Int)==42)||(((k:Int)==43)||(((k:Int)==45)||(((k:Int)==48)||(((k:Int)==49)||(((k:Int)==51)||(((k:Int)==52)||(((k:Int)==62)||((k:Int)==67)))))))))))))) then (bif ((n:Int)==0) then ((dZ s))
 else (false))
 else (bif ((n:Int)==0) then ((s.toList==kE.toList))
 else (false)))))))))))))
end Go.Proofs.YtjlgcpgjdgeejaaGreatDoor
end

section
namespace Go.Proofs.YtjlgcpgjdgeejaaGreatDoor
open Go
set_option linter.unusedSimpArgs false
set_option linter.unusedVariables false
set_option linter.constructorNameAsVariable false
set_option maxRecDepth 100000
def inB (ns:List FN) (k:Int):Bool:=decide (0≤k)&&decide (k < ns.length)
section
variable {ε:Type} (sl:aV) (es:List E) (n:Nat) (e:E) (he:es[n]? = some e)
end
end Go.Proofs.YtjlgcpgjdgeejaaGreatDoor
end

section
namespace Go.Proofs.YtjlgcpgjdgeejaaGreatDoor
open Go
set_option linter.unusedSimpArgs false
set_option linter.unusedVariables false
set_option linter.constructorNameAsVariable false
set_option maxRecDepth 100000
structure Bw (t:Tok):Prop where
 name:t.kind=1→dZ t.text=true
 num:t.kind=3→0≤lp t.text∧lp t.text≤9007199254740991
 str:t.kind=4∨t.kind=5∨t.kind=6∨t.kind=7∨t.kind=8→wW t.text=true
 sign:t.kind=9→t.text.size≤3
structure B8 (B:Int) (l:List Tok):Prop where
 len:0 < l.length
 endk:∀ (i:Nat) (t:Tok),l[i]? = some t→i+1 < l.length→t.kind≠10
 last:∀ (i:Nat) (t:Tok),l[i]? = some t→i+1=l.length→t.kind=10
 pos:∀ (i:Nat) (t:Tok),l[i]? = some t→0≤t.pos∧t.pos≤B
 step:∀ (i:Nat) (t u:Tok),l[i]? = some t→l[i+1]? = some u→t.pos≤u.pos∧(t.kind=9→t.pos+t.text.size≤u.pos)
 text:∀ (i:Nat) (t:Tok),l[i]? = some t→Bw t
 bound:B≤1099511627776
structure bV (B:Int) (l:List Tok) (s:PSt):Prop where
 tk:B8 B l
 hl:s.l=l
 i:s.i < l.length
 sp:s.split=true→∃ t:Tok,l[s.i]? = some t∧t.kind=9∧s.left.kind=9∧1≤s.left.text.size∧s.left.text.size≤2∧t.pos≤s.left.pos∧s.left.pos+s.left.text.size≤t.pos+t.text.size
def mu (s:PSt):Nat:=4 * (s.l.length - 1 - s.i)+if s.split then s.left.text.size else 3
section
variable {B:Int} {l:List Tok} {s s':PSt} {α β:Type}
theorem Il (hs:bV B l s) (k:Nat):∃ t:Tok,s.at k=t∧l[min k (l.length - 1)]? = some t:=by
 have h0:=hs.tk.len
 have h1:min k (l.length - 1) < l.length:=by omega
 refine ⟨l[min k (l.length - 1)],?_,List.getElem?_eq_getElem h1⟩
 unfold PSt.at
 rw [hs.hl,List.getD_eq_getElem?_getD,List.getElem?_eq_getElem h1]
 rfl
theorem io (hs:bV B l s):∃ t:Tok,l[s.i]? = some t∧((s.split=false∧s.now=t)∨(s.split=true∧s.now=s.left∧t.kind=9∧s.left.kind=9∧1≤s.left.text.size∧s.left.text.size≤2∧t.pos≤s.left.pos∧s.left.pos+s.left.text.size≤t.pos+t.text.size)):=by
 obtain ⟨t,h1,h2⟩:=Il hs s.i
 have hi:=hs.i
 rw [show min s.i (l.length - 1)=s.i by omega] at h2
 refine ⟨t,h2,?_⟩
 unfold PSt.now
 cases hsp:s.split with
 | false=>exact .inl ⟨rfl,h1⟩
 | true =>
  obtain ⟨u,hu,h⟩:=hs.sp hsp
  rw [h2] at hu; cases hu
  exact .inr ⟨rfl,rfl,h⟩
theorem fU (hs:bV B l s):Bw s.now:=by
 obtain ⟨t,ht,h | h⟩:=io hs
 ·rw [h.2]; exact hs.tk.text _ _ ht
 ·obtain ⟨_,h2,h3,h4,h5,h6,_⟩:=h
  rw [h2]
  exact ⟨fun h=>by omega,fun h=>by omega,fun h=>by omega,fun _=>by omega⟩
theorem bq (hs:bV B l s):0≤s.now.pos∧s.now.pos≤B:=by
 obtain ⟨t,ht,h | h⟩:=io hs
 ·rw [h.2]; exact hs.tk.pos _ _ ht
 ·obtain ⟨_,h2,h3,h4,h5,h6,h7,h8⟩:=h
  rw [h2]
  have h1:=hs.tk.pos _ _ ht
  have hk:s.i+1 < l.length:=by
   have:=hs.i
   by_cases hl:s.i+1=l.length
   ·have:=hs.tk.last _ _ ht hl; omega
   ·omega
  have hu:=List.getElem?_eq_getElem hk
  have h9:=(hs.tk.step _ _ _ ht hu).2 h3
  have:=hs.tk.pos _ _ hu
  omega
theorem JM (hs:bV B l s):1≤mu s:=by
 unfold mu
 split
 ·rename_i h; obtain ⟨_,_,_,_,h1,_⟩:=hs.sp h; omega
 ·omega
theorem uB (hs:bV B l s) (hk:s.now.kind≠10):∃ s',(yM s=some (.ok () s'))∧bV B l s'∧mu s' < mu s∧s.now.pos≤s'.now.pos:=by
 have hi:=hs.i
 have hlt:s.i+1 < l.length:=by
  obtain ⟨t,ht,h⟩:=io hs
  by_cases hl:s.i+1=l.length
  ·exfalso
   have:=hs.tk.last _ _ ht hl
   rcases h with h | h
   ·rw [h.2] at hk; exact hk this
   ·omega
  ·omega
 have hI:bV B l { s with split:=false,i:=min (s.i+1) (s.l.length - 1) }:=⟨hs.tk,hs.hl,by rw [hs.hl]; show min (s.i+1) (l.length - 1) < l.length; omega,fun h=>by cases h⟩
 refine ⟨_,rfl,hI,?_,?_⟩
 ·have:=JM hs
  unfold mu
  rw [hs.hl]
  show 4 * (l.length - 1 - min (s.i+1) (l.length - 1))+(if (false=true) then s.left.text.size else 3) < 4 * (l.length - 1 - s.i)+(if s.split=true then s.left.text.size else 3)
  rw [if_neg (by decide)]
  split
  ·rename_i h; obtain ⟨_,_,_,_,h1,_⟩:=hs.sp h; omega
  ·omega
 ·obtain ⟨t,ht,h⟩:=io hs
  have hu:=List.getElem?_eq_getElem hlt
  have hn:(PSt.now { s with split:=false,i:=min (s.i+1) (s.l.length - 1) }).pos=(l[s.i+1]).pos:=by
   unfold PSt.now
   show (if false=true then s.left else _).pos=_
   rw [if_neg (by decide)]
   obtain ⟨u,h1,h2⟩:=Il hI (s.i+1)
   show (PSt.at _ (min (s.i+1) (s.l.length - 1))).pos=_
   have hmin:min (s.i+1) (s.l.length - 1)=s.i+1:=by rw [hs.hl]; omega
   rw [hmin] at h1 ⊢
   rw [show min (s.i+1) (l.length - 1)=s.i+1 by omega,hu] at h2
   rw [h1]; cases h2; rfl
  rw [hn]
  have h9:=hs.tk.step _ _ _ ht hu
  rcases h with h | h
  ·rw [h.2]; exact h9.1
  ·obtain ⟨_,h2,h3,h4,h5,h6,h7,h8⟩:=h
   rw [h2]
   have:=h9.2 h3
   omega
def W (B:Int) (m:PM α) (s:PSt) (Q:α→PSt→Prop):Prop:=match m s with
 | none=>False
 | some (.err e)=>0≤e∧e≤B
 | some (.ok a s')=>Q a s'
theorem W.mono {m:PM α} {Q Q':α→PSt→Prop} (h:W B m s Q) (hq:∀ a s',Q a s'→Q' a s'):W B m s Q':=by
 unfold W at h ⊢
 split at h<;>simp_all
theorem ah {m:PM α} {f:α→PM β} {Q:β→PSt→Prop} (h:W B m s fun a s'=>W B (f a) s' Q):W B (m>>=f) s Q:=by
 unfold W at h
 change W B (Sp.bind m f) s Q
 unfold W Sp.bind
 cases hm:m s with
 | none=>rw [hm] at h; exact h.elim
 | some r=>cases r with
  | err e=>rw [hm] at h; simpa using h
  | ok a s'=>rw [hm] at h; simpa [W] using h
theorem aH {a:α} {Q:α→PSt→Prop} (h:Q a s):W B (pure a:PM α) s Q:=h
theorem bY {c:Bool} {x y:PM α} {Q:α→PSt→Prop} (h1:c=true→W B x s Q) (h2:c=false→W B y s Q):W B (cond c x y) s Q:=by
 cases c with
 | true=>exact h1 rfl
 | false=>exact h2 rfl
theorem cA {Q:Tok→PSt→Prop} (h:Q s.now s):W B cj s Q:=h
theorem fM {Q:α→PSt→Prop} (hs:bV B l s):W B (cz:PM α) s Q:=bq hs
structure Fw (B:Int) (l:List Tok) (s s':PSt):Prop where
 inn:bV B l s'
 mu:mu s'≤mu s
 np:s.now.pos≤s'.now.pos
structure dj (B:Int) (l:List Tok) (s s':PSt):Prop where
 inn:bV B l s'
 mu:mu s' < mu s
 np:s.now.pos≤s'.now.pos
theorem fR {Q:Tok→PSt→Prop} (hs:bV B l s) (hk:s.now.kind≠10) (h:∀ s',dj B l s s'→Q s.now s'):W B dm s Q:=by
 obtain ⟨s',h1,h2,h3,h4⟩:=uB hs hk
 refine ah (cA ?_)
 refine ah ?_
 unfold W
 rw [h1]
 exact h s' ⟨h2,h3,h4⟩
theorem c7 {t:Tok} {x:ByteArray} (h:cB t x=true):(t.kind=9∨t.kind=2)∧t.text.toList=x.toList:=by
 unfold cB at h
 simp only [Bool.and_eq_true,Bool.or_eq_true,beq_iff_eq] at h
 exact h
theorem fz {x:ByteArray} {Q:Bool→PSt→Prop} (h:Q (cB s.now x) s):W B (dS x) s Q:=h
theorem cx {x:ByteArray} {Q:Bool→PSt→Prop} (hs:bV B l s) (h1:cB s.now x=true→∀ s',dj B l s s'→Q true s') (h2:cB s.now x=false→Q false s):W B (aX x) s Q:=by
 refine ah (fz ?_)
 cases hb:cB s.now x with
 | false=>exact h2 hb
 | true =>
  refine ah (fR hs ?_ fun s' hs'=>h1 hb s' hs')
  rcases (c7 hb).1 with h | h<;>omega
theorem cE {x:ByteArray} {X Y:PM α} {Q:α→PSt→Prop} (hs:bV B l s) (h1:cB s.now x=true→∀ s',dj B l s s'→W B X s' Q) (h2:cB s.now x=false→W B Y s Q):W B (aX x>>=fun b=>cond b X Y) s Q :=
 ah (cx hs h1 h2)
theorem l7 {x:ByteArray} {X Y:PM α} {Q:α→PSt→Prop} (h1:cB s.now x=true→W B X s Q) (h2:cB s.now x=false→W B Y s Q):W B (dS x>>=fun b=>cond b X Y) s Q :=
 ah (fz (bY h1 h2))
theorem bM {x:ByteArray} {Q:Unit→PSt→Prop} (hs:bV B l s) (h:cB s.now x=true→∀ s',dj B l s s'→Q () s'):W B (a8 x) s Q:=by
 refine ah (cx hs (fun hb s' hs'=>?_) fun hb=>?_)
 ·exact h hb s' hs'
 ·exact fM hs
theorem dF {Q:ByteArray→PSt→Prop} (hs:bV B l s) (h:dZ s.now.text=true→∀ s',dj B l s s'→Q s.now.text s'):W B cV s Q:=by
 refine ah (cA ?_)
 by_cases hk:s.now.kind=1
 ·rw [show (s.now.kind != 1)=false by simp [hk]]
  refine ah (fR hs (by omega) fun s' hs'=>?_)
  exact h ((fU hs).name hk) s' hs'
 ·rw [show (s.now.kind != 1)=true by simp [hk]]
  exact fM hs
theorem ou {n:Int} {Q:Tok→PSt→Prop} (h:∀ t,Q t s):W B (iX n) s Q:=by
 unfold iX
 split
 ·exact h _
 ·exact h _
theorem BX {Q:Tok→PSt→Prop} (h:∀ t,Q t s):W B qe s Q:=h _
theorem kO {x y:PM Bool} {Q:Bool→PSt→Prop} (h:W B x s fun b s'=>(b=true→Q true s')∧(b=false→W B y s' Q)):W B (oz x y) s Q:=by
 refine ah (h.mono fun b s' hb=>?_)
 cases b with
 | true=>exact hb.1 rfl
 | false=>exact hb.2 rfl
theorem q5 {x y:PM Bool} {Q:Bool→PSt→Prop} (h:W B x s fun b s'=>(b=true→W B y s' Q)∧(b=false→Q false s')):W B (u4 x y) s Q:=by
 refine ah (h.mono fun b s' hb=>?_)
 cases b with
 | true=>exact hb.1 rfl
 | false=>exact hb.2 rfl
theorem Jz {Q:Tok→PSt→Prop} (h:Q (s.at (s.i+1)) s):W B (iX 1) s Q:=h
theorem Je {Q:Tok→PSt→Prop} (hs:bV B l s) (hk:s.now.kind≠10) (h:∀ s',dj B l s s'→s'.now=s.at (s.i+1)→s'.split=false→s'.i=min (s.i+1) (s.l.length - 1)→s'.l=s.l→Q s.now s'):W B dm s Q:=by
 obtain ⟨s',h1,h2,h3,h4⟩:=uB hs hk
 refine ah (cA ?_)
 refine ah ?_
 unfold W
 rw [h1]
 obtain rfl:s'={ s with split:=false,i:=min (s.i+1) (s.l.length - 1) }:=by
  have:(some (.ok () { s with split:=false,i:=min (s.i+1) (s.l.length - 1) }):Option (Res Int PSt Unit))=some (.ok () s'):=h1
  cases this; rfl
 refine h _ ⟨h2,h3,h4⟩ ?_ rfl rfl rfl
 show (if false=true then s.left else s.l.getD (min (min (s.i+1) (s.l.length - 1)) (s.l.length - 1)) bt)=s.l.getD (min (s.i+1) (s.l.length - 1)) bt
 rw [if_neg (by decide),Nat.min_assoc,Nat.min_self]
theorem yW {Q:Unit→PSt→Prop} (hs:bV B l s) (h:∀ s',dj B l s s'→Q () s'):W B oM s Q:=by
 refine ah (cx hs (fun _ s' hs'=>h s' hs') fun hb=>?_)
 refine ah (cA ?_)
 refine bY (fun hc=>?_) fun hc=>fM hs
 unfold ep at hc
 simp only [Bool.and_eq_true,beq_iff_eq,decide_eq_true_eq] at hc
 obtain ⟨⟨hk,hsz⟩,_⟩:=hc
 have h3:=(fU hs).sign hk
 have hp:=bq hs
 have hB:=hs.tk.bound
 have hsize:(s.now.text.extract 1 s.now.text.size).size=s.now.text.size - 1:=by simp
 have hw:IntKind.i64.wrap (s.now.pos+1)=s.now.pos+1:=bg (by omega) (by omega)
 refine h _ ⟨⟨hs.tk,hs.hl,hs.i,fun _=>?_⟩,?_,?_⟩
 ·obtain ⟨t,ht,h | h⟩:=io hs
  ·rw [h.2] at hk hsz h3 hsize hw
   refine ⟨t,ht,hk,?_⟩
   show (dk s.now).kind=9∧_
   unfold dk
   rw [h.2]
   refine ⟨hk,?_,?_,?_,?_⟩
   ·show 1≤(t.text.extract 1 t.text.size).size; omega
   ·show (t.text.extract 1 t.text.size).size≤2; omega
   ·show t.pos≤IntKind.i64.wrap (t.pos+1); omega
   ·show IntKind.i64.wrap (t.pos+1)+((t.text.extract 1 t.text.size).size:Int)≤_; omega
  ·obtain ⟨_,h2,g3,g4,g5,g6,g7,g8⟩:=h
   rw [h2] at hk hsz h3 hsize hw
   refine ⟨t,ht,g3,?_⟩
   show (dk s.now).kind=9∧_
   unfold dk
   rw [h2]
   refine ⟨hk,?_,?_,?_,?_⟩
   ·show 1≤(s.left.text.extract 1 s.left.text.size).size; omega
   ·show (s.left.text.extract 1 s.left.text.size).size≤2; omega
   ·show t.pos≤IntKind.i64.wrap (s.left.pos+1); omega
   ·show IntKind.i64.wrap (s.left.pos+1)+((s.left.text.extract 1 s.left.text.size).size:Int)≤_; omega
 ·unfold mu
  show 4 * (s.l.length - 1 - s.i)+(if true=true then (s.now.text.extract 1 s.now.text.size).size else 3) < _
  rw [if_pos rfl,hsize]
  obtain ⟨t,ht,h | h⟩:=io hs
  ·rw [h.1]; simp; omega
  ·rw [h.1,h.2.1]; simp; rw [h.2.1] at hsz; omega
 ·show s.now.pos≤(PSt.now { s with left:=dk s.now,split:=true }).pos
  show _≤(if true=true then dk s.now else _).pos
  rw [if_pos rfl]
  show s.now.pos≤IntKind.i64.wrap (s.now.pos+1)
  omega
end
end Go.Proofs.YtjlgcpgjdgeejaaGreatDoor
end

section
namespace Go.Proofs.YtjlgcpgjdgeejaaGreatDoor
open Go
set_option linter.unusedSimpArgs false
set_option linter.unusedVariables false
set_option linter.constructorNameAsVariable false
set_option maxRecDepth 100000
inductive ti:N→Prop
 | name (t:ByteArray) (n p:Int) (l:List N):ti (.mk 17 t n p l)
 | mem (t:ByteArray) (n p:Int) (y:N):ti y→ti (.mk 29 t n p [y])
def aQ:Pl→N→Prop
 | .of ks,x=>x.kind∈ks
 | .rows q,x=>x.kind=2∧∀ y∈x.kids,aQ q y
 | .or a b,x=>aQ a x∨aQ b x
 | .any,_=>True
 | .expr,x=>cD x.kind=true
 | .type,x=>fc x.kind=true
 | .stmt,x=>d3 x.kind=true
 | .plain,x=>x.kind=66∧eE x.num 1=0
 | .spot,x=>x.kind∈[(17:Int),29,30]
 | .path,x=>ti x
 | .members,x=>x.kind=2∧(∀ y∈x.kids,y.kind∈[(44:Int),45,46])∧(x.kids.filter fun y=>y.kind==46).length < 2
 | .exported,x=>(x.kind=40∧x.num=1)∨(x.kind=47∧x.num≠1)∨x.kind∈[(41:Int),42,49,51,52]
 | .isLet,x=>x.kind=40∧x.num=0
def sS (x:N):Prop :=
 if x.kind=12 then x.kids.length % 2=1∧∀ (i:Nat) (y:N),x.kids[i]? = some y→if i % 2=0 then y.kind=11 else cD y.kind=true
 else if x.kind=87 then 1 < x.kids.length∧∀ y∈x.kids,fc y.kind=true
 else ∃ ps many,sM x.kind=(ps,many,true)∧(many=true∨ps.length=x.kids.length)∧(∀ (i:Nat) (y:N),x.kids[i]? = some y→∃ p,ps[min i (ps.length - 1)]? = some p∧aQ p y) ∧
  (x.kind=61→∃ y z,x.kids[1]? = some y∧x.kids[2]? = some z∧(y.kind≠1∨z.kind≠1))
inductive Nd (B:Int):Int→N→Prop
 | mk (lo k:Int) (t:ByteArray) (n p:Int) (l:List N):lo≤p→p≤B→dh k t n=true→sS (.mk k t n p l)→(∀ x∈l,Nd B p x)→Nd B lo (.mk k t n p l)
inductive Kids (B p:Int):List Pl→List N→Prop
 | nil:Kids B p [] []
 | cons (a:Pl) (x:N) (ps:List Pl) (xs:List N):Nd B p x→aQ a x→Kids B p ps xs→Kids B p (a::ps) (x::xs)
section
variable {B:Int} {lo k n p:Int} {t:ByteArray}
theorem Nd.le {lo lo':Int} {x:N} (h:Nd B lo x) (hl:lo'≤lo):Nd B lo' x:=by
 cases h with
 | mk _ k t n p l h1 h2 h3 h4 h5=>exact .mk _ _ _ _ _ _ (by omega) h2 h3 h4 h5
theorem Nd.pos {x:N} (h:Nd B lo x):lo≤x.pos∧x.pos≤B:=by
 cases h with
 | mk _ k t n p l h1 h2 h3 h4 h5=>exact ⟨h1,h2⟩
theorem Kids.length {ps:List Pl} {l:List N} (h:Kids B p ps l):ps.length=l.length:=by
 induction h with
 | nil=>rfl
 | cons _ _ _ _ _ _ _ ih=>simp [ih]
theorem Kids.at {ps:List Pl} {l:List N} (h:Kids B p ps l):∀ (i:Nat) (y:N),l[i]? = some y→∃ a,ps[i]? = some a∧aQ a y∧Nd B p y:=by
 induction h with
 | nil=>intro i y hy; simp at hy
 | cons a x ps xs h1 h2 _ ih =>
  intro i y hy
  cases i with
  | zero=>simp at hy; subst hy; exact ⟨a,rfl,h2,h1⟩
  | succ i=>simp at hy; simpa using ih i y hy
theorem bL {ps:List Pl} {l:List N} (hp:lo≤p) (hB:p≤B) (hs:dh k t n=true) (hpl:sM k=(ps,false,true)) (hk:k≠12∧k≠87∧k≠61) (h:Kids B p ps l):Nd B lo (aE k t n p l):=by
 refine .mk _ _ _ _ _ _ hp hB hs ?_ fun x hx=>?_
 ·unfold sS
  rw [if_neg (show ¬ (N.mk k t n p l).kind=12 from hk.1),if_neg (show ¬ (N.mk k t n p l).kind=87 from hk.2.1)]
  refine ⟨ps,false,hpl,.inr h.length,fun i y hy=>?_,fun h61=>absurd h61 hk.2.2⟩
  obtain ⟨a,ha,he,_⟩:=h.at i y hy
  have:=(List.getElem?_eq_some_iff.1 ha).1
  exact ⟨a,by rw [show min i (ps.length - 1)=i by omega]; exact ha,he⟩
 ·obtain ⟨i,hi,rfl⟩:=List.getElem_of_mem hx
  obtain ⟨_,_,_,h⟩:=h.at i _ (List.getElem?_eq_getElem hi)
  exact h
theorem kn {a:Pl} {l:List N} (hp:lo≤p) (hB:p≤B) (hs:dh k t n=true) (hpl:sM k=([a],true,true)) (hk:k≠12∧k≠87∧k≠61) (h:∀ x∈l,Nd B p x∧aQ a x):Nd B lo (aE k t n p l):=by
 refine .mk _ _ _ _ _ _ hp hB hs ?_ fun x hx=>(h x hx).1
 unfold sS
 rw [if_neg (show ¬ (N.mk k t n p l).kind=12 from hk.1),if_neg (show ¬ (N.mk k t n p l).kind=87 from hk.2.1)]
 refine ⟨[a],true,hpl,.inl rfl,fun i y hy=>?_,fun h61=>absurd h61 hk.2.2⟩
 exact ⟨a,by simp,(h y (List.mem_of_getElem? hy)).2⟩
theorem rD (hp:lo≤p) (hB:p≤B)  : Nd B lo (aE 1 kE 0 p []):=bL (ps:=[]) hp hB (by kernel_rfl) (by kernel_rfl) (by decide) .nil
theorem LM (hp:lo≤p) (hB:p≤B) (hs:dh 10 kE n=true)  : Nd B lo (aE 10 kE n p []):=bL (ps:=[]) hp hB hs (by kernel_rfl) (by decide) .nil
theorem Hw (hp:lo≤p) (hB:p≤B) (hs:dh 11 t 0=true)  : Nd B lo (aE 11 t 0 p []):=bL (ps:=[]) hp hB hs (by kernel_rfl) (by decide) .nil
theorem Mq (hp:lo≤p) (hB:p≤B)  : Nd B lo (aE 13 kE 0 p []):=bL (ps:=[]) hp hB (by kernel_rfl) (by kernel_rfl) (by decide) .nil
theorem L8 (hp:lo≤p) (hB:p≤B)  : Nd B lo (aE 14 kE 0 p []):=bL (ps:=[]) hp hB (by kernel_rfl) (by kernel_rfl) (by decide) .nil
theorem LD (hp:lo≤p) (hB:p≤B)  : Nd B lo (aE 15 kE 0 p []):=bL (ps:=[]) hp hB (by kernel_rfl) (by kernel_rfl) (by decide) .nil
theorem Mc (hp:lo≤p) (hB:p≤B)  : Nd B lo (aE 16 kE 0 p []):=bL (ps:=[]) hp hB (by kernel_rfl) (by kernel_rfl) (by decide) .nil
theorem Hh (hp:lo≤p) (hB:p≤B) (hs:dZ t=true)  : Nd B lo (aE 17 t 0 p []):=bL (ps:=[]) hp hB (show dh 17 t 0=true from hs) (by kernel_rfl) (by decide) .nil
theorem LO (hp:lo≤p) (hB:p≤B)  : Nd B lo (aE 18 kE 0 p []):=bL (ps:=[]) hp hB (by kernel_rfl) (by kernel_rfl) (by decide) .nil
theorem LX {x0:N} (hp:lo≤p) (hB:p≤B) (hs:dZ t=true) (a0:Nd B p x0) (b0:aQ (.expr) x0):Nd B lo (aE 21 t 0 p [x0]):=bL (ps:=[.expr]) hp hB (show dh 21 t 0=true from hs) (by kernel_rfl) (by decide) (.cons _ _ _ _ a0 b0 .nil)
theorem LN {x0 x1 x2:N} (hp:lo≤p) (hB:p≤B) (a0:Nd B p x0) (b0:aQ (.rows (.of [67])) x0) (a1:Nd B p x1) (b1:aQ (.rows (.plain)) x1) (a2:Nd B p x2) (b2:aQ (.or (.of [63]) (.expr)) x2):Nd B lo (aE 22 kE 0 p [x0,x1,x2]):=bL (ps:=[.rows (.of [67]),.rows (.plain),.or (.of [63]) (.expr)]) hp hB (by kernel_rfl) (by kernel_rfl) (by decide) (.cons _ _ _ _ a0 b0 (.cons _ _ _ _ a1 b1 (.cons _ _ _ _ a2 b2 .nil)))
theorem LA {x0:N} (hp:lo≤p) (hB:p≤B) (hs:dh 23 t 0=true) (a0:Nd B p x0) (b0:aQ (.expr) x0):Nd B lo (aE 23 t 0 p [x0]):=bL (ps:=[.expr]) hp hB hs (by kernel_rfl) (by decide) (.cons _ _ _ _ a0 b0 .nil)
theorem Mp {x0 x1:N} (hp:lo≤p) (hB:p≤B) (hs:dh 24 t 0=true) (a0:Nd B p x0) (b0:aQ (.expr) x0) (a1:Nd B p x1) (b1:aQ (.expr) x1):Nd B lo (aE 24 t 0 p [x0,x1]):=bL (ps:=[.expr,.expr]) hp hB hs (by kernel_rfl) (by decide) (.cons _ _ _ _ a0 b0 (.cons _ _ _ _ a1 b1 .nil))
theorem My {x0 x1 x2:N} (hp:lo≤p) (hB:p≤B) (a0:Nd B p x0) (b0:aQ (.expr) x0) (a1:Nd B p x1) (b1:aQ (.expr) x1) (a2:Nd B p x2) (b2:aQ (.expr) x2):Nd B lo (aE 25 kE 0 p [x0,x1,x2]):=bL (ps:=[.expr,.expr,.expr]) hp hB (by kernel_rfl) (by kernel_rfl) (by decide) (.cons _ _ _ _ a0 b0 (.cons _ _ _ _ a1 b1 (.cons _ _ _ _ a2 b2 .nil)))
theorem Mr {x0 x1:N} (hp:lo≤p) (hB:p≤B) (hs:dh 26 t 0=true) (a0:Nd B p x0) (b0:aQ (.spot) x0) (a1:Nd B p x1) (b1:aQ (.expr) x1):Nd B lo (aE 26 t 0 p [x0,x1]):=bL (ps:=[.spot,.expr]) hp hB hs (by kernel_rfl) (by decide) (.cons _ _ _ _ a0 b0 (.cons _ _ _ _ a1 b1 .nil))
theorem L4 {x0 x1 x2:N} (hp:lo≤p) (hB:p≤B) (a0:Nd B p x0) (b0:aQ (.expr) x0) (a1:Nd B p x1) (b1:aQ (.rows (.type)) x1) (a2:Nd B p x2) (b2:aQ (.rows (.expr)) x2):Nd B lo (aE 27 kE 0 p [x0,x1,x2]):=bL (ps:=[.expr,.rows (.type),.rows (.expr)]) hp hB (by kernel_rfl) (by kernel_rfl) (by decide) (.cons _ _ _ _ a0 b0 (.cons _ _ _ _ a1 b1 (.cons _ _ _ _ a2 b2 .nil)))
theorem LJ {x0 x1 x2:N} (hp:lo≤p) (hB:p≤B) (a0:Nd B p x0) (b0:aQ (.path) x0) (a1:Nd B p x1) (b1:aQ (.rows (.type)) x1) (a2:Nd B p x2) (b2:aQ (.rows (.expr)) x2):Nd B lo (aE 28 kE 0 p [x0,x1,x2]):=bL (ps:=[.path,.rows (.type),.rows (.expr)]) hp hB (by kernel_rfl) (by kernel_rfl) (by decide) (.cons _ _ _ _ a0 b0 (.cons _ _ _ _ a1 b1 (.cons _ _ _ _ a2 b2 .nil)))
theorem J9 {x0:N} (hp:lo≤p) (hB:p≤B) (hs:dZ t=true) (a0:Nd B p x0) (b0:aQ (.expr) x0):Nd B lo (aE 29 t 0 p [x0]):=bL (ps:=[.expr]) hp hB (show dh 29 t 0=true from hs) (by kernel_rfl) (by decide) (.cons _ _ _ _ a0 b0 .nil)
theorem Mn {x0 x1:N} (hp:lo≤p) (hB:p≤B) (a0:Nd B p x0) (b0:aQ (.expr) x0) (a1:Nd B p x1) (b1:aQ (.expr) x1):Nd B lo (aE 30 kE 0 p [x0,x1]):=bL (ps:=[.expr,.expr]) hp hB (by kernel_rfl) (by kernel_rfl) (by decide) (.cons _ _ _ _ a0 b0 (.cons _ _ _ _ a1 b1 .nil))
theorem Mo {x0:N} (hp:lo≤p) (hB:p≤B) (a0:Nd B p x0) (b0:aQ (.rows (.expr)) x0):Nd B lo (aE 31 kE 0 p [x0]):=bL (ps:=[.rows (.expr)]) hp hB (by kernel_rfl) (by kernel_rfl) (by decide) (.cons _ _ _ _ a0 b0 .nil)
theorem Mv (hp:lo≤p) (hB:p≤B) (hs:dZ t=true)  : Nd B lo (aE 32 t 0 p []):=bL (ps:=[]) hp hB (show dh 32 t 0=true from hs) (by kernel_rfl) (by decide) .nil
theorem Ms {x0 x1:N} (hp:lo≤p) (hB:p≤B) (a0:Nd B p x0) (b0:aQ (.expr) x0) (a1:Nd B p x1) (b1:aQ (.type) x1):Nd B lo (aE 33 kE 0 p [x0,x1]):=bL (ps:=[.expr,.type]) hp hB (by kernel_rfl) (by kernel_rfl) (by decide) (.cons _ _ _ _ a0 b0 (.cons _ _ _ _ a1 b1 .nil))
theorem LS {x0:N} (hp:lo≤p) (hB:p≤B) (a0:Nd B p x0) (b0:aQ (.expr) x0):Nd B lo (aE 34 kE 0 p [x0]):=bL (ps:=[.expr]) hp hB (by kernel_rfl) (by kernel_rfl) (by decide) (.cons _ _ _ _ a0 b0 .nil)
theorem Ly {x0 x1:N} (hp:lo≤p) (hB:p≤B) (hs:dZ t=true) (hn:n=0∨n=1) (a0:Nd B p x0) (b0:aQ (.or (.type) (.of [1])) x0) (a1:Nd B p x1) (b1:aQ (.expr) x1):Nd B lo (aE 40 t n p [x0,x1]):=bL (ps:=[.or (.type) (.of [1]),.expr]) hp hB (by rcases hn with rfl | rfl<;>exact hs) (by kernel_rfl) (by decide) (.cons _ _ _ _ a0 b0 (.cons _ _ _ _ a1 b1 .nil))
theorem LV {x0 x1 x2 x3:N} (hp:lo≤p) (hB:p≤B) (hs:dZ t=true) (a0:Nd B p x0) (b0:aQ (.rows (.of [67])) x0) (a1:Nd B p x1) (b1:aQ (.rows (.plain)) x1) (a2:Nd B p x2) (b2:aQ (.or (.type) (.of [1])) x2) (a3:Nd B p x3) (b3:aQ (.of [63]) x3):Nd B lo (aE 41 t 0 p [x0,x1,x2,x3]):=bL (ps:=[.rows (.of [67]),.rows (.plain),.or (.type) (.of [1]),.of [63]]) hp hB (show dh 41 t 0=true from hs) (by kernel_rfl) (by decide) (.cons _ _ _ _ a0 b0 (.cons _ _ _ _ a1 b1 (.cons _ _ _ _ a2 b2 (.cons _ _ _ _ a3 b3 .nil))))
theorem Mt {x0 x1 x2 x3:N} (hp:lo≤p) (hB:p≤B) (hs:dZ t=true) (a0:Nd B p x0) (b0:aQ (.rows (.of [67])) x0) (a1:Nd B p x1) (b1:aQ (.or (.of [43]) (.of [1])) x1) (a2:Nd B p x2) (b2:aQ (.rows (.of [80])) x2) (a3:Nd B p x3) (b3:aQ (.members) x3):Nd B lo (aE 42 t 0 p [x0,x1,x2,x3]):=bL (ps:=[.rows (.of [67]),.or (.of [43]) (.of [1]),.rows (.of [80]),.members]) hp hB (show dh 42 t 0=true from hs) (by kernel_rfl) (by decide) (.cons _ _ _ _ a0 b0 (.cons _ _ _ _ a1 b1 (.cons _ _ _ _ a2 b2 (.cons _ _ _ _ a3 b3 .nil))))
theorem Md {x0:N} (hp:lo≤p) (hB:p≤B) (hs:dZ t=true) (a0:Nd B p x0) (b0:aQ (.rows (.type)) x0):Nd B lo (aE 43 t 0 p [x0]):=bL (ps:=[.rows (.type)]) hp hB (show dh 43 t 0=true from hs) (by kernel_rfl) (by decide) (.cons _ _ _ _ a0 b0 .nil)
theorem Lz {x0 x1:N} (hp:lo≤p) (hB:p≤B) (hs:dh 44 t n=true) (a0:Nd B p x0) (b0:aQ (.or (.type) (.of [1])) x0) (a1:Nd B p x1) (b1:aQ (.or (.expr) (.of [1])) x1):Nd B lo (aE 44 t n p [x0,x1]):=bL (ps:=[.or (.type) (.of [1]),.or (.expr) (.of [1])]) hp hB hs (by kernel_rfl) (by decide) (.cons _ _ _ _ a0 b0 (.cons _ _ _ _ a1 b1 .nil))
theorem Lx {x0 x1 x2 x3:N} (hp:lo≤p) (hB:p≤B) (hs:dZ t=true) (a0:Nd B p x0) (b0:aQ (.rows (.of [67])) x0) (a1:Nd B p x1) (b1:aQ (.rows (.plain)) x1) (a2:Nd B p x2) (b2:aQ (.or (.type) (.of [1])) x2) (a3:Nd B p x3) (b3:aQ (.of [63]) x3):Nd B lo (aE 45 t 0 p [x0,x1,x2,x3]):=bL (ps:=[.rows (.of [67]),.rows (.plain),.or (.type) (.of [1]),.of [63]]) hp hB (show dh 45 t 0=true from hs) (by kernel_rfl) (by decide) (.cons _ _ _ _ a0 b0 (.cons _ _ _ _ a1 b1 (.cons _ _ _ _ a2 b2 (.cons _ _ _ _ a3 b3 .nil))))
theorem LY {x0 x1:N} (hp:lo≤p) (hB:p≤B) (a0:Nd B p x0) (b0:aQ (.rows (.of [66])) x0) (a1:Nd B p x1) (b1:aQ (.of [63]) x1):Nd B lo (aE 46 kE 0 p [x0,x1]):=bL (ps:=[.rows (.of [66]),.of [63]]) hp hB (by kernel_rfl) (by kernel_rfl) (by decide) (.cons _ _ _ _ a0 b0 (.cons _ _ _ _ a1 b1 .nil))
theorem LU {x0:N} (hp:lo≤p) (hB:p≤B) (hs:dZ t=true) (a0:Nd B p x0) (b0:aQ (.or (.expr) (.of [1])) x0):Nd B lo (aE 48 t 0 p [x0]):=bL (ps:=[.or (.expr) (.of [1])]) hp hB (show dh 48 t 0=true from hs) (by kernel_rfl) (by decide) (.cons _ _ _ _ a0 b0 .nil)
theorem LH {x0:N} (hp:lo≤p) (hB:p≤B) (a0:Nd B p x0) (b0:aQ (.exported) x0):Nd B lo (aE 50 kE 0 p [x0]):=bL (ps:=[.exported]) hp hB (by kernel_rfl) (by kernel_rfl) (by decide) (.cons _ _ _ _ a0 b0 .nil)
theorem L6 {x0 x1 x2:N} (hp:lo≤p) (hB:p≤B) (hs:dZ t=true) (a0:Nd B p x0) (b0:aQ (.rows (.of [67])) x0) (a1:Nd B p x1) (b1:aQ (.rows (.of [80])) x1) (a2:Nd B p x2) (b2:aQ (.of [84]) x2):Nd B lo (aE 51 t 0 p [x0,x1,x2]):=bL (ps:=[.rows (.of [67]),.rows (.of [80]),.of [84]]) hp hB (show dh 51 t 0=true from hs) (by kernel_rfl) (by decide) (.cons _ _ _ _ a0 b0 (.cons _ _ _ _ a1 b1 (.cons _ _ _ _ a2 b2 .nil)))
theorem Mf {x0 x1:N} (hp:lo≤p) (hB:p≤B) (hs:dZ t=true) (a0:Nd B p x0) (b0:aQ (.rows (.of [67])) x0) (a1:Nd B p x1) (b1:aQ (.type) x1):Nd B lo (aE 52 t 0 p [x0,x1]):=bL (ps:=[.rows (.of [67]),.type]) hp hB (show dh 52 t 0=true from hs) (by kernel_rfl) (by decide) (.cons _ _ _ _ a0 b0 (.cons _ _ _ _ a1 b1 .nil))
theorem Mh {x0 x1 x2:N} (hp:lo≤p) (hB:p≤B) (a0:Nd B p x0) (b0:aQ (.expr) x0) (a1:Nd B p x1) (b1:aQ (.of [63]) x1) (a2:Nd B p x2) (b2:aQ (.or (.of [63,53]) (.of [1])) x2):Nd B lo (aE 53 kE 0 p [x0,x1,x2]):=bL (ps:=[.expr,.of [63],.or (.of [63,53]) (.of [1])]) hp hB (by kernel_rfl) (by kernel_rfl) (by decide) (.cons _ _ _ _ a0 b0 (.cons _ _ _ _ a1 b1 (.cons _ _ _ _ a2 b2 .nil)))
theorem L7 {x0 x1:N} (hp:lo≤p) (hB:p≤B) (a0:Nd B p x0) (b0:aQ (.expr) x0) (a1:Nd B p x1) (b1:aQ (.of [63]) x1):Nd B lo (aE 54 kE 0 p [x0,x1]):=bL (ps:=[.expr,.of [63]]) hp hB (by kernel_rfl) (by kernel_rfl) (by decide) (.cons _ _ _ _ a0 b0 (.cons _ _ _ _ a1 b1 .nil))
theorem LK {x0 x1 x2 x3:N} (hp:lo≤p) (hB:p≤B) (a0:Nd B p x0) (b0:aQ (.or (.isLet) (.of [1])) x0) (a1:Nd B p x1) (b1:aQ (.or (.expr) (.of [1])) x1) (a2:Nd B p x2) (b2:aQ (.or (.expr) (.of [1])) x2) (a3:Nd B p x3) (b3:aQ (.of [63]) x3):Nd B lo (aE 55 kE 0 p [x0,x1,x2,x3]):=bL (ps:=[.or (.isLet) (.of [1]),.or (.expr) (.of [1]),.or (.expr) (.of [1]),.of [63]]) hp hB (by kernel_rfl) (by kernel_rfl) (by decide) (.cons _ _ _ _ a0 b0 (.cons _ _ _ _ a1 b1 (.cons _ _ _ _ a2 b2 (.cons _ _ _ _ a3 b3 .nil))))
theorem Mg {x0 x1:N} (hp:lo≤p) (hB:p≤B) (hs:dZ t=true) (hn:n=0∨n=1) (a0:Nd B p x0) (b0:aQ (.expr) x0) (a1:Nd B p x1) (b1:aQ (.of [63]) x1):Nd B lo (aE 56 t n p [x0,x1]):=bL (ps:=[.expr,.of [63]]) hp hB (by rcases hn with rfl | rfl<;>exact hs) (by kernel_rfl) (by decide) (.cons _ _ _ _ a0 b0 (.cons _ _ _ _ a1 b1 .nil))
theorem Mx {x0:N} (hp:lo≤p) (hB:p≤B) (a0:Nd B p x0) (b0:aQ (.or (.expr) (.of [1])) x0):Nd B lo (aE 57 kE 0 p [x0]):=bL (ps:=[.or (.expr) (.of [1])]) hp hB (by kernel_rfl) (by kernel_rfl) (by decide) (.cons _ _ _ _ a0 b0 .nil)
theorem LZ (hp:lo≤p) (hB:p≤B)  : Nd B lo (aE 58 kE 0 p []):=bL (ps:=[]) hp hB (by kernel_rfl) (by kernel_rfl) (by decide) .nil
theorem Mj (hp:lo≤p) (hB:p≤B)  : Nd B lo (aE 59 kE 0 p []):=bL (ps:=[]) hp hB (by kernel_rfl) (by kernel_rfl) (by decide) .nil
theorem Mw {x0:N} (hp:lo≤p) (hB:p≤B) (a0:Nd B p x0) (b0:aQ (.expr) x0):Nd B lo (aE 60 kE 0 p [x0]):=bL (ps:=[.expr]) hp hB (by kernel_rfl) (by kernel_rfl) (by decide) (.cons _ _ _ _ a0 b0 .nil)
theorem Ma {x0:N} (hp:lo≤p) (hB:p≤B) (hs:dZ t=true) (a0:Nd B p x0) (b0:aQ (.of [63]) x0):Nd B lo (aE 62 t 0 p [x0]):=bL (ps:=[.of [63]]) hp hB (show dh 62 t 0=true from hs) (by kernel_rfl) (by decide) (.cons _ _ _ _ a0 b0 .nil)
theorem LL {x0:N} (hp:lo≤p) (hB:p≤B) (a0:Nd B p x0) (b0:aQ (.expr) x0):Nd B lo (aE 64 kE 0 p [x0]):=bL (ps:=[.expr]) hp hB (by kernel_rfl) (by kernel_rfl) (by decide) (.cons _ _ _ _ a0 b0 .nil)
theorem Mu (hp:lo≤p) (hB:p≤B)  : Nd B lo (aE 65 kE 0 p []):=bL (ps:=[]) hp hB (by kernel_rfl) (by kernel_rfl) (by decide) .nil
theorem J0 {x0:N} (hp:lo≤p) (hB:p≤B) (hs:dh 66 t n=true) (a0:Nd B p x0) (b0:aQ (.or (.type) (.of [1])) x0):Nd B lo (aE 66 t n p [x0]):=bL (ps:=[.or (.type) (.of [1])]) hp hB hs (by kernel_rfl) (by decide) (.cons _ _ _ _ a0 b0 .nil)
theorem Mm (hp:lo≤p) (hB:p≤B) (hs:dZ t=true)  : Nd B lo (aE 67 t 0 p []):=bL (ps:=[]) hp hB (show dh 67 t 0=true from hs) (by kernel_rfl) (by decide) .nil
theorem JK {x0:N} (hp:lo≤p) (hB:p≤B) (hs:dh 80 t 0=true) (a0:Nd B p x0) (b0:aQ (.rows (.type)) x0):Nd B lo (aE 80 t 0 p [x0]):=bL (ps:=[.rows (.type)]) hp hB hs (by kernel_rfl) (by decide) (.cons _ _ _ _ a0 b0 .nil)
theorem JY (hp:lo≤p) (hB:p≤B) (hs:dh 81 kE n=true)  : Nd B lo (aE 81 kE n p []):=bL (ps:=[]) hp hB hs (by kernel_rfl) (by decide) .nil
theorem LE (hp:lo≤p) (hB:p≤B) (hs:dh 82 t 0=true)  : Nd B lo (aE 82 t 0 p []):=bL (ps:=[]) hp hB hs (by kernel_rfl) (by decide) .nil
theorem Mb {x0:N} (hp:lo≤p) (hB:p≤B) (a0:Nd B p x0) (b0:aQ (.type) x0):Nd B lo (aE 83 kE 0 p [x0]):=bL (ps:=[.type]) hp hB (by kernel_rfl) (by kernel_rfl) (by decide) (.cons _ _ _ _ a0 b0 .nil)
theorem Kz {x0:N} (hp:lo≤p) (hB:p≤B) (hs:dZ t=true) (hn:n=0∨n=1) (a0:Nd B p x0) (b0:aQ (.type) x0):Nd B lo (aE 85 t n p [x0]):=bL (ps:=[.type]) hp hB (by rcases hn with rfl | rfl<;>exact hs) (by kernel_rfl) (by decide) (.cons _ _ _ _ a0 b0 .nil)
theorem J2 {x0 x1:N} (hp:lo≤p) (hB:p≤B) (a0:Nd B p x0) (b0:aQ (.rows (.plain)) x0) (a1:Nd B p x1) (b1:aQ (.type) x1):Nd B lo (aE 86 kE 0 p [x0,x1]):=bL (ps:=[.rows (.plain),.type]) hp hB (by kernel_rfl) (by kernel_rfl) (by decide) (.cons _ _ _ _ a0 b0 (.cons _ _ _ _ a1 b1 .nil))
theorem Ls {l:List N} (hp:lo≤p) (hB:p≤B) (h:∀ x∈l,Nd B p x∧aQ (.any) x):Nd B lo (aE 2 kE 0 p l):=kn (a:=.any) hp hB (by kernel_rfl) (by kernel_rfl) (by decide) h
theorem MB {l:List N} (hp:lo≤p) (hB:p≤B) (h:∀ x∈l,Nd B p x∧aQ (.stmt) x):Nd B lo (aE 3 kE 0 p l):=kn (a:=.stmt) hp hB (by kernel_rfl) (by kernel_rfl) (by decide) h
theorem L9 {l:List N} (hp:lo≤p) (hB:p≤B) (h:∀ x∈l,Nd B p x∧aQ (.expr) x):Nd B lo (aE 19 kE 0 p l):=kn (a:=.expr) hp hB (by kernel_rfl) (by kernel_rfl) (by decide) h
theorem LG {l:List N} (hp:lo≤p) (hB:p≤B) (h:∀ x∈l,Nd B p x∧aQ (.of [21]) x):Nd B lo (aE 20 kE 0 p l):=kn (a:=.of [21]) hp hB (by kernel_rfl) (by kernel_rfl) (by decide) h
theorem Ml {l:List N} (hp:lo≤p) (hB:p≤B) (hs:dZ t=true) (hn:n=0∨n=1) (h:∀ x∈l,Nd B p x∧aQ (.of [48]) x):Nd B lo (aE 47 t n p l):=kn (a:=.of [48]) hp hB (by rcases hn with rfl | rfl<;>exact hs) (by kernel_rfl) (by decide) h
theorem L3 {l:List N} (hp:lo≤p) (hB:p≤B) (hs:dZ t=true) (h:∀ x∈l,Nd B p x∧aQ (.or (.stmt) (.of [50])) x):Nd B lo (aE 49 t 0 p l):=kn (a:=.or (.stmt) (.of [50])) hp hB (show dh 49 t 0=true from hs) (by kernel_rfl) (by decide) h
theorem Me {l:List N} (hp:lo≤p) (hB:p≤B) (h:∀ x∈l,Nd B p x∧aQ (.stmt) x):Nd B lo (aE 63 kE 0 p l):=kn (a:=.stmt) hp hB (by kernel_rfl) (by kernel_rfl) (by decide) h
theorem LI {l:List N} (hp:lo≤p) (hB:p≤B) (h:∀ x∈l,Nd B p x∧aQ (.of [85]) x):Nd B lo (aE 84 kE 0 p l):=kn (a:=.of [85]) hp hB (by kernel_rfl) (by kernel_rfl) (by decide) h
theorem LC {l:List N} (hp:lo≤p) (hB:p≤B) (h1:l.length % 2=1) (h2:∀ (i:Nat) (y:N),l[i]? = some y→if i % 2=0 then y.kind=11 else cD y.kind=true) (h:∀ x∈l,Nd B p x):Nd B lo (aE 12 kE 0 p l) :=
 .mk _ _ _ _ _ _ hp hB (by kernel_rfl) (by unfold sS; rw [if_pos (show (N.mk 12 kE 0 p l).kind=12 from rfl)]; exact ⟨h1,h2⟩) h
theorem Lv {l:List N} (hp:lo≤p) (hB:p≤B) (h1:1 < l.length) (h:∀ x∈l,Nd B p x∧fc x.kind=true):Nd B lo (aE 87 kE 0 p l) :=
 .mk _ _ _ _ _ _ hp hB (by kernel_rfl) (by unfold sS; rw [if_neg (show ¬ (N.mk 87 kE 0 p l).kind=12 by show ¬ (87:Int)=12; decide),if_pos (show (N.mk 87 kE 0 p l).kind=87 from rfl)]; exact ⟨h1,fun x hx=>(h x hx).2⟩) fun x hx=>(h x hx).1
theorem LP {x0 x1 x2:N} (hp:lo≤p) (hB:p≤B) (a0:Nd B p x0) (b0:aQ (.of [63]) x0) (a1:Nd B p x1) (b1:aQ (.or (.of [62]) (.of [1])) x1) (a2:Nd B p x2) (b2:aQ (.or (.of [63]) (.of [1])) x2) (h:x1.kind≠1∨x2.kind≠1):Nd B lo (aE 61 kE 0 p [x0,x1,x2]):=by
 have hk:Kids B p [.of [63],.or (.of [62]) (.of [1]),.or (.of [63]) (.of [1])] [x0,x1,x2]:=.cons _ _ _ _ a0 b0 (.cons _ _ _ _ a1 b1 (.cons _ _ _ _ a2 b2 .nil))
 refine .mk _ _ _ _ _ _ hp hB (by kernel_rfl) ?_ fun x hx=>?_
 ·unfold sS
  rw [if_neg (show ¬ (N.mk 61 kE 0 p [x0,x1,x2]).kind=12 by show ¬ (61:Int)=12; decide),if_neg (show ¬ (N.mk 61 kE 0 p [x0,x1,x2]).kind=87 by show ¬ (61:Int)=87; decide)]
  refine ⟨_,false,(show sM 61=([.of [63],.or (.of [62]) (.of [1]),.or (.of [63]) (.of [1])],false,true) by kernel_rfl),.inr rfl,fun i y hy=>?_,fun _=>⟨x1,x2,rfl,rfl,h⟩⟩
  obtain ⟨a,ha,he,_⟩:=hk.at i y hy
  have h3:=(List.getElem?_eq_some_iff.1 ha).1
  simp only [List.length_cons,List.length_nil] at h3
  exact ⟨a,by rw [show min i (List.length [Pl.of [63],.or (.of [62]) (.of [1]),.or (.of [63]) (.of [1])] - 1)=i by simp only [List.length_cons,List.length_nil]; omega]; exact ha,he⟩
 ·obtain ⟨i,hi,rfl⟩:=List.getElem_of_mem hx
  obtain ⟨_,_,_,h⟩:=hk.at i _ (List.getElem?_eq_getElem hi)
  exact h
end
end Go.Proofs.YtjlgcpgjdgeejaaGreatDoor
end

section
namespace Go.Proofs.YtjlgcpgjdgeejaaGreatDoor
open Go
set_option linter.unusedSimpArgs false
set_option linter.unusedVariables false
set_option maxRecDepth 100000
def Lt (l:List UInt8):Bool:=dZ ⟨l.toArray⟩
theorem BT (b:ByteArray):Lt b.data.toList=dZ b:=rfl
def zw (s:ByteArray):Bool:=(EG s k_dot).all dZ
theorem uZ:k_dot.data.toList=[46]:=by kernel_rfl
theorem FE (s:ByteArray):zw s=(Lib.split s.data.toList [46]).all Lt:=by
 have h:=Lib.splitB_data k_dot 0 (Lib.countB s k_dot) s
 rw [uZ] at h
 unfold Lib.split
 rw [show Lib.count s.data.toList [46]=Lib.countB s k_dot by unfold Lib.countB; rw [uZ],← h]
 unfold zw EG
 rw [List.all_map]
 rfl
theorem G2 (s:List UInt8) (c:UInt8) (i:Nat):Lib.occAt s [c] i=true↔s[i]? = some c:=by
 unfold Lib.occAt
 have h:s[i]? = (s.drop i)[0]?:=by rw [List.getElem?_drop]; rfl
 rw [h]
 cases s.drop i with
 | nil=>simp [List.isPrefixOf]
 | cons d ds =>
  show (c==d&&true)=true↔some d=some c
  rw [Bool.and_true,beq_iff_eq,Option.some.injEq]
  exact eq_comm
theorem zH {c:UInt8}:∀ {z:List UInt8},c∈z→∃ a b,z=a++c::b∧c∉a
 | d::z,h=>by
  by_cases hd:d=c
  ·subst hd; exact ⟨[],z,rfl,List.not_mem_nil⟩
  ·have hc':c∈z:=by
    rcases List.mem_cons.1 h with h | h
    ·exact absurd h.symm hd
    ·exact h
   obtain ⟨a,b,h1,h2⟩:=zH hc'
   refine ⟨d::a,b,by rw [h1]; rfl,fun hm=>?_⟩
   rcases List.mem_cons.1 hm with h | h
   ·exact hd h.symm
   ·exact h2 h
theorem JQ {s:List UInt8} {c:UInt8} (h:c∉s):Lib.index s [c]=-1:=by
 refine Lib.index_none fun j hj=>?_
 cases ho:Lib.occAt s [c] j with
 | false=>rfl
 | true=>exact absurd (List.mem_of_getElem? ((G2 s c j).1 ho)) h
theorem J5 {a b:List UInt8} {c:UInt8} (h:c∉a):Lib.index (a++c::b) [c]=(a.length:Int):=by
 refine Lib.index_first (by simp) ((G2 _ _ _).2 (by simp)) fun j hj=>?_
 cases ho:Lib.occAt (a++c::b) [c] j with
 | false=>rfl
 | true =>
  have:=(G2 _ _ _).1 ho
  rw [List.getElem?_append_left hj] at this
  exact absurd (List.mem_of_getElem? this) h
theorem nY {s:List UInt8} {c:UInt8} (h:c∉s):Lib.split s [c]=[s]:=by
 unfold Lib.split
 rw [Lib.count_miss (JQ h)]; rfl
theorem qG {a b:List UInt8} {c:UInt8} (h:c∉a):Lib.split (a++c::b) [c]=a::Lib.split b [c]:=by
 unfold Lib.split
 have hi:=J5 (b:=b) h
 have hd:(a++c::b).drop (a.length+[c].length)=b:=by
  rw [List.drop_append]; simp
 rw [Lib.count_hit (by simp) hi,hd,Nat.add_comm,Lib.splitK]
 rw [if_neg (by rw [hi]; simp),hi]
 simp
theorem ER {c:UInt8} {y:List UInt8} (hy:c∉y):∀ (n:Nat) (z:List UInt8),z.length≤n→Lib.split (z++c::y) [c]=Lib.split z [c]++[y]:=by
 intro n
 induction n with
 | zero =>
  intro z hz
  have:z=[]:=List.length_eq_zero_iff.1 (by omega)
  subst this
  rw [qG (by simp),nY hy,nY (by simp)]; rfl
 | succ n ih =>
  intro z hz
  by_cases hc:c∈z
  ·obtain ⟨a,b,rfl,ha⟩:=zH hc
   have hb:b.length≤n:=by simp at hz; omega
   rw [List.append_assoc,List.cons_append,qG ha,qG ha,ih b hb]; rfl
  ·rw [qG hc,nY hy,nY hc]; rfl
theorem vX {x:ByteArray} (h:dZ x=true):(46:UInt8)∉x.data.toList:=by
 intro hm
 obtain ⟨i,hi,he⟩:=List.getElem_of_mem hm
 have hs:i < x.size:=by rw [← mq]; exact hi
 unfold dZ at h
 rw [Bool.and_eq_true,List.all_eq_true] at h
 have h2:=h.2 i (List.mem_range.2 hs)
 have hb:aY x i=46:=by
  rw [gj x i hs]
  have:=vh x i hs
  rw [List.getElem?_eq_getElem hi] at this
  rw [← Option.some.inj this,he]; rfl
 rw [hb] at h2
 exact absurd h2 (by decide)
theorem IH {x:ByteArray} (h:dZ x=true):zw x=true:=by
 rw [FE,nY (vX h),List.all_cons,BT,h]; rfl
theorem Kp {x y:ByteArray} (hx:zw x=true) (hy:dZ y=true):zw (x++(k_dot++y))=true:=by
 rw [FE] at hx ⊢
 have e:(x++(k_dot++y)).data.toList=x.data.toList++46::y.data.toList:=by
  rw [ByteArray.data_append,ByteArray.data_append,Array.toList_append,Array.toList_append,uZ]; rfl
 rw [e,ER (vX hy) _ _ (Nat.le_refl _),List.all_append,hx,List.all_cons,BT,hy]; rfl
theorem KU {x:ByteArray} (h:zw x=true):DM x=true:=by
 unfold DM
 rw [show (EG x k_dot).all dZ=true from h,Bool.or_true]
theorem vk {x:ByteArray} (h:x.toList=knull.toList∨x.toList=kundefined.toList∨x.toList=ktrue.toList∨x.toList=kfalse.toList):DM x=true:=by
 unfold DM
 rcases h with h | h | h | h<;>rw [h]<;>simp
theorem vx {a b:ByteArray} (h:a.toList=b.toList):a=b:=by
 apply ByteArray.ext
 apply Array.toList_inj.1
 rw [← Lib.toList_data,← Lib.toList_data,h]
end Go.Proofs.YtjlgcpgjdgeejaaGreatDoor
end

section
namespace Go.Proofs.YtjlgcpgjdgeejaaGreatDoor
open Go
set_option linter.unusedSimpArgs false
set_option linter.unusedVariables false
set_option linter.constructorNameAsVariable false
set_option maxRecDepth 100000
def PQ (B:Int) (l:List Tok) (s:PSt) (K:N→Prop):N→PSt→Prop:=fun n s'=>dj B l s s'∧Nd B (s.now.pos) n∧K n
def ME (B:Int) (l:List Tok) (s:PSt) (K:N→Prop):N→PSt→Prop:=fun n s'=>Fw B l s s'∧Nd B (s.now.pos) n∧K n
def LQ (B lo:Int) (q:Pl) (n:N):Prop:=∃ p ks,n=aE 2 kE 0 p ks∧lo≤p∧p≤B∧∀ x∈ks,Nd B p x∧aQ q x
structure bU (B:Int) (l:List Tok) (R:a6) (M1 M2:Nat):Prop where
 fuel:M1≤R.fuel∧M2≤R.fuel
 expr:∀ s,bV B l s→mu s < M1→W B R.expr s (PQ B l s (aQ .expr))
 typed:∀ s,bV B l s→mu s < M1→W B R.typed s (PQ B l s (aQ .type))
 block:∀ s,bV B l s→mu s < M1→W B R.block s (PQ B l s (aQ (.of [63])))
 unary:∀ s,bV B l s→mu s < M1→W B R.unary s (PQ B l s (aQ .expr))
 branch:∀ s,bV B l s→mu s < M1→W B R.branch s (PQ B l s (aQ (.of [53])))
 statement:∀ s,bV B l s→mu s < M2→W B R.statement s (PQ B l s (aQ .stmt))
 declaration:∀ s,bV B l s→mu s < M2→W B (R.declaration s.now) s fun o s'=>match o with
  | none=>Fw B l s s'
  | some n=>PQ B l s (fun n=>aQ .stmt n∧(n.kind=40→n.num=1∨cB s.now kW=true)∧n.kind∈[(40:Int),41,42,47,49,51,52]) n s'
section
variable {B lo:Int} {l:List Tok} {s:PSt} {R:a6} {M1 M2:Nat} {q:Pl}
theorem LQ.nd {n:N} (h:LQ B lo q n):Nd B lo n:=by
 obtain ⟨p,ks,rfl,h1,h2,h3⟩:=h
 exact Ls h1 h2 fun x hx=>⟨(h3 x hx).1,trivial⟩
theorem LQ.ev {n:N} (h:LQ B lo q n):aQ (.rows q) n:=by
 obtain ⟨p,ks,rfl,h1,h2,h3⟩:=h
 exact ⟨rfl,fun x hx=>(h3 x hx).2⟩
theorem LQ.le {n:N} {lo':Int} (h:LQ B lo q n) (hl:lo'≤lo):LQ B lo' q n:=by
 obtain ⟨p,ks,rfl,h1,h2,h3⟩:=h
 exact ⟨p,ks,rfl,by omega,h2,h3⟩
theorem LQ.set {n:N} {lo':Int} (h:LQ B lo q n) (hl:lo'≤lo) (hB:lo'≤B):LQ B lo' q (n.setPos lo'):=by
 obtain ⟨p,ks,rfl,h1,h2,h3⟩:=h
 exact ⟨lo',ks,rfl,Int.le_refl _,hB,fun x hx=>⟨(h3 x hx).1.le (by omega),(h3 x hx).2⟩⟩
theorem LQ.nil {p:Int} (h:lo≤p) (hB:p≤B):LQ B lo q (aE 2 kE 0 p []):=⟨p,[],rfl,h,hB,fun _ h=>nomatch h⟩
theorem Fw.rfl' (hs:bV B l s):Fw B l s s:=⟨hs,Nat.le_refl _,Int.le_refl _⟩
theorem jc {Q:N→PSt→Prop} (h:Q (aE 2 kE 0 (s.now.pos) []) s):W B d4 s Q:=h
theorem iq {Q:N→PSt→Prop} (h:Q (aE 1 kE 0 (s.now.pos) []) s):W B eD s Q:=h
theorem FX {one:PM N} {M:Nat} (hone:∀ s',bV B l s'→mu s'≤M→W B one s' (PQ B l s' (aQ q))) {p:Int} (hB:p≤B):∀ (k:Nat) (s:PSt) (ks:List N),bV B l s→mu s < k→mu s≤M→p≤s.now.pos→(∀ x∈ks,Nd B p x∧aQ q x) →
  W B (sQ one k (aE 2 kE 0 p ks)) s fun n s'=>Fw B l s s'∧LQ B p q n
 | 0,s,ks,hs,hk,hM,hp,hks=>absurd hk (Nat.not_lt_zero _)
 | k+1,s,ks,hs,hk,hM,hp,hks=>by
  refine ah (cx hs (fun hb s1 ⟨i1,m1,n1⟩=>?_) fun hb=>?_)
  ·refine ah ((hone s1 i1 (by omega)).mono ?_)
   rintro c s2 ⟨⟨i2,m2,n2⟩,hc,hq⟩
   refine (FX hone hB k s2 (ks++[c]) i2 (by omega) (by omega) (by omega) fun x hx=>?_).mono ?_
   ·rcases List.mem_append.1 hx with hx | hx
    ·exact hks x hx
    ·obtain rfl:=List.mem_singleton.1 hx
     exact ⟨hc.le (by omega),hq⟩
   ·rintro n s3 ⟨⟨i3,m3,n3⟩,hn⟩
    exact ⟨⟨i3,by omega,by omega⟩,hn⟩
  ·exact aH ⟨Fw.rfl' hs,p,ks,rfl,Int.le_refl _,hB,hks⟩
theorem pS {one:PM N} {k:Nat} (hs:bV B l s) (hone:∀ s',bV B l s'→mu s'≤mu s→W B one s' (PQ B l s' (aQ q))) (hk:mu s≤k):W B (mb k one) s fun n s'=>dj B l s s'∧LQ B (s.now.pos) q n:=by
 refine ah (cA ?_)
 refine ah ((hone s hs (Nat.le_refl _)).mono ?_)
 rintro c s1 ⟨⟨i1,m1,n1⟩,hc,hq⟩
 refine (FX (M:=mu s) hone (bq hs).2 k s1 [c] i1 (by omega) (by omega) n1 fun x hx=>?_).mono ?_
 ·obtain rfl:=List.mem_singleton.1 hx
  exact ⟨hc,hq⟩
 ·rintro n s2 ⟨⟨i2,m2,n2⟩,hn⟩
  exact ⟨⟨i2,by omega,by omega⟩,hn⟩
theorem sm (hR:bU B l R M1 M2) (hs:bV B l s) (h1:mu s≤M1):W B (eY R) s fun n s'=>Fw B l s s'∧LQ B (s.now.pos) .type n:=by
 have hf:=hR.fuel
 refine ah (cA ?_)
 refine ah (cx hs (fun hb s1 ⟨i1,m1,n1⟩=>?_) fun hb=>?_)
 ·refine ah ((pS (q:=.type) i1 (fun s' i' m'=>hR.typed s' i' (by omega)) (by omega)).mono ?_)
  rintro n s2 ⟨⟨i2,m2,n2⟩,hl⟩
  refine ah (yW i2 fun s3 ⟨i3,m3,n3⟩=>aH ⟨⟨i3,by omega,by omega⟩,hl.set (by omega) (bq hs).2⟩)
 ·exact jc ⟨Fw.rfl' hs,LQ.nil (Int.le_refl _) (bq hs).2⟩
theorem K6 (hs:bV B l s):W B xY s (PQ B l s (aQ (.of [67]))):=by
 refine ah (cA ?_)
 refine ah (dF hs fun hn s1 f1=>aH ⟨f1,Mm (Int.le_refl _) (bq hs).2 hn,List.mem_singleton.2 rfl⟩)
theorem rN (hR:bU B l R M1 M2) (hs:bV B l s) (h1:mu s≤M1):W B (je R) s fun n s'=>Fw B l s s'∧LQ B (s.now.pos) (.of [67]) n:=by
 have hf:=hR.fuel
 refine ah (cA ?_)
 refine ah (cx hs (fun hb s1 ⟨i1,m1,n1⟩=>?_) fun hb=>?_)
 ·refine ah ((pS (q:=.of [67]) i1 (fun s' i' m'=>K6 i') (by omega)).mono ?_)
  rintro n s2 ⟨⟨i2,m2,n2⟩,hl⟩
  refine ah (yW i2 fun s3 ⟨i3,m3,n3⟩=>aH ⟨⟨i3,by omega,by omega⟩,hl.set (by omega) (bq hs).2⟩)
 ·exact jc ⟨Fw.rfl' hs,LQ.nil (Int.le_refl _) (bq hs).2⟩
theorem GP:∀ (k:Nat) (s:PSt) (x:ByteArray),bV B l s→mu s < k→zw x=true→W B (o9 k x) s fun y s'=>Fw B l s s'∧zw y=true
 | 0,s,x,hs,hk,hx=>absurd hk (Nat.not_lt_zero _)
 | k+1,s,x,hs,hk,hx=>by
  refine ah (cx hs (fun hb s1 ⟨i1,m1,n1⟩=>?_) fun hb=>aH ⟨Fw.rfl' hs,hx⟩)
  refine ah (dF i1 fun hn s2 ⟨i2,m2,n2⟩=>?_)
  refine (GP k s2 _ i2 (by omega) (Kp hx hn)).mono ?_
  rintro y s3 ⟨⟨i3,m3,n3⟩,hy⟩
  exact ⟨⟨i3,by omega,by omega⟩,hy⟩
theorem Ib (hR:bU B l R M1 M2) (hs:bV B l s) (h1:mu s≤M1):W B (rU R) s (PQ B l s (aQ (.of [80]))):=by
 have hf:=hR.fuel
 have hp:=bq hs
 refine ah (cA ?_)
 have fin:∀ s1,dj B l s s1→DM s.now.text=true→W B (do let e ← d4; pure (aE 80 s.now.text 0 s.now.pos [e])) s1 (PQ B l s (aQ (.of [80]))):=fun s1 f1 ht=>by
  refine ah (jc (aH ⟨f1,?_,List.mem_singleton.2 rfl⟩))
  have hq:LQ B (s.now.pos) .type (aE 2 kE 0 (s1.now.pos) []):=LQ.nil f1.np (bq f1.inn).2
  exact JK (Int.le_refl _) hp.2 ht hq.nd hq.ev
 refine ah ?_
 refine kO (cx hs (fun hb s1 f1=>⟨fun _=>fin s1 f1 (vk (.inl (c7 hb).2)),nofun⟩) fun _=>⟨nofun,fun _=>?_⟩)
 refine kO (cx hs (fun hb s1 f1=>⟨fun _=>fin s1 f1 (vk (.inr (.inl (c7 hb).2))),nofun⟩) fun _=>⟨nofun,fun _=>?_⟩)
 refine kO (cx hs (fun hb s1 f1=>⟨fun _=>fin s1 f1 (vk (.inr (.inr (.inl (c7 hb).2)))),nofun⟩) fun _=>⟨nofun,fun _=>?_⟩)
 refine cx hs (fun hb s1 f1=>fin s1 f1 (vk (.inr (.inr (.inr (c7 hb).2))))) fun _=>?_
 refine ah (dF hs fun hn s1 ⟨i1,m1,n1⟩=>?_)
 refine ah ((GP R.fuel s1 _ i1 (by omega) (IH hn)).mono ?_)
 rintro y s2 ⟨⟨i2,m2,n2⟩,hy⟩
 refine ah ((sm hR i2 (by omega)).mono ?_)
 rintro a s3 ⟨⟨i3,m3,n3⟩,ha⟩
 have ha':=ha.le (lo':=s.now.pos) (by omega)
 exact aH ⟨⟨i3,by omega,by omega⟩,JK (Int.le_refl _) hp.2 (KU hy) ha'.nd ha'.ev,List.mem_singleton.2 rfl⟩
theorem FT (hR:bU B l R M1 M2) (w:ByteArray) (hs:bV B l s) (h1:mu s≤M1):W B (nH R w) s fun n s'=>Fw B l s s'∧LQ B (s.now.pos) (.of [80]) n:=by
 have hf:=hR.fuel
 refine ah (cA ?_)
 refine ah (cx hs (fun hb s1 ⟨i1,m1,n1⟩=>?_) fun hb=>?_)
 ·refine ah ((pS (q:=.of [80]) i1 (fun s' i' m'=>Ib hR i' (by omega)) (by omega)).mono ?_)
  rintro n s2 ⟨⟨i2,m2,n2⟩,hl⟩
  exact aH ⟨⟨i2,by omega,by omega⟩,hl.set (by omega) (bq hs).2⟩
 ·exact jc ⟨Fw.rfl' hs,LQ.nil (Int.le_refl _) (bq hs).2⟩
theorem ny (hR:bU B l R M1 M2) (hs:bV B l s) (h1:mu s≤M1):W B (dT R) s (ME B l s (aQ (.or .type (.of [1])))):=by
 refine ah (cx hs (fun hb s1 ⟨i1,m1,n1⟩=>?_) fun hb=>?_)
 ·refine (hR.typed s1 i1 (by omega)).mono ?_
  rintro n s2 ⟨⟨i2,m2,n2⟩,hn,hk⟩
  exact ⟨⟨i2,by omega,by omega⟩,hn.le (by omega),.inl hk⟩
 ·exact iq ⟨Fw.rfl' hs,rD (Int.le_refl _) (bq hs).2,.inr (List.mem_singleton.2 rfl)⟩
def Mk (marks:Bool) (n:Int):Prop:=(marks=false→eE n 1=0)∧eE n 7=0
theorem H6:∀ (marks a b c:Bool),(marks=false→a=false∧b=false)→Mk marks (if c then fW (if b then fW (if a then fW 0 2 else 0) 4 else (if a then fW 0 2 else 0)) 1 else (if b then fW (if a then fW 0 2 else 0) 4 else (if a then fW 0 2 else 0))):=by
 intro marks a b c h
 cases marks with
 | false =>
  obtain ⟨rfl,rfl⟩:=h rfl
  cases c<;>exact ⟨fun _=>by kernel_rfl,by kernel_rfl⟩
 | true=>cases a<;>cases b<;>cases c<;>exact ⟨nofun,by kernel_rfl⟩
theorem IT (hR:bU B l R M1 M2) (marks:Bool) (hs:bV B l s) (h1:mu s≤M1):W B (qc R marks) s (PQ B l s fun n=>n.kind=66∧(marks=false→eE n.num 1=0)):=by
 have hp:=bq hs
 refine ah (cA ?_)
 have hlast:∀ (a b c:Bool) (s3:PSt) (x:ByteArray) (n:Int),(marks=false→a=false∧b=false)→dj B l s s3→dZ x=true→n=(if c then fW (if b then fW (if a then fW 0 2 else 0) 4 else (if a then fW 0 2 else 0)) 1 else (if b then fW (if a then fW 0 2 else 0) 4 else (if a then fW 0 2 else 0))) →
   W B (do let o ← dT R; pure (aE 66 x n s.now.pos [o])) s3 (PQ B l s fun n=>n.kind=66∧(marks=false→eE n.num 1=0)):=by
  rintro a b c s3 x n hab ⟨i3,m3,n3⟩ hx rfl
  refine ah ((ny hR i3 (by omega)).mono ?_)
  rintro o s4 ⟨⟨i4,m4,n4⟩,ho,ho2⟩
  have hpar:=H6 marks a b c hab
  refine aH ⟨⟨i4,by omega,by omega⟩,J0 (Int.le_refl _) hp.2 ?_ (ho.le (by omega)) ho2,rfl,hpar.1⟩
  show (bif (eE _ 7==0) then dZ x else false)=true
  rw [hpar.2]; exact hx
 have h2:∀ (a b:Bool) (s2:PSt) (n:Int),(marks=false→a=false∧b=false)→Fw B l s s2→n=(if b then fW (if a then fW 0 2 else 0) 4 else (if a then fW 0 2 else 0)) →
   W B (do let x ← cV; let b ← aX ka; let n ← cond b (pure (fW n 1)) (pure n); let o ← dT R; pure (aE 66 x n s.now.pos [o])) s2 (PQ B l s fun n=>n.kind=66∧(marks=false→eE n.num 1=0)):=by
  rintro a b s2 n hab ⟨i2,m2,n2⟩ rfl
  refine ah (dF i2 fun hn s3 ⟨i3,m3,n3⟩=>?_)
  refine ah (cx i3 (fun _ s4 ⟨i4,m4,n4⟩=>?_) fun _=>?_)
  ·exact ah (aH (hlast a b true s4 _ _ hab ⟨i4,by omega,by omega⟩ hn rfl))
  ·exact ah (aH (hlast a b false s3 _ _ hab ⟨i3,by omega,by omega⟩ hn rfl))
 have h3:∀ (a:Bool) (s1:PSt) (n:Int),(marks=false→a=false)→Fw B l s s1→n=(if a then fW 0 2 else 0) →
   W B (do let b ← cond marks (aX j8) (pure false); let n ← cond b (pure (fW n 4)) (pure n); let x ← cV; let b ← aX ka; let n ← cond b (pure (fW n 1)) (pure n); let o ← dT R; pure (aE 66 x n s.now.pos [o])) s1 (PQ B l s fun n=>n.kind=66∧(marks=false→eE n.num 1=0)):=by
  rintro a s1 n ha ⟨i1,m1,n1⟩ rfl
  refine ah (bY (fun hm=>?_) fun hm=>?_)
  ·refine cx i1 (fun _ s2 ⟨i2,m2,n2⟩=>?_) fun _=>?_
   ·exact ah (aH (h2 a true s2 _ (fun h=>by rw [hm] at h; cases h) ⟨i2,by omega,by omega⟩ rfl))
   ·exact ah (aH (h2 a false s1 _ (fun h=>by rw [hm] at h; cases h) ⟨i1,by omega,by omega⟩ rfl))
  ·exact aH (ah (aH (h2 a false s1 _ (fun h=>⟨ha h,rfl⟩) ⟨i1,by omega,by omega⟩ rfl)))
 refine ah (bY (fun hm=>?_) fun hm=>?_)
 ·refine cx hs (fun _ s2 ⟨i2,m2,n2⟩=>?_) fun _=>?_
  ·exact ah (aH (h3 true s2 _ (fun h=>by rw [hm] at h; cases h) ⟨i2,by omega,by omega⟩ rfl))
  ·exact ah (aH (h3 false s _ (fun h=>rfl) (Fw.rfl' hs) rfl))
 ·exact aH (ah (aH (h3 false s _ (fun h=>rfl) (Fw.rfl' hs) rfl)))
theorem oo (hR:bU B l R M1 M2) (marks:Bool) (hs:bV B l s) (h1:mu s≤M1):W B (gX R marks) s fun n s'=>Fw B l s s'∧LQ B (s.now.pos) (if marks then .of [66] else .plain) n:=by
 have hf:=hR.fuel
 refine ah (fz ?_)
 refine bY (fun hb=>?_) fun hb=>?_
 ·exact jc ⟨Fw.rfl' hs,LQ.nil (Int.le_refl _) (bq hs).2⟩
 ·refine (pS (q:=if marks then .of [66] else .plain) hs (fun s' i' m'=>(IT hR marks i' (by omega)).mono ?_) (by omega)).mono ?_
  ·rintro n s2 ⟨f2,hn,hk,hm⟩
   refine ⟨f2,hn,?_⟩
   cases marks with
   | true=>exact List.mem_singleton.2 hk
   | false=>exact ⟨hk,hm rfl⟩
  ·rintro n s2 ⟨⟨i2,m2,n2⟩,hl⟩
   exact ⟨⟨i2,by omega,by omega⟩,hl⟩
theorem IU (hR:bU B l R M1 M2) (hs:bV B l s) (h1:mu s≤M1):W B (qz R) s (PQ B l s (aQ (.of [85]))):=by
 have hp:=bq hs
 refine ah (cA ?_)
 refine ah (dF hs fun hn s1 ⟨i1,m1,n1⟩=>?_)
 refine ah (fz ?_)
 refine bY (fun hb=>?_) fun hb=>?_
 ·have hp1:=bq i1
  refine ah (cA ?_)
  refine ah (bM i1 fun _ s2 ⟨i2,m2,n2⟩=>?_)
  refine ah ((oo hR false i2 (by omega)).mono ?_)
  rintro a s3 ⟨⟨i3,m3,n3⟩,ha⟩
  refine ah (bM i3 fun _ s4 ⟨i4,m4,n4⟩=>?_)
  refine ah (bM i4 fun _ s5 ⟨i5,m5,n5⟩=>?_)
  refine ah ((hR.typed s5 i5 (by omega)).mono ?_)
  rintro x s6 ⟨⟨i6,m6,n6⟩,hx,hk⟩
  have ha':=ha.le (lo':=s1.now.pos) (by omega)
  exact aH ⟨⟨i6,by omega,by omega⟩,Kz (Int.le_refl _) hp.2 hn (.inl rfl) (J2 n1 hp1.2 ha'.nd ha'.ev (hx.le (by omega)) hk) (by show fc 86=true; decide),List.mem_singleton.2 rfl⟩
 ·have hlast:∀ (s2:PSt) (n:Int),dj B l s s2→n=0∨n=1→W B (do a8 gc; let x ← R.typed; pure (aE 85 s.now.text n s.now.pos [x])) s2 (PQ B l s (aQ (.of [85]))):=by
   rintro s2 n ⟨i2,m2,n2⟩ hn01
   refine ah (bM i2 fun _ s3 ⟨i3,m3,n3⟩=>?_)
   refine ah ((hR.typed s3 i3 (by omega)).mono ?_)
   rintro x s4 ⟨⟨i4,m4,n4⟩,hx,hk⟩
   exact aH ⟨⟨i4,by omega,by omega⟩,Kz (Int.le_refl _) hp.2 hn hn01 (hx.le (by omega)) hk,List.mem_singleton.2 rfl⟩
  refine ah (cx i1 (fun _ s2 ⟨i2,m2,n2⟩=>?_) fun _=>?_)
  ·exact ah (aH (hlast s2 1 ⟨i2,by omega,by omega⟩ (.inr rfl)))
  ·exact ah (aH (hlast s1 0 ⟨i1,by omega,by omega⟩ (.inl rfl)))
theorem Cd (hR:bU B l R M1 M2) {p:Int} (hB:p≤B):∀ (k:Nat) (s:PSt) (ks:List N),bV B l s→mu s < k→mu s≤M1→p≤s.now.pos→(∀ x∈ks,Nd B p x∧aQ (.of [85]) x) →
  W B (lV R k (aE 84 kE 0 p ks)) s fun n s'=>dj B l s s'∧Nd B p n∧aQ (.of [84]) n
 | 0,s,ks,hs,hk,hM,hp,hks=>absurd hk (Nat.not_lt_zero _)
 | k+1,s,ks,hs,hk,hM,hp,hks=>by
  have last:∀ (s1:PSt) (ks':List N),Fw B l s s1→(∀ x∈ks',Nd B p x∧aQ (.of [85]) x)→W B (do a8 k_rc; pure (aE 84 kE 0 p ks')) s1 fun n s'=>dj B l s s'∧Nd B p n∧aQ (.of [84]) n:=by
   rintro s1 ks' ⟨i1,m1,n1⟩ hks'
   refine ah (bM i1 fun _ s3 ⟨i3,m3,n3⟩=>?_)
   exact aH ⟨⟨i3,by omega,by omega⟩,LI (Int.le_refl _) hB hks',List.mem_singleton.2 rfl⟩
  refine ah (fz ?_)
  refine bY (fun hb=>last s ks (Fw.rfl' hs) hks) fun hb=>?_
  refine ah ((IU hR hs hM).mono ?_)
  rintro x s1 ⟨⟨i1,m1,n1⟩,hx,hk2⟩
  have hks':∀ y∈ks++[x],Nd B p y∧aQ (.of [85]) y:=fun y hy=>by
   rcases List.mem_append.1 hy with hy | hy
   ·exact hks y hy
   ·obtain rfl:=List.mem_singleton.1 hy; exact ⟨hx.le hp,hk2⟩
  have go:∀ s2,dj B l s1 s2→W B (lV R k ((aE 84 kE 0 p ks).push x)) s2 fun n s'=>dj B l s s'∧Nd B p n∧aQ (.of [84]) n:=by
   rintro s2 ⟨i2,m2,n2⟩
   refine (Cd hR hB k s2 (ks++[x]) i2 (by omega) (by omega) (by omega) hks').mono ?_
   rintro n s3 ⟨⟨i3,m3,n3⟩,hn⟩
   exact ⟨⟨i3,by omega,by omega⟩,hn⟩
  refine ah ?_
  refine kO (cx i1 (fun _ s2 f2=>⟨fun _=>go s2 f2,nofun⟩) fun _=>⟨nofun,fun _=>?_⟩)
  exact cx i1 (fun _ s2 f2=>go s2 f2) fun _=>last s1 (ks++[x]) ⟨i1,by omega,by omega⟩ hks'
theorem ry (hR:bU B l R M1 M2) (hs:bV B l s) (h1:mu s≤M1):W B (ew R) s (PQ B l s (aQ (.of [84]))):=by
 have hf:=hR.fuel
 refine ah (cA ?_)
 refine ah (bM hs fun _ s1 ⟨i1,m1,n1⟩=>?_)
 refine (Cd hR (bq hs).2 R.fuel s1 [] i1 (by omega) (by omega) n1 (fun _ h=>nomatch h)).mono ?_
 rintro n s2 ⟨⟨i2,m2,n2⟩,hn,hk⟩
 exact ⟨⟨i2,by omega,by omega⟩,hn,hk⟩
theorem CS (hR:bU B l R M1 M2) (hs:bV B l s) (h1:mu s≤M1):W B (iV R) s (PQ B l s (aQ .type)):=by
 have hp:=bq hs
 refine ah (cA ?_)
 refine ah (bM hs fun _ s2 ⟨i2,m2,n2⟩=>?_)
 refine ah ((oo hR false i2 (by omega)).mono ?_)
 rintro a s3 ⟨⟨i3,m3,n3⟩,ha⟩
 refine ah (bM i3 fun _ s4 ⟨i4,m4,n4⟩=>?_)
 refine ah (bM i4 fun _ s5 ⟨i5,m5,n5⟩=>?_)
 refine ah ((hR.typed s5 i5 (by omega)).mono ?_)
 rintro x s6 ⟨⟨i6,m6,n6⟩,hx,hk⟩
 have ha':=ha.le (lo':=s.now.pos) (by omega)
 exact aH ⟨⟨i6,by omega,by omega⟩,J2 (Int.le_refl _) hp.2 ha'.nd ha'.ev (hx.le (by omega)) hk,by show fc 86=true; decide⟩
theorem CI {n:Int} (h:-9007199254740991≤n∧n≤9007199254740991):dh 81 kE n=true:=by
 show (bif (kE.toList==kE.toList) then (bif decide (n≥-9007199254740991) then decide (n≤9007199254740991) else false) else false)=true
 rw [show (kE.toList==kE.toList)=true by simp,decide_eq_true (show n≥-9007199254740991 from h.1),decide_eq_true h.2]; rfl
theorem G8 {n:Int} (h:0≤n∧n≤9007199254740991):dh 10 kE n=true:=by
 show (bif (kE.toList==kE.toList) then (bif decide (n≥0) then decide (n≤9007199254740991) else false) else false)=true
 rw [show (kE.toList==kE.toList)=true by simp,decide_eq_true (show n≥0 from h.1),decide_eq_true h.2]; rfl
theorem Jm (hR:bU B l R M1 M2) (hs:bV B l s) (h1:mu s≤M1):W B (qs R) s (PQ B l s (aQ .type)):=by
 have hp:=bq hs
 refine ah (cA ?_)
 have rest:W B (do
   let b ← aX k_lp
   cond b (do let x ← R.typed; a8 k_rp; pure x) <|
    cond (s.now.kind==3) (do let _ ← dm; pure (aE 81 kE (lp s.now.text) s.now.pos [])) do
     let b ← aX g9
     cond b (do
      let u ← cj
      cond (u.kind != 3) cz (do let v ← dm; pure (aE 81 kE (IntKind.i64.wrap (0 - lp v.text)) s.now.pos []))) <|
      cond (s.now.kind==4) (do let _ ← dm; pure (aE 82 s.now.text 0 s.now.pos [])) do
       let b ← dS k_lc
       cond b (ew R) (rU R)) s (PQ B l s (aQ .type)):=by
  refine cE hs (fun _ s1 ⟨i1,m1,n1⟩=>?_) fun _=>?_
  ·refine ah ((hR.typed s1 i1 (by omega)).mono ?_)
   rintro x s2 ⟨⟨i2,m2,n2⟩,hx,hk⟩
   refine ah (bM i2 fun _ s3 ⟨i3,m3,n3⟩=>?_)
   exact aH ⟨⟨i3,by omega,by omega⟩,hx.le (by omega),hk⟩
  refine bY (fun hk=>?_) fun hk=>?_
  ·have hk':s.now.kind=3:=by simpa using hk
   refine ah (fR hs (by omega) fun s1 f1=>aH ⟨f1,JY (Int.le_refl _) hp.2 (CI ?_),by show fc 81=true; decide⟩)
   have:=(fU hs).num hk'
   omega
  refine cE hs (fun _ s1 ⟨i1,m1,n1⟩=>?_) fun _=>?_
  ·refine ah (cA ?_)
   refine bY (fun _=>fM i1) fun hk3=>?_
   have hk':s1.now.kind=3:=by simpa using hk3
   refine ah (fR i1 (by omega) fun s2 ⟨i2,m2,n2⟩=>aH ⟨⟨i2,by omega,by omega⟩,JY (Int.le_refl _) hp.2 (CI ?_),by show fc 81=true; decide⟩)
   have:=(fU i1).num hk'
   rw [bg (by omega) (by omega)]
   omega
  refine bY (fun hk4=>?_) fun hk4=>?_
  ·have hk':s.now.kind=4:=by simpa using hk4
   refine ah (fR hs (by omega) fun s1 f1=>aH ⟨f1,LE (Int.le_refl _) hp.2 ?_,by show fc 82=true; decide⟩)
   exact (fU hs).str (.inl hk')
  refine l7 (fun _=>?_) fun _=>?_
  ·refine (ry hR hs h1).mono ?_
   rintro x s2 ⟨f2,hx,hk⟩
   exact ⟨f2,hx,by show fc x.kind=true; rw [List.mem_singleton.1 hk]; decide⟩
  ·refine (Ib hR hs h1).mono ?_
   rintro x s2 ⟨f2,hx,hk⟩
   exact ⟨f2,hx,by show fc x.kind=true; rw [List.mem_singleton.1 hk]; decide⟩
 refine ah ?_
 refine q5 (fz ⟨fun hb=>?_,fun hb=>rest⟩)
 refine ah (BX fun c=>aH ?_)
 exact bY (fun _=>CS hR hs h1) fun _=>rest
theorem J7 (hR:bU B l R M1 M2) (hs:bV B l s) (h1:mu s≤M1) (harr:∀ {pos:Int} (hB:pos≤B) (k:Nat) (s:PSt) (x:N),bV B l s→mu s < k→pos≤s.now.pos→Nd B pos x→aQ .type x→W B (lK pos k x) s fun y s'=>Fw B l s s'∧Nd B pos y∧aQ .type y):W B (l9 R) s (PQ B l s (aQ .type)):=by
 have hf:=hR.fuel
 refine ah (cA ?_)
 refine ah ((Jm hR hs h1).mono ?_)
 rintro x s1 ⟨⟨i1,m1,n1⟩,hx,hk⟩
 refine (harr (bq hs).2 R.fuel s1 x i1 (by omega) n1 hx hk).mono ?_
 rintro y s2 ⟨⟨i2,m2,n2⟩,hy⟩
 exact ⟨⟨i2,by omega,by omega⟩,hy⟩
theorem En (hrows:∀ s,bV B l s→mu s≤M1→W B (l9 R) s (PQ B l s (aQ .type))) {p:Int} (hB:p≤B):∀ (k:Nat) (s:PSt) (ks:List N),bV B l s→mu s < k→mu s≤M1→p≤s.now.pos→(∀ x∈ks,Nd B p x∧fc x.kind=true)→(1 < ks.length∨0 < ks.length∧cB s.now hZ=true) →
  W B (k7 R k (aE 87 kE 0 p ks)) s fun n s'=>Fw B l s s'∧Nd B p n∧aQ .type n
 | 0,s,ks,hs,hk,hM,hp,hks,hc=>absurd hk (Nat.not_lt_zero _)
 | k+1,s,ks,hs,hk,hM,hp,hks,hc=>by
  refine ah (cx hs (fun _ s1 ⟨i1,m1,n1⟩=>?_) fun hb=>?_)
  ·refine ah ((hrows s1 i1 (by omega)).mono ?_)
   rintro x s2 ⟨⟨i2,m2,n2⟩,hx,hkx⟩
   refine (En hrows hB k s2 (ks++[x]) i2 (by omega) (by omega) (by omega) (fun y hy=>?_) (.inl (by simp; omega))).mono ?_
   ·rcases List.mem_append.1 hy with hy | hy
    ·exact hks y hy
    ·obtain rfl:=List.mem_singleton.1 hy; exact ⟨hx.le (by omega),hkx⟩
   ·rintro n s3 ⟨⟨i3,m3,n3⟩,hn⟩
    exact ⟨⟨i3,by omega,by omega⟩,hn⟩
  ·refine aH ⟨Fw.rfl' hs,Lv (Int.le_refl _) hB ?_ hks,by show fc 87=true; decide⟩
   rcases hc with hc | ⟨_,hc⟩
   ·exact hc
   ·rw [hb] at hc; cases hc
theorem BZ {pos:Int} (hB:pos≤B):∀ (k:Nat) (s:PSt) (x:N),bV B l s→mu s < k→pos≤s.now.pos→Nd B pos x→aQ .type x→W B (lK pos k x) s fun y s'=>Fw B l s s'∧Nd B pos y∧aQ .type y
 | 0,s,x,hs,hk,hp,hx,hx2=>absurd hk (Nat.not_lt_zero _)
 | k+1,s,x,hs,hk,hp,hx,hx2=>by
  have no:W B (pure x:PM N) s fun y s'=>Fw B l s s'∧Nd B pos y∧aQ .type y:=aH ⟨Fw.rfl' hs,hx,hx2⟩
  refine ah ?_
  refine q5 (fz ⟨fun hb=>?_,fun hb=>no⟩)
  have hb':=(c7 hb).1
  refine ah (Jz (aH ?_))
  refine bY (fun ht2=>?_) fun _=>no
  refine ah (Je hs (by omega) fun s1 ⟨i1,m1,n1⟩ hn1 _ _ _=>?_)
  have hk1:s1.now.kind≠10:=by
   rw [hn1]
   have:=(c7 ht2).1
   omega
  refine ah (fR i1 hk1 fun s2 ⟨i2,m2,n2⟩=>?_)
  refine (BZ hB k s2 _ i2 (by omega) (by omega) (Mb (Int.le_refl _) hB hx hx2) (by show fc 83=true; decide)).mono ?_
  rintro y s3 ⟨⟨i3,m3,n3⟩,hy⟩
  exact ⟨⟨i3,by omega,by omega⟩,hy⟩
theorem D3 (hR:bU B l R M1 M2) (hs:bV B l s) (h1:mu s≤M1):W B (pR R) s (PQ B l s (aQ .type)):=by
 have hf:=hR.fuel
 have hp:=bq hs
 have hrows:∀ s,bV B l s→mu s≤M1→W B (l9 R) s (PQ B l s (aQ .type)):=fun s hs h=>J7 hR hs h fun hB k s x=>BZ hB k s x
 refine ah (cA ?_)
 have go:∀ s1,Fw B l s s1→W B (do
   let x ← l9 R
   let b ← dS hZ
   cond b (k7 R R.fuel (aE 87 kE 0 s.now.pos [x])) (pure x)) s1 (PQ B l s (aQ .type)):=by
  rintro s1 ⟨i1,m1,n1⟩
  refine ah ((hrows s1 i1 (by omega)).mono ?_)
  rintro x s2 ⟨⟨i2,m2,n2⟩,hx,hk⟩
  refine ah (fz ?_)
  refine bY (fun hb=>?_) fun hb=>aH ⟨⟨i2,by omega,by omega⟩,hx.le (by omega),hk⟩
  refine (En hrows hp.2 R.fuel s2 [x] i2 (by omega) (by omega) (by omega) (fun y hy=>?_) (.inr ⟨by simp,hb⟩)).mono ?_
  ·obtain rfl:=List.mem_singleton.1 hy; exact ⟨hx.le (by omega),hk⟩
  ·rintro n s3 ⟨⟨i3,m3,n3⟩,hn,hk3⟩
   exact ⟨⟨i3,by omega,by omega⟩,hn,hk3⟩
 refine ah (cx hs (fun _ s1 ⟨i1,m1,n1⟩=>go s1 ⟨i1,by omega,by omega⟩) fun _=>go s (Fw.rfl' hs))
end
end Go.Proofs.YtjlgcpgjdgeejaaGreatDoor
end

section
namespace Go.Proofs.YtjlgcpgjdgeejaaGreatDoor
open Go
set_option linter.unusedSimpArgs false
set_option linter.unusedVariables false
set_option linter.constructorNameAsVariable false
set_option maxRecDepth 100000
section
variable {B lo:Int} {l:List Tok} {s:PSt} {R:a6} {M1 M2:Nat} {q:Pl}
theorem Jx {Q:Bool→PSt→Prop} (hR:bU B l R M1 M2) (hs:bV B l s) (h1:mu s≤M1) (h:∀ b,Q b s):W B (jH R) s Q:=by
 have hw:W B (do let _ ← eY R; dS k_lp:PM Bool) s fun _ _=>True:=ah ((sm hR hs h1).mono fun n s' _=>fz trivial)
 unfold W at hw
 unfold W jH
 split at hw
 ·exact hw.elim
 ·rename_i e he; rw [he]; exact h false
 ·rename_i b s' he; rw [he]; exact h b
theorem Jy {Q:Bool→PSt→Prop} (h:∀ b,Q b s):W B qr s Q:=by
 refine ah (cA ?_)
 refine bY (fun _=>?_) fun _=>?_
 ·exact ah (ou fun u=>aH (h _))
 ·refine l7 (fun _=>?_) fun _=>fz (h _)
  exact ah (BX fun u=>aH (h _))
theorem FC (hR:bU B l R M1 M2) {pos:Int} (hs:bV B l s) (h1:mu s≤M1) (hpe:pos=s.now.pos) (hB:pos≤B):W B (lr R pos) s fun n s'=>dj B l s s'∧Nd B pos n∧aQ .expr n:=by
 have hn:=bq hs
 have hp:pos≤s.now.pos:=by omega
 refine ah (jc ?_)
 refine ah (jc ?_)
 refine ah (cA ?_)
 refine ah (W.mono (Q:=fun vp s'=>dj B l s s'∧LQ B pos (.of [67]) vp.1∧LQ B pos .plain vp.2) (bY (fun _=>?_) fun _=>?_) ?_)
 ·refine ah (dF hs fun hx s1 ⟨i1,m1,n1⟩=>ah (iq (aH ⟨⟨i1,m1,n1⟩,LQ.nil hp hn.2,?_⟩)))
  refine ⟨s.now.pos,_,rfl,hp,hn.2,fun x hx2=>?_⟩
  obtain rfl:=List.mem_singleton.1 hx2
  refine ⟨J0 (by omega) hB ?_ (rD (by omega) (bq i1).2) (.inr (List.mem_singleton.2 rfl)),rfl,by kernel_rfl⟩
  show (bif (eE 0 7==0) then dZ s.now.text else false)=true
  rw [show eE 0 7=0 by kernel_rfl]; exact hx
 ·refine ah ((rN hR hs h1).mono ?_)
  rintro v s1 ⟨⟨i1,m1,n1⟩,hv⟩
  refine ah (bM i1 fun _ s2 ⟨i2,m2,n2⟩=>?_)
  refine ah ((oo hR false i2 (by omega)).mono ?_)
  rintro p s3 ⟨⟨i3,m3,n3⟩,hps⟩
  refine ah (bM i3 fun _ s4 ⟨i4,m4,n4⟩=>aH ⟨⟨i4,by omega,by omega⟩,hv.le hp,hps.le (by omega)⟩)
 ·rintro ⟨v,p⟩ s1 ⟨⟨i1,m1,n1⟩,hv,hps⟩
  refine ah (bM i1 fun _ s2 ⟨i2,m2,n2⟩=>?_)
  refine ah (fz ?_)
  refine ah (W.mono (Q:=fun x s'=>dj B l s s'∧Nd B pos x∧aQ (.or (.of [63]) .expr) x) (bY (fun _=>?_) fun _=>?_) ?_)
  ·refine (hR.block s2 i2 (by omega)).mono ?_
   rintro x s3 ⟨⟨i3,m3,n3⟩,hx,hk⟩
   exact ⟨⟨i3,by omega,by omega⟩,hx.le (by omega),.inl hk⟩
  ·refine (hR.expr s2 i2 (by omega)).mono ?_
   rintro x s3 ⟨⟨i3,m3,n3⟩,hx,hk⟩
   exact ⟨⟨i3,by omega,by omega⟩,hx.le (by omega),.inr hk⟩
  ·rintro x s3 ⟨f3,hx,hk⟩
   exact aH ⟨f3,LN (Int.le_refl _) hB hv.nd hv.ev hps.nd hps.ev hx hk,by show cD 22=true; decide⟩
theorem xS (hR:bU B l R M1 M2) (hs:bV B l s) (h1:mu s≤M1):W B (jA R) s fun n s'=>dj B l s s'∧LQ B s.now.pos .expr n:=by
 have hf:=hR.fuel
 refine ah (bM hs fun _ s1 ⟨i1,m1,n1⟩=>?_)
 refine ah (jc ?_)
 refine ah (fz ?_)
 refine ah (W.mono (Q:=fun n s'=>Fw B l s1 s'∧LQ B s.now.pos .expr n) (bY (fun _=>aH ⟨Fw.rfl' i1,LQ.nil n1 (bq i1).2⟩) fun _=>?_) ?_)
 ·refine (pS (q:=.expr) i1 (fun s' i' m'=>hR.expr s' i' (by omega)) (by omega)).mono ?_
  rintro n s2 ⟨⟨i2,m2,n2⟩,hl⟩
  exact ⟨⟨i2,by omega,by omega⟩,hl.le (by omega)⟩
 ·rintro n s2 ⟨⟨i2,m2,n2⟩,hl⟩
  exact ah (bM i2 fun _ s3 ⟨i3,m3,n3⟩=>aH ⟨⟨i3,by omega,by omega⟩,hl⟩)
theorem DT (hR:bU B l R M1 M2) {p:Int} (hB:p≤B):∀ (k:Nat) (s:PSt) (ks:List N),bV B l s→mu s < k→mu s≤M1→p≤s.now.pos→(∀ x∈ks,Nd B p x∧aQ (.of [21]) x) →
  W B (od R k (aE 20 kE 0 p ks)) s fun n s'=>dj B l s s'∧Nd B p n∧aQ .expr n
 | 0,s,ks,hs,hk,hM,hp,hks=>absurd hk (Nat.not_lt_zero _)
 | k+1,s,ks,hs,hk,hM,hp,hks=>by
  have last:∀ (s1:PSt) (ks':List N),Fw B l s s1→(∀ x∈ks',Nd B p x∧aQ (.of [21]) x)→W B (do a8 k_rc; pure (aE 20 kE 0 p ks')) s1 fun n s'=>dj B l s s'∧Nd B p n∧aQ .expr n:=by
   rintro s1 ks' ⟨i1,m1,n1⟩ hks'
   refine ah (bM i1 fun _ s3 ⟨i3,m3,n3⟩=>?_)
   exact aH ⟨⟨i3,by omega,by omega⟩,LG (Int.le_refl _) hB hks',by show cD 20=true; decide⟩
  have hn:=bq hs
  refine l7 (fun hb=>last s ks (Fw.rfl' hs) hks) fun hb=>?_
  refine ah (cA ?_)
  refine ah (dF hs fun hx s1 ⟨i1,m1,n1⟩=>?_)
  refine ah ?_
  have after:∀ s2 x,Fw B l s1 s2→Nd B s.now.pos x→aQ .expr x→W B (do
    let b ← aX gd
    let n:=(aE 20 kE 0 p ks).push (aE 21 s.now.text 0 s.now.pos [x])
    cond b (od R k n) (do a8 k_rc; pure n)) s2 fun n s'=>dj B l s s'∧Nd B p n∧aQ .expr n:=by
   rintro s2 x ⟨i2,m2,n2⟩ hx2 hk2
   have hks':∀ y∈ks++[aE 21 s.now.text 0 s.now.pos [x]],Nd B p y∧aQ (.of [21]) y:=fun y hy=>by
    rcases List.mem_append.1 hy with hy | hy
    ·exact hks y hy
    ·obtain rfl:=List.mem_singleton.1 hy; exact ⟨LX hp hn.2 hx hx2 hk2,List.mem_singleton.2 rfl⟩
   refine cE i2 (fun _ s3 ⟨i3,m3,n3⟩=>?_) fun _=>last s2 _ ⟨i2,by omega,by omega⟩ hks'
   refine (DT hR hB k s3 _ i3 (by omega) (by omega) (by omega) hks').mono ?_
   rintro n s4 ⟨⟨i4,m4,n4⟩,hn4⟩
   exact ⟨⟨i4,by omega,by omega⟩,hn4⟩
  refine cx i1 (fun _ s2 ⟨i2,m2,n2⟩=>?_) fun _=>?_
  ·refine ah ((hR.expr s2 i2 (by omega)).mono ?_)
   rintro x s3 ⟨⟨i3,m3,n3⟩,hx3,hk3⟩
   exact after s3 x ⟨i3,by omega,by omega⟩ (hx3.le (by omega)) hk3
  ·exact ah (aH (after s1 _ (Fw.rfl' i1) (Hh (Int.le_refl _) hn.2 hx) (by show cD 17=true; decide)))
theorem G6 (hR:bU B l R M1 M2) (hs:bV B l s) (h1:mu s≤M1):W B (nR R) s (PQ B l s (aQ .expr)):=by
 have hf:=hR.fuel
 refine ah (cA ?_)
 refine ah (bM hs fun _ s1 ⟨i1,m1,n1⟩=>?_)
 refine (DT hR (bq hs).2 R.fuel s1 [] i1 (by omega) (by omega) n1 (fun _ h=>nomatch h)).mono ?_
 rintro n s2 ⟨⟨i2,m2,n2⟩,hn,hk⟩
 exact ⟨⟨i2,by omega,by omega⟩,hn,hk⟩
def Alt (ks:List N):Prop:=ks.length % 2=1∧∀ (i:Nat) (y:N),ks[i]? = some y→if i % 2=0 then y.kind=11 else cD y.kind=true
theorem Alt.one {t:ByteArray} {p:Int}:Alt [aE 11 t 0 p []]:=⟨rfl,fun i y hy=>by
 cases i with
 | zero=>simp at hy; subst hy; rfl
 | succ i=>simp at hy⟩
theorem Alt.two {ks:List N} (h:Alt ks) {x:N} (hx:cD x.kind=true) {t:ByteArray} {p:Int}:Alt (ks++[x]++[aE 11 t 0 p []]):=by
 obtain ⟨h1,h2⟩:=h
 refine ⟨by simp; omega,fun i y hy=>?_⟩
 by_cases hi:i < ks.length
 ·rw [List.append_assoc,List.getElem?_append_left hi] at hy
  exact h2 i y hy
 ·by_cases hi2:i=ks.length
  ·subst hi2
   rw [List.append_assoc,List.getElem?_append_right (by omega),Nat.sub_self] at hy
   simp at hy; subst hy
   rw [if_neg (by omega)]; exact hx
  ·have hlt:=(List.getElem?_eq_some_iff.1 hy).1
   simp at hlt
   have:i=ks.length+1:=by omega
   subst this
   rw [List.append_assoc,List.getElem?_append_right (by omega),Nat.add_sub_cancel_left] at hy
   simp at hy; subst hy
   rw [if_pos (by omega)]; rfl
theorem zK (hR:bU B l R M1 M2) {p:Int} (hB:p≤B):∀ (k:Nat) (s:PSt) (t:Tok) (ks:List N),bV B l s→mu s < k→mu s < M1→p≤s.now.pos→Alt ks→(∀ x∈ks,Nd B p x) →
  W B (iF R k t (aE 12 kE 0 p ks)) s fun n s'=>Fw B l s s'∧Nd B p n∧aQ .expr n
 | 0,s,t,ks,hs,hk,hM,hp,ha,hks=>absurd hk (Nat.not_lt_zero _)
 | k+1,s,t,ks,hs,hk,hM,hp,ha,hks=>by
  refine bY (fun _=>?_) fun _=>aH ⟨Fw.rfl' hs,LC (Int.le_refl _) hB ha.1 ha.2 hks,by show cD 12=true; decide⟩
  refine ah ((hR.expr s hs hM).mono ?_)
  rintro x s1 ⟨⟨i1,m1,n1⟩,hx,hk1⟩
  refine ah (cA ?_)
  refine bY (fun _=>fM i1) fun hk2=>?_
  have hk3:s1.now.kind=7∨s1.now.kind=8:=by
   simp only [bne,Bool.and_eq_false_iff,Bool.not_eq_false',beq_iff_eq] at hk2
   exact hk2
  have hn1:=bq i1
  refine ah (fR i1 (by omega) fun s2 ⟨i2,m2,n2⟩=>?_)
  refine (zK hR hB k s2 _ (ks++[x]++[aE 11 s1.now.text 0 s1.now.pos []]) i2 (by omega) (by omega) (by omega) (ha.two hk1) fun y hy=>?_).mono ?_
  ·rcases List.mem_append.1 hy with hy | hy
   ·rcases List.mem_append.1 hy with hy | hy
    ·exact hks y hy
    ·obtain rfl:=List.mem_singleton.1 hy; exact hx.le hp
   ·obtain rfl:=List.mem_singleton.1 hy
    exact Hw (by omega) hn1.2 ((fU i1).str (by omega))
  ·rintro n s3 ⟨⟨i3,m3,n3⟩,hn⟩
   exact ⟨⟨i3,by omega,by omega⟩,hn⟩
theorem E5 (hR:bU B l R M1 M2) (hs:bV B l s) (h1:mu s≤M1) (hk:s.now.kind=5∨s.now.kind=6):W B (ke R) s (PQ B l s (aQ .expr)):=by
 have hf:=hR.fuel
 have hn:=bq hs
 refine ah (fR hs (by omega) fun s1 ⟨i1,m1,n1⟩=>?_)
 refine (zK hR hn.2 R.fuel s1 _ [aE 11 s.now.text 0 s.now.pos []] i1 (by omega) (by omega) n1 Alt.one fun y hy=>?_).mono ?_
 ·obtain rfl:=List.mem_singleton.1 hy
  exact Hw (Int.le_refl _) hn.2 ((fU hs).str (by omega))
 ·rintro n s3 ⟨⟨i3,m3,n3⟩,hn,hk⟩
  exact ⟨⟨i3,by omega,by omega⟩,hn,hk⟩
theorem zq {pos:Int} (hB:pos≤B):∀ (k:Nat) (s:PSt) (x:N),bV B l s→mu s < k→pos≤s.now.pos→Nd B pos x→ti x→aQ .expr x→W B (membersS pos k x) s fun y s'=>Fw B l s s'∧Nd B pos y∧ti y∧aQ .expr y
 | 0,s,x,hs,hk,hp,hx,hx2,hx3=>absurd hk (Nat.not_lt_zero _)
 | k+1,s,x,hs,hk,hp,hx,hx2,hx3=>by
  refine cE hs (fun _ s1 ⟨i1,m1,n1⟩=>?_) fun _=>aH ⟨Fw.rfl' hs,hx,hx2,hx3⟩
  refine ah (dF i1 fun hn s2 ⟨i2,m2,n2⟩=>?_)
  refine (zq hB k s2 _ i2 (by omega) (by omega) (J9 (Int.le_refl _) hB hn hx hx3) (.mem _ _ _ _ hx2) (by show cD 29=true; decide)).mono ?_
  rintro y s3 ⟨⟨i3,m3,n3⟩,hy⟩
  exact ⟨⟨i3,by omega,by omega⟩,hy⟩
theorem BC (x:ByteArray):dP x=13∨dP x=14∨dP x=15∨dP x=16∨dP x=18∨dP x=0:=by
 unfold dP
 split
 ·exact .inl rfl
 split
 ·exact .inr (.inl rfl)
 split
 ·exact .inr (.inr (.inl rfl))
 split
 ·exact .inr (.inr (.inr (.inl rfl)))
 split
 ·exact .inr (.inr (.inr (.inr (.inl rfl))))
 ·exact .inr (.inr (.inr (.inr (.inr rfl))))
theorem Jv {p:Int} {x:ByteArray} (hB:p≤B) (h:dP x≠0):Nd B p (aE (dP x) kE 0 p [])∧aQ .expr (aE (dP x) kE 0 p []):=by
 rcases BC x with h1 | h1 | h1 | h1 | h1 | h1
 ·rw [h1]; exact ⟨Mq (Int.le_refl _) hB,by show cD 13=true; decide⟩
 ·rw [h1]; exact ⟨L8 (Int.le_refl _) hB,by show cD 14=true; decide⟩
 ·rw [h1]; exact ⟨LD (Int.le_refl _) hB,by show cD 15=true; decide⟩
 ·rw [h1]; exact ⟨Mc (Int.le_refl _) hB,by show cD 16=true; decide⟩
 ·rw [h1]; exact ⟨LO (Int.le_refl _) hB,by show cD 18=true; decide⟩
 ·exact absurd h1 h
theorem Hp (hR:bU B l R M1 M2) (hs:bV B l s) (h1:mu s≤M1) (hk:s.now.kind=2):W B (nU R s.now) s (PQ B l s (aQ .expr)):=by
 have hf:=hR.fuel
 have hp:=bq hs
 refine bY (fun hc=>?_) fun _=>?_
 ·have hc':dP s.now.text≠0:=by simpa using hc
  exact ah (fR hs (by omega) fun s1 f1=>aH ⟨f1,Jv hp.2 hc'⟩)
 refine cE hs (fun _ s1 ⟨i1,m1,n1⟩=>?_) fun _=>?_
 ·have hp1:=bq i1
  refine ah (cA ?_)
  refine ah (dF i1 fun hn s2 ⟨i2,m2,n2⟩=>?_)
  refine ah ((zq hp1.2 R.fuel s2 _ i2 (by omega) n2 (Hh (Int.le_refl _) hp1.2 hn) (.name _ _ _ _) (by show cD 17=true; decide)).mono ?_)
  rintro x s3 ⟨⟨i3,m3,n3⟩,hx,hx2,hx3⟩
  refine ah ((sm hR i3 (by omega)).mono ?_)
  rintro a s4 ⟨⟨i4,m4,n4⟩,ha⟩
  refine ah ((xS hR i4 (by omega)).mono ?_)
  rintro g s5 ⟨⟨i5,m5,n5⟩,hg⟩
  have ha':=ha.le (lo':=s.now.pos) (by omega)
  have hg':=hg.le (lo':=s.now.pos) (by omega)
  exact aH ⟨⟨i5,by omega,by omega⟩,LJ (Int.le_refl _) hp.2 (hx.le (by omega)) hx2 ha'.nd ha'.ev hg'.nd hg'.ev,by show cD 28=true; decide⟩
 refine cE hs (fun _ s1 ⟨i1,m1,n1⟩=>?_) fun _=>fM hs
 refine cE i1 (fun _ s2 ⟨i2,m2,n2⟩=>?_) fun _=>?_
 ·exact ah (dF i2 fun hn s3 ⟨i3,m3,n3⟩=>aH ⟨⟨i3,by omega,by omega⟩,Mv (Int.le_refl _) hp.2 hn,by show cD 32=true; decide⟩)
 ·refine ah ((xS hR i1 (by omega)).mono ?_)
  rintro g s5 ⟨⟨i5,m5,n5⟩,hg⟩
  have hg':=hg.le (lo':=s.now.pos) (by omega)
  exact aH ⟨⟨i5,by omega,by omega⟩,Mo (Int.le_refl _) hp.2 hg'.nd hg'.ev,by show cD 31=true; decide⟩
theorem Fu (hR:bU B l R M1 M2) (hs:bV B l s) (h1:mu s≤M1):W B (la R) s (PQ B l s (aQ .expr)):=by
 have hf:=hR.fuel
 have hp:=bq hs
 refine ah (cA ?_)
 refine bY (fun hk=>?_) fun hk3=>?_
 ·have hk':s.now.kind=3:=by simpa using hk
  exact ah (fR hs (by omega) fun s1 f1=>aH ⟨f1,LM (Int.le_refl _) hp.2 (G8 ((fU hs).num hk')),by show cD 10=true; decide⟩)
 refine bY (fun hk=>?_) fun hk4=>?_
 ·have hk':s.now.kind=4:=by simpa using hk
  exact ah (fR hs (by omega) fun s1 f1=>aH ⟨f1,Hw (Int.le_refl _) hp.2 ((fU hs).str (.inl hk')),by show cD 11=true; decide⟩)
 refine bY (fun hk=>E5 hR hs h1 ?_) fun hk5=>?_
 ·simpa using hk
 refine bY (fun hk=>?_) fun hk1=>?_
 ·have hk':s.now.kind=1:=by simpa using hk
  exact ah (fR hs (by omega) fun s1 f1=>aH ⟨f1,Hh (Int.le_refl _) hp.2 ((fU hs).name hk'),by show cD 17=true; decide⟩)
 refine bY (fun hk=>Hp hR hs h1 (by simpa using hk)) fun hk2=>?_
 refine cE hs (fun _ s1 ⟨i1,m1,n1⟩=>?_) fun _=>?_
 ·refine ah ((hR.expr s1 i1 (by omega)).mono ?_)
  rintro x s2 ⟨⟨i2,m2,n2⟩,hx,hk⟩
  exact ah (bM i2 fun _ s3 ⟨i3,m3,n3⟩=>aH ⟨⟨i3,by omega,by omega⟩,hx.le (by omega),hk⟩)
 refine cE hs (fun _ s1 ⟨i1,m1,n1⟩=>?_) fun _=>G6 hR hs h1
 refine ah (fz ?_)
 refine ah (W.mono (Q:=fun n s'=>Fw B l s1 s'∧LQ B s.now.pos .expr n) (bY (fun _=>aH ⟨Fw.rfl' i1,LQ.nil (Int.le_refl _) hp.2⟩) fun _=>?_) ?_)
 ·refine (pS (q:=.expr) i1 (fun s' i' m'=>hR.expr s' i' (by omega)) (by omega)).mono ?_
  rintro n s2 ⟨⟨i2,m2,n2⟩,hl⟩
  exact ⟨⟨i2,by omega,by omega⟩,hl.le (by omega)⟩
 ·rintro n s2 ⟨⟨i2,m2,n2⟩,q,ks,rfl,hl1,hl2,hl3⟩
  refine ah (bM i2 fun _ s3 ⟨i3,m3,n3⟩=>aH ⟨⟨i3,by omega,by omega⟩,L9 (Int.le_refl _) hp.2 fun x hx=>?_,by show cD 19=true; decide⟩)
  obtain ⟨g1,g2⟩:=hl3 x hx
  exact ⟨g1.le hl1,g2⟩
theorem Ej (hR:bU B l R M1 M2) {pos:Int} (hB:pos≤B):∀ (k:Nat) (s:PSt) (x:N),bV B l s→mu s < k→mu s≤M1→pos≤s.now.pos→Nd B pos x→aQ .expr x→W B (gT R pos k x) s fun y s'=>Fw B l s s'∧Nd B pos y∧aQ .expr y
 | 0,s,x,hs,hk,hM,hp,hx,hx3=>absurd hk (Nat.not_lt_zero _)
 | k+1,s,x,hs,hk,hM,hp,hx,hx3=>by
  have go:∀ s1 y,dj B l s s1→Nd B pos y→aQ .expr y→W B (gT R pos k y) s1 fun y s'=>Fw B l s s'∧Nd B pos y∧aQ .expr y:=by
   rintro s1 y ⟨i1,m1,n1⟩ hy hy2
   refine (Ej hR hB k s1 y i1 (by omega) (by omega) (by omega) hy hy2).mono ?_
   rintro z s2 ⟨⟨i2,m2,n2⟩,hz⟩
   exact ⟨⟨i2,by omega,by omega⟩,hz⟩
  refine cE hs (fun _ s1 ⟨i1,m1,n1⟩=>?_) fun _=>?_
  ·exact ah (dF i1 fun hn s2 ⟨i2,m2,n2⟩=>go s2 _ ⟨i2,by omega,by omega⟩ (J9 (Int.le_refl _) hB hn hx hx3) (by show cD 29=true; decide))
  refine cE hs (fun _ s1 ⟨i1,m1,n1⟩=>?_) fun _=>?_
  ·refine ah ((hR.expr s1 i1 (by omega)).mono ?_)
   rintro y s2 ⟨⟨i2,m2,n2⟩,hy,hk2⟩
   exact ah (bM i2 fun _ s3 ⟨i3,m3,n3⟩=>go s3 _ ⟨i3,by omega,by omega⟩ (Mn (Int.le_refl _) hB hx hx3 (hy.le (by omega)) hk2) (by show cD 30=true; decide))
  have call:∀ c:Bool,W B (cond c (do let a ← eY R; let g ← jA R; gT R pos k (aE 27 kE 0 pos [x,a,g])) do
     let b ← aX rO
     cond b (gT R pos k (aE 34 kE 0 pos [x])) (pure x)) s fun y s'=>Fw B l s s'∧Nd B pos y∧aQ .expr y:=by
   intro c
   refine bY (fun _=>?_) fun _=>?_
   ·refine ah ((sm hR hs (by omega)).mono ?_)
    rintro a s4 ⟨⟨i4,m4,n4⟩,ha⟩
    refine ah ((xS hR i4 (by omega)).mono ?_)
    rintro g s5 ⟨⟨i5,m5,n5⟩,hg⟩
    have ha':=ha.le (lo':=pos) (by omega)
    have hg':=hg.le (lo':=pos) (by omega)
    exact go s5 _ ⟨i5,by omega,by omega⟩ (L4 (Int.le_refl _) hB hx hx3 ha'.nd ha'.ev hg'.nd hg'.ev) (by show cD 27=true; decide)
   ·refine cE hs (fun _ s1 f1=>go s1 _ f1 (LS (Int.le_refl _) hB hx hx3) (by show cD 34=true; decide)) fun _=>aH ⟨Fw.rfl' hs,hx,hx3⟩
  refine ah (kO (fz ⟨fun _=>call true,fun _=>?_⟩))
  exact q5 (fz ⟨fun _=>Jx hR hs hM call,fun _=>call false⟩)
theorem GJ (hR:bU B l R M1 M2) (hs:bV B l s) (h1:mu s≤M1):W B (li R) s (PQ B l s (aQ .expr)):=by
 have hf:=hR.fuel
 refine ah (cA ?_)
 refine ah ((Fu hR hs h1).mono ?_)
 rintro x s1 ⟨⟨i1,m1,n1⟩,hx,hk⟩
 refine (Ej hR (bq hs).2 R.fuel s1 x i1 (by omega) (by omega) n1 hx hk).mono ?_
 rintro y s2 ⟨⟨i2,m2,n2⟩,hy⟩
 exact ⟨⟨i2,by omega,by omega⟩,hy⟩
theorem y9 (hR:bU B l R M1 M2) (hs:bV B l s) (h1:mu s≤M1):W B (ol R) s (PQ B l s (aQ .expr)):=by
 have hp:=bq hs
 refine ah (cA ?_)
 have yes:∀ s1 (x:ByteArray),dj B l s s1→s.now.text.toList=x.toList→dh 23 x 0=true→W B (do let x ← R.unary; pure (aE 23 s.now.text 0 s.now.pos [x])) s1 (PQ B l s (aQ .expr)):=by
  rintro s1 x ⟨i1,m1,n1⟩ ht hsaid
  rw [vx ht]
  refine ah ((hR.unary s1 i1 (by omega)).mono ?_)
  rintro y s2 ⟨⟨i2,m2,n2⟩,hy,hk⟩
  exact aH ⟨⟨i2,by omega,by omega⟩,LA (Int.le_refl _) hp.2 hsaid (hy.le (by omega)) hk,by show cD 23=true; decide⟩
 refine ah ?_
 refine kO (cx hs (fun hb s1 f1=>⟨fun _=>yes s1 _ f1 (c7 hb).2 (by kernel_rfl),nofun⟩) fun _=>⟨nofun,fun _=>?_⟩)
 refine kO (cx hs (fun hb s1 f1=>⟨fun _=>yes s1 _ f1 (c7 hb).2 (by kernel_rfl),nofun⟩) fun _=>⟨nofun,fun _=>?_⟩)
 refine kO (cx hs (fun hb s1 f1=>⟨fun _=>yes s1 _ f1 (c7 hb).2 (by kernel_rfl),nofun⟩) fun _=>⟨nofun,fun _=>?_⟩)
 exact cx hs (fun hb s1 f1=>yes s1 _ f1 (c7 hb).2 (by kernel_rfl)) fun _=>GJ hR hs h1
theorem Eu {Q:Option ByteArray→PSt→Prop}:∀ (ss:List ByteArray) (hs:bV B l s) (h1:∀ x∈ss,∀ s',dj B l s s'→Q (some x) s') (h2:Q none s),W B (jz ss) s Q
 | [],hs,h1,h2=>h2
 | x::ss,hs,h1,h2=>cE hs (fun _ s1 f1=>aH (h1 x (List.mem_cons_self ..) s1 f1)) fun _=>Eu ss hs (fun y hy=>h1 y (List.mem_cons_of_mem _ hy)) h2
theorem Hf:∀ n:Nat,(iu n).all (fun x=>x.toList==kas.toList||dh 24 x 0)=true
 | 0=>by kernel_rfl
 | 1=>by kernel_rfl
 | 2=>by kernel_rfl
 | 3=>by kernel_rfl
 | 4=>by kernel_rfl
 | 5=>by kernel_rfl
 | 6=>by kernel_rfl
 | 7=>by kernel_rfl
 | 8=>by kernel_rfl
 | 9=>by kernel_rfl
 | n+10=>rfl
theorem DP (hR:bU B l R M1 M2) {ss:List ByteArray} (hss:ss.all (fun x=>x.toList==kas.toList||dh 24 x 0)=true) {below:PM N} (hbelow:∀ s,bV B l s→mu s≤M1→W B below s (PQ B l s (aQ .expr))) {pos:Int} (hB:pos≤B) :
  ∀ (k:Nat) (s:PSt) (x:N),bV B l s→mu s < k→mu s≤M1→pos≤s.now.pos→Nd B pos x→aQ .expr x→W B (f6 R ss pos below k x) s fun y s'=>Fw B l s s'∧Nd B pos y∧aQ .expr y
 | 0,s,x,hs,hk,hM,hp,hx,hx3=>absurd hk (Nat.not_lt_zero _)
 | k+1,s,x,hs,hk,hM,hp,hx,hx3=>by
  refine ah (Eu ss hs (fun a ha s1 f1=>?_) (aH ⟨Fw.rfl' hs,hx,hx3⟩))
  obtain ⟨i1,m1,n1⟩:=f1
  have hsa:=List.all_eq_true.1 hss a ha
  have go:∀ s2 y,dj B l s s2→Nd B pos y→aQ .expr y→W B (f6 R ss pos below k y) s2 fun y s'=>Fw B l s s'∧Nd B pos y∧aQ .expr y:=by
   rintro s1 y ⟨i1,m1,n1⟩ hy hy2
   refine (DP hR hss hbelow hB k s1 y i1 (by omega) (by omega) (by omega) hy hy2).mono ?_
   rintro z s2 ⟨⟨i2,m2,n2⟩,hz⟩
   exact ⟨⟨i2,by omega,by omega⟩,hz⟩
  refine bY (fun hc=>?_) fun hc=>?_
  ·refine ah ((hR.typed s1 i1 (by omega)).mono ?_)
   rintro y s2 ⟨⟨i2,m2,n2⟩,hy,hk2⟩
   exact go s2 _ ⟨i2,by omega,by omega⟩ (Ms (Int.le_refl _) hB hx hx3 (hy.le (by omega)) hk2) (by show cD 33=true; decide)
  ·rw [hc,Bool.false_or] at hsa
   refine ah ((hbelow s1 i1 (by omega)).mono ?_)
   rintro y s2 ⟨⟨i2,m2,n2⟩,hy,hk2⟩
   exact go s2 _ ⟨i2,by omega,by omega⟩ (Mp (Int.le_refl _) hB hsa hx hx3 (hy.le (by omega)) hk2) (by show cD 24=true; decide)
theorem yI (hR:bU B l R M1 M2):∀ (m:Nat) (s:PSt),bV B l s→mu s≤M1→W B (gV R m) s (PQ B l s (aQ .expr))
 | 0,s,hs,h1=>y9 hR hs h1
 | m+1,s,hs,h1=>by
  have hf:=hR.fuel
  refine ah (cA ?_)
  refine ah ((yI hR m s hs h1).mono ?_)
  rintro x s1 ⟨⟨i1,m1,n1⟩,hx,hk⟩
  refine (DP hR (Hf _) (yI hR m) (bq hs).2 R.fuel s1 x i1 (by omega) (by omega) n1 hx hk).mono ?_
  rintro y s2 ⟨⟨i2,m2,n2⟩,hy⟩
  exact ⟨⟨i2,by omega,by omega⟩,hy⟩
theorem Kq (hR:bU B l R M1 M2) (hs:bV B l s) (h1:mu s≤M1):W B (l4 R) s (PQ B l s (aQ .expr)):=by
 have hp:=bq hs
 refine ah (cA ?_)
 refine ah ((yI hR 10 s hs h1).mono ?_)
 rintro x s1 ⟨⟨i1,m1,n1⟩,hx,hk⟩
 refine cE i1 (fun _ s2 ⟨i2,m2,n2⟩=>?_) fun _=>aH ⟨⟨i1,m1,n1⟩,hx,hk⟩
 refine ah ((hR.expr s2 i2 (by omega)).mono ?_)
 rintro y s3 ⟨⟨i3,m3,n3⟩,hy,hky⟩
 refine ah (bM i3 fun _ s4 ⟨i4,m4,n4⟩=>?_)
 refine ah ((hR.expr s4 i4 (by omega)).mono ?_)
 rintro z s5 ⟨⟨i5,m5,n5⟩,hz,hkz⟩
 exact aH ⟨⟨i5,by omega,by omega⟩,My (Int.le_refl _) hp.2 hx hk (hy.le (by omega)) hky (hz.le (by omega)) hkz,by show cD 25=true; decide⟩
theorem FM (hR:bU B l R M1 M2) (hs:bV B l s) (h1:mu s≤M1):W B (tf R (l4 R)) s (PQ B l s (aQ .expr)):=by
 have hp:=bq hs
 refine ah (cA ?_)
 refine ah (Jy fun a=>?_)
 refine bY (fun _=>FC hR hs h1 rfl hp.2) fun _=>?_
 refine ah ((Kq hR hs h1).mono ?_)
 rintro x s1 ⟨⟨i1,m1,n1⟩,hx,hk⟩
 refine ah (cA ?_)
 have yes:∀ s2 (t:ByteArray),dj B l s1 s2→s1.now.text.toList=t.toList→dh 26 t 0=true→W B (cond (x.kind != 17&&x.kind != 29&&x.kind != 30) cz (do
   let y ← R.expr
   pure (aE 26 s1.now.text 0 s.now.pos [x,y]))) s2 (PQ B l s (aQ .expr)):=by
  rintro s2 t ⟨i2,m2,n2⟩ ht hsaid
  rw [vx ht]
  refine bY (fun _=>fM i2) fun hc=>?_
  have hspot:x.kind∈[(17:Int),29,30]:=by
   simp only [bne,Bool.and_eq_false_iff,Bool.not_eq_false',beq_iff_eq] at hc
   simp only [List.mem_cons,List.not_mem_nil,or_false]
   rcases hc with (h | h) | h
   ·exact .inl h
   ·exact .inr (.inl h)
   ·exact .inr (.inr h)
  refine ah ((hR.expr s2 i2 (by omega)).mono ?_)
  rintro y s3 ⟨⟨i3,m3,n3⟩,hy,hky⟩
  exact aH ⟨⟨i3,by omega,by omega⟩,Mr (Int.le_refl _) hp.2 hsaid hx hspot (hy.le (by omega)) hky,by show cD 26=true; decide⟩
 refine ah ?_
 refine kO (cx i1 (fun hb s2 f2=>⟨fun _=>yes s2 _ f2 (c7 hb).2 (by kernel_rfl),nofun⟩) fun _=>⟨nofun,fun _=>?_⟩)
 refine kO (cx i1 (fun hb s2 f2=>⟨fun _=>yes s2 _ f2 (c7 hb).2 (by kernel_rfl),nofun⟩) fun _=>⟨nofun,fun _=>?_⟩)
 refine kO (cx i1 (fun hb s2 f2=>⟨fun _=>yes s2 _ f2 (c7 hb).2 (by kernel_rfl),nofun⟩) fun _=>⟨nofun,fun _=>?_⟩)
 refine kO (cx i1 (fun hb s2 f2=>⟨fun _=>yes s2 _ f2 (c7 hb).2 (by kernel_rfl),nofun⟩) fun _=>⟨nofun,fun _=>?_⟩)
 exact cx i1 (fun hb s2 f2=>yes s2 _ f2 (c7 hb).2 (by kernel_rfl)) fun _=>aH ⟨⟨i1,m1,n1⟩,hx,hk⟩
end
end Go.Proofs.YtjlgcpgjdgeejaaGreatDoor
end

section
namespace Go.Proofs.YtjlgcpgjdgeejaaGreatDoor
open Go
set_option linter.unusedSimpArgs false
set_option linter.unusedVariables false
set_option linter.constructorNameAsVariable false
set_option maxRecDepth 100000
section
variable {B lo:Int} {l:List Tok} {s:PSt} {R:a6} {M1 M2:Nat} {q:Pl}
theorem D1 (hR:bU B l R M1 M2) {p:Int} (hB:p≤B):∀ (k:Nat) (s:PSt) (ks:List N),bV B l s→mu s < k→mu s < M2→p≤s.now.pos→(∀ x∈ks,Nd B p x∧aQ .stmt x) →
  W B (pU R k (aE 63 kE 0 p ks)) s fun n s'=>dj B l s s'∧Nd B p n∧aQ (.of [63]) n
 | 0,s,ks,hs,hk,hM,hp,hks=>absurd hk (Nat.not_lt_zero _)
 | k+1,s,ks,hs,hk,hM,hp,hks=>by
  refine l7 (fun hb=>?_) fun hb=>?_
  ·exact ah (bM hs fun _ s3 f3=>aH ⟨f3,Me (Int.le_refl _) hB hks,List.mem_singleton.2 rfl⟩)
  refine ah ((hR.statement s hs hM).mono ?_)
  rintro x s1 ⟨⟨i1,m1,n1⟩,hx,hkx⟩
  refine (D1 hR hB k s1 (ks++[x]) i1 (by omega) (by omega) (by omega) fun y hy=>?_).mono ?_
  ·rcases List.mem_append.1 hy with hy | hy
   ·exact hks y hy
   ·obtain rfl:=List.mem_singleton.1 hy; exact ⟨hx.le hp,hkx⟩
  ·rintro n s3 ⟨⟨i3,m3,n3⟩,hn⟩
   exact ⟨⟨i3,by omega,by omega⟩,hn⟩
theorem DI (hR:bU B l R M1 M2) (hs:bV B l s) (h1:mu s≤M2):W B (qt R) s (PQ B l s (aQ (.of [63]))):=by
 have hf:=hR.fuel
 refine ah (cA ?_)
 refine ah (bM hs fun _ s1 ⟨i1,m1,n1⟩=>?_)
 refine (D1 hR (bq hs).2 R.fuel s1 [] i1 (by omega) (by omega) n1 (fun _ h=>nomatch h)).mono ?_
 rintro n s2 ⟨⟨i2,m2,n2⟩,hn,hk⟩
 exact ⟨⟨i2,by omega,by omega⟩,hn,hk⟩
theorem DJ (hR:bU B l R M1 M2) (hs:bV B l s) (h1:mu s≤M1):W B (oU R) s (PQ B l s (aQ .expr)):=by
 refine ah (bM hs fun _ s1 ⟨i1,m1,n1⟩=>?_)
 refine ah ((hR.expr s1 i1 (by omega)).mono ?_)
 rintro x s2 ⟨⟨i2,m2,n2⟩,hx,hk⟩
 exact ah (bM i2 fun _ s3 ⟨i3,m3,n3⟩=>aH ⟨⟨i3,by omega,by omega⟩,hx.le (by omega),hk⟩)
theorem xR (hR:bU B l R M1 M2) {kind pos:Int} {may:Bool} (hs:bV B l s) (h1:mu s < M1) (hp:pos≤s.now.pos) (hmk:∀ x,Nd B pos x→(aQ .expr x∨may=true∧aQ (.of [1]) x)→Nd B pos (aE kind kE 0 pos [x])) :
  W B (mh R kind pos may) s fun n s'=>dj B l s s'∧Nd B pos n∧n.kind=kind:=by
 have hn:=bq hs
 refine ah (iq ?_)
 have go:∀ c:Bool,(c=false→may=true)→W B (do let x ← cond c R.expr (pure (aE 1 kE 0 s.now.pos [])); a8 cw; pure (aE kind kE 0 pos [x])) s fun n s'=>dj B l s s'∧Nd B pos n∧n.kind=kind:=by
  intro c hc
  refine ah (W.mono (Q:=fun x s'=>Fw B l s s'∧Nd B pos x∧(aQ .expr x∨may=true∧aQ (.of [1]) x)) (bY (fun _=>?_) fun h=>aH ⟨Fw.rfl' hs,rD hp hn.2,.inr ⟨hc h,List.mem_singleton.2 rfl⟩⟩) ?_)
  ·refine (hR.expr s hs h1).mono ?_
   rintro x s1 ⟨⟨i1,m1,n1⟩,hx,hk⟩
   exact ⟨⟨i1,by omega,n1⟩,hx.le hp,.inl hk⟩
  ·rintro x s1 ⟨⟨i1,m1,n1⟩,hx,hk⟩
   exact ah (bM i1 fun _ s3 ⟨i3,m3,n3⟩=>aH ⟨⟨i3,by omega,by omega⟩,hmk x hx hk,rfl⟩)
 refine ah (bY (fun _=>aH (go true nofun)) fun hm=>?_)
 exact ah (fz (aH (go _ fun _=>by simpa using hm)))
theorem qR (hR:bU B l R M1 M2) {n pos:Int} (hn01:n=0∨n=1) (hs:bV B l s) (h1:mu s≤M1) (hp:pos≤s.now.pos) (hB:pos≤B):W B (eA R n pos) s fun x s'=>dj B l s s'∧Nd B pos x∧x.kind=40∧x.num=n:=by
 refine ah (dF hs fun hx s1 ⟨i1,m1,n1⟩=>?_)
 refine ah ((ny hR i1 (by omega)).mono ?_)
 rintro t s2 ⟨⟨i2,m2,n2⟩,ht,hkt⟩
 refine ah (bM i2 fun _ s3 ⟨i3,m3,n3⟩=>?_)
 refine ah ((hR.expr s3 i3 (by omega)).mono ?_)
 rintro x s4 ⟨⟨i4,m4,n4⟩,hx4,hk4⟩
 exact aH ⟨⟨i4,by omega,by omega⟩,Ly (Int.le_refl _) hB hx hn01 (ht.le (by omega)) hkt (hx4.le (by omega)) hk4,rfl,rfl⟩
theorem w9 (hR:bU B l R M1 M2) {kind pos:Int} (hkind:kind=41∨kind=45) (hs:bV B l s) (h1:mu s≤M1) (hp:pos≤s.now.pos) (hB:pos≤B):W B (fC R kind pos) s fun x s'=>dj B l s s'∧Nd B pos x∧x.kind=kind:=by
 refine ah (dF hs fun hx s1 ⟨i1,m1,n1⟩=>?_)
 refine ah ((rN hR i1 (by omega)).mono ?_)
 rintro v s2 ⟨⟨i2,m2,n2⟩,hv⟩
 refine ah (bM i2 fun _ s3 ⟨i3,m3,n3⟩=>?_)
 refine ah ((oo hR false i3 (by omega)).mono ?_)
 rintro a s4 ⟨⟨i4,m4,n4⟩,ha⟩
 refine ah (bM i4 fun _ s5 ⟨i5,m5,n5⟩=>?_)
 refine ah ((ny hR i5 (by omega)).mono ?_)
 rintro t s6 ⟨⟨i6,m6,n6⟩,ht,hkt⟩
 refine ah ((hR.block s6 i6 (by omega)).mono ?_)
 rintro b s7 ⟨⟨i7,m7,n7⟩,hb,hkb⟩
 have hv':=hv.le (lo':=pos) (by omega)
 have ha':=ha.le (lo':=pos) (by omega)
 refine aH ⟨⟨i7,by omega,by omega⟩,?_,rfl⟩
 rcases hkind with rfl | rfl
 ·exact LV (Int.le_refl _) hB hx hv'.nd hv'.ev ha'.nd ha'.ev (ht.le (by omega)) hkt (hb.le (by omega)) hkb
 ·exact Lx (Int.le_refl _) hB hx hv'.nd hv'.ev ha'.nd ha'.ev (ht.le (by omega)) hkt (hb.le (by omega)) hkb
theorem IE (hR:bU B l R M1 M2) (e:ByteArray) (hs:bV B l s) (h1:mu s < M1):W B (oe R e) s (PQ B l s (aQ (.or .expr (.of [1])))):=by
 have hn:=bq hs
 refine ah (iq ?_)
 refine ah (fz ?_)
 refine ah (W.mono (Q:=fun x s'=>Fw B l s s'∧Nd B s.now.pos x∧aQ (.or .expr (.of [1])) x) (bY (fun _=>aH ⟨Fw.rfl' hs,rD (Int.le_refl _) hn.2,.inr (List.mem_singleton.2 rfl)⟩) fun h=>?_) ?_)
 ·refine (hR.expr s hs h1).mono ?_
  rintro x s1 ⟨⟨i1,m1,n1⟩,hx,hk⟩
  exact ⟨⟨i1,by omega,n1⟩,hx,.inl hk⟩
 ·rintro x s1 ⟨⟨i1,m1,n1⟩,hx,hk⟩
  exact ah (bM i1 fun _ s3 ⟨i3,m3,n3⟩=>aH ⟨⟨i3,by omega,by omega⟩,hx,hk⟩)
theorem uS {t:Tok} (h:cB t kW=true∨cB t kconst=true):t.kind≠10:=by
 rcases h with h | h
 ·have:=(c7 h).1; omega
 ·have:=(c7 h).1; omega
theorem JZ (hR:bU B l R M1 M2) {pos:Int} (hs:bV B l s) (h1:mu s≤M1) (hp:pos≤s.now.pos) (hB:pos≤B):W B (sU R pos) s fun x s'=>dj B l s s'∧Nd B pos x∧aQ .stmt x:=by
 refine ah (bM hs fun _ s1 ⟨i1,m1,n1⟩=>?_)
 have hn1:=bq i1
 have forS:W B (do
   let n ← eD
   let t ← cj
   let b ← aX kW
   let f ← cond b (eA R 0 t.pos) (pure n)
   a8 cw
   let c ← oe R cw
   let d ← oe R k_rp
   let y ← R.block
   pure (aE 55 kE 0 pos [f,c,d,y])) s1 fun x s'=>dj B l s s'∧Nd B pos x∧aQ .stmt x:=by
  refine ah (iq ?_)
  refine ah (cA ?_)
  have rest:∀ s2 f,Fw B l s1 s2→Nd B pos f→aQ (.or .isLet (.of [1])) f→W B (do
    a8 cw
    let c ← oe R cw
    let d ← oe R k_rp
    let y ← R.block
    pure (aE 55 kE 0 pos [f,c,d,y])) s2 fun x s'=>dj B l s s'∧Nd B pos x∧aQ .stmt x:=by
   rintro s2 f ⟨i2,m2,n2⟩ hf hkf
   refine ah (bM i2 fun _ s3 ⟨i3,m3,n3⟩=>?_)
   refine ah ((IE hR cw i3 (by omega)).mono ?_)
   rintro c s4 ⟨⟨i4,m4,n4⟩,hc,hkc⟩
   refine ah ((IE hR k_rp i4 (by omega)).mono ?_)
   rintro d s5 ⟨⟨i5,m5,n5⟩,hd,hkd⟩
   refine ah ((hR.block s5 i5 (by omega)).mono ?_)
   rintro b s7 ⟨⟨i7,m7,n7⟩,hb,hkb⟩
   exact aH ⟨⟨i7,by omega,by omega⟩,LK (Int.le_refl _) hB hf hkf (hc.le (by omega)) hkc (hd.le (by omega)) hkd (hb.le (by omega)) hkb,by show d3 55=true; decide⟩
  refine ah (cx i1 (fun _ s2 ⟨i2,m2,n2⟩=>?_) fun _=>?_)
  ·refine ah ((qR hR (.inl rfl) i2 (by omega) n2 hn1.2).mono ?_)
   rintro f s3 ⟨⟨i3,m3,n3⟩,hf,hkf,hnf⟩
   exact rest s3 f ⟨i3,by omega,by omega⟩ (hf.le (by omega)) (.inl ⟨hkf,hnf⟩)
  ·exact ah (aH (rest s1 _ (Fw.rfl' i1) (rD (by omega) hn1.2) (.inr (List.mem_singleton.2 rfl))))
 have ofS:s1.now.kind≠10→W B (do
   let t ← dm
   let n ← cond (t.text.toList==kconst.toList) (pure 1) (pure 0)
   let s ← cV
   a8 Eo
   let x ← R.expr
   a8 k_rp
   let y ← R.block
   pure (aE 56 s n pos [x,y])) s1 fun x s'=>dj B l s s'∧Nd B pos x∧aQ .stmt x:=by
  intro hk
  refine ah (fR i1 hk fun s2 ⟨i2,m2,n2⟩=>?_)
  refine ah (W.mono (Q:=fun n s'=>s'=s2∧(n=0∨n=1)) (bY (fun _=>aH ⟨rfl,.inr rfl⟩) fun _=>aH ⟨rfl,.inl rfl⟩) ?_)
  rintro n _ ⟨rfl,hn01⟩
  refine ah (dF i2 fun hx s3 ⟨i3,m3,n3⟩=>?_)
  refine ah (bM i3 fun _ s4 ⟨i4,m4,n4⟩=>?_)
  refine ah ((hR.expr s4 i4 (by omega)).mono ?_)
  rintro x s5 ⟨⟨i5,m5,n5⟩,hx5,hk5⟩
  refine ah (bM i5 fun _ s6 ⟨i6,m6,n6⟩=>?_)
  refine ah ((hR.block s6 i6 (by omega)).mono ?_)
  rintro b s7 ⟨⟨i7,m7,n7⟩,hb,hkb⟩
  exact aH ⟨⟨i7,by omega,by omega⟩,Mg (Int.le_refl _) hB hx hn01 (hx5.le (by omega)) hk5 (hb.le (by omega)) hkb,by show d3 56=true; decide⟩
 refine ah (q5 (kO (fz ⟨fun h=>?_,fun h=>?_⟩)))
 ·refine ⟨fun _=>?_,nofun⟩
  refine q5 (ah (ou fun t=>aH ⟨fun _=>ah (ou fun u=>aH (bY (fun _=>ofS (uS (.inl h))) fun _=>forS)),fun _=>forS⟩))
 ·refine fz ⟨fun h2=>?_,fun _=>forS⟩
  refine q5 (ah (ou fun t=>aH ⟨fun _=>ah (ou fun u=>aH (bY (fun _=>ofS (uS (.inr h2))) fun _=>forS)),fun _=>forS⟩))
theorem KR (hR:bU B l R M1 M2) {pos:Int} (hs:bV B l s) (h1:mu s < M1) (hp:pos≤s.now.pos) (hB:pos≤B):W B (yp R pos) s fun x s'=>dj B l s s'∧Nd B pos x∧aQ .stmt x:=by
 refine ah ((hR.block s hs h1).mono ?_)
 rintro x s1 ⟨⟨i1,m1,n1⟩,hx,hkx⟩
 have hn1:=bq i1
 refine ah (iq ?_)
 refine ah (cA ?_)
 have rest:∀ s2 y,Fw B l s1 s2→Nd B pos y→aQ (.or (.of [62]) (.of [1])) y→W B (do
   let n ← eD
   let b ← aX ue
   let z ← cond b R.block (pure n)
   cond (y.kind==1&&z.kind==1) cz (pure (aE 61 kE 0 pos [x,y,z]))) s2 fun x s'=>dj B l s s'∧Nd B pos x∧aQ .stmt x:=by
  rintro s2 y ⟨i2,m2,n2⟩ hy hky
  have hn2:=bq i2
  refine ah (iq ?_)
  have last:∀ s3 z,Fw B l s2 s3→Nd B pos z→aQ (.or (.of [63]) (.of [1])) z→W B (cond (y.kind==1&&z.kind==1) cz (pure (aE 61 kE 0 pos [x,y,z]))) s3 fun x s'=>dj B l s s'∧Nd B pos x∧aQ .stmt x:=by
   rintro s3 z ⟨i3,m3,n3⟩ hz hkz
   refine bY (fun _=>fM i3) fun hc=>aH ⟨⟨i3,by omega,by omega⟩,LP (Int.le_refl _) hB (hx.le (by omega)) hkx hy hky hz hkz ?_,by show d3 61=true; decide⟩
   simp only [Bool.and_eq_false_iff,beq_eq_false_iff_ne] at hc
   exact hc
  refine ah (cx i2 (fun _ s3 ⟨i3,m3,n3⟩=>?_) fun _=>?_)
  ·refine ah ((hR.block s3 i3 (by omega)).mono ?_)
   rintro b s7 ⟨⟨i7,m7,n7⟩,hb,hkb⟩
   exact last s7 b ⟨i7,by omega,by omega⟩ (hb.le (by omega)) (.inl hkb)
  ·exact ah (aH (last s2 _ (Fw.rfl' i2) (rD (by omega) hn2.2) (.inr (List.mem_singleton.2 rfl))))
 refine ah (cx i1 (fun _ s2 ⟨i2,m2,n2⟩=>?_) fun _=>?_)
 ·refine ah (ah (bM i2 fun _ s3 ⟨i3,m3,n3⟩=>?_))
  refine ah (dF i3 fun hx2 s4 ⟨i4,m4,n4⟩=>?_)
  refine ah (bM i4 fun _ s5 ⟨i5,m5,n5⟩=>?_)
  refine ah ((hR.block s5 i5 (by omega)).mono ?_)
  rintro b s7 ⟨⟨i7,m7,n7⟩,hb,hkb⟩
  exact aH (rest s7 _ ⟨i7,by omega,by omega⟩ (Ma (by omega) hn1.2 hx2 (hb.le (by omega)) hkb) (.inl (List.mem_singleton.2 rfl)))
 ·exact ah (aH (rest s1 _ (Fw.rfl' i1) (rD (by omega) hn1.2) (.inr (List.mem_singleton.2 rfl))))
theorem uY (hR:bU B l R M1 M2) (hs:bV B l s) (h1:mu s≤M1):W B (lD R) s (PQ B l s (aQ (.of [53]))):=by
 have hp:=bq hs
 refine ah (cA ?_)
 refine ah (bM hs fun _ s1 ⟨i1,m1,n1⟩=>?_)
 refine ah ((DJ hR i1 (by omega)).mono ?_)
 rintro x s2 ⟨⟨i2,m2,n2⟩,hx,hkx⟩
 refine ah ((hR.block s2 i2 (by omega)).mono ?_)
 rintro y s3 ⟨⟨i3,m3,n3⟩,hy,hky⟩
 have hn3:=bq i3
 refine ah (iq ?_)
 have last:∀ s4 z,Fw B l s3 s4→Nd B s.now.pos z→aQ (.or (.of [63,53]) (.of [1])) z→W B (pure (aE 53 kE 0 s.now.pos [x,y,z]):PM N) s4 (PQ B l s (aQ (.of [53]))):=by
  rintro s4 z ⟨i4,m4,n4⟩ hz hkz
  exact aH ⟨⟨i4,by omega,by omega⟩,Mh (Int.le_refl _) hp.2 (hx.le (by omega)) hkx (hy.le (by omega)) hky hz hkz,List.mem_singleton.2 rfl⟩
 refine ah (cx i3 (fun _ s4 ⟨i4,m4,n4⟩=>?_) fun _=>?_)
 ·refine ah (ah (fz (bY (fun _=>?_) fun _=>?_)))
  ·refine (hR.branch s4 i4 (by omega)).mono ?_
   rintro z s5 ⟨⟨i5,m5,n5⟩,hz,hkz⟩
   refine last s5 z ⟨i5,by omega,by omega⟩ (hz.le (by omega)) (.inl ?_)
   show z.kind∈[(63:Int),53]
   rw [List.mem_singleton.1 hkz]; simp
  ·refine (hR.block s4 i4 (by omega)).mono ?_
   rintro z s5 ⟨⟨i5,m5,n5⟩,hz,hkz⟩
   refine last s5 z ⟨i5,by omega,by omega⟩ (hz.le (by omega)) (.inl ?_)
   show z.kind∈[(63:Int),53]
   rw [List.mem_singleton.1 hkz]; simp
 ·exact ah (aH (last s3 _ (Fw.rfl' i3) (rD (by omega) hn3.2) (.inr (List.mem_singleton.2 rfl))))
theorem KK (hR:bU B l R M1 M2) (hs:bV B l s) (h1:mu s≤M1):W B (tj R) s (PQ B l s fun n=>n.kind∈[(44:Int),45,46]):=by
 have hp:=bq hs
 refine ah (cA ?_)
 refine cE hs (fun _ s1 ⟨i1,m1,n1⟩=>?_) fun _=>?_
 ·refine ah (bM i1 fun _ s2 ⟨i2,m2,n2⟩=>?_)
  refine ah ((oo hR true i2 (by omega)).mono ?_)
  rintro a s3 ⟨⟨i3,m3,n3⟩,ha⟩
  refine ah (bM i3 fun _ s4 ⟨i4,m4,n4⟩=>?_)
  refine ah ((hR.block s4 i4 (by omega)).mono ?_)
  rintro y s5 ⟨⟨i5,m5,n5⟩,hy,hky⟩
  have ha':=ha.le (lo':=s.now.pos) (by omega)
  exact aH ⟨⟨i5,by omega,by omega⟩,LY (Int.le_refl _) hp.2 ha'.nd ha'.ev (hy.le (by omega)) hky,by show (46:Int)∈_; simp⟩
 refine ah (ou fun u=>?_)
 have field:W B (do
   let r ← aX j8
   let m ← cond r (pure 4) (pure 0)
   let s0 ← cV
   let o ← dT R
   let n ← eD
   let b ← aX lc
   let x ← cond b R.expr (pure n)
   a8 cw
   pure (aE 44 s0 m s.now.pos [o,x])) s (PQ B l s fun n=>n.kind∈[(44:Int),45,46]):=by
  have go:∀ s1 (m:Int),Fw B l s s1→eE m 4=0→W B (do
    let s0 ← cV
    let o ← dT R
    let n ← eD
    let b ← aX lc
    let x ← cond b R.expr (pure n)
    a8 cw
    pure (aE 44 s0 m s.now.pos [o,x])) s1 (PQ B l s fun n=>n.kind∈[(44:Int),45,46]):=by
   rintro s1 m ⟨i1,m1,n1⟩ hm
   refine ah (dF i1 fun hx s2 ⟨i2,m2,n2⟩=>?_)
   refine ah ((ny hR i2 (by omega)).mono ?_)
   rintro t s3 ⟨⟨i3,m3,n3⟩,ht,hkt⟩
   have hn3:=bq i3
   refine ah (iq ?_)
   have last:∀ s4 x,Fw B l s3 s4→Nd B s.now.pos x→aQ (.or .expr (.of [1])) x→W B (do a8 cw; pure (aE 44 s1.now.text m s.now.pos [t,x])) s4 (PQ B l s fun n=>n.kind∈[(44:Int),45,46]):=by
    rintro s4 x ⟨i4,m4,n4⟩ hx4 hk4
    refine ah (bM i4 fun _ s5 ⟨i5,m5,n5⟩=>aH ⟨⟨i5,by omega,by omega⟩,Lz (Int.le_refl _) hp.2 ?_ (ht.le (by omega)) hkt hx4 hk4,by show (44:Int)∈_; simp⟩)
    show (bif (eE m 4==0) then dZ s1.now.text else false)=true
    rw [hm]; exact hx
   refine ah (cx i3 (fun _ s4 ⟨i4,m4,n4⟩=>?_) fun _=>?_)
   ·refine ah ((hR.expr s4 i4 (by omega)).mono ?_)
    rintro x s5 ⟨⟨i5,m5,n5⟩,hx5,hk5⟩
    exact last s5 x ⟨i5,by omega,by omega⟩ (hx5.le (by omega)) (.inl hk5)
   ·exact ah (aH (last s3 _ (Fw.rfl' i3) (rD (by omega) hn3.2) (.inr (List.mem_singleton.2 rfl))))
  refine ah (cx hs (fun _ s1 ⟨i1,m1,n1⟩=>?_) fun _=>?_)
  ·exact ah (aH (go s1 4 ⟨i1,by omega,by omega⟩ (by kernel_rfl)))
  ·exact ah (aH (go s 0 (Fw.rfl' hs) (by kernel_rfl)))
 have meth:W B (fC R 45 s.now.pos) s (PQ B l s fun n=>n.kind∈[(44:Int),45,46]):=by
  refine (w9 hR (.inr rfl) hs h1 (Int.le_refl _) hp.2).mono ?_
  rintro x s1 ⟨f1,hx,hk⟩
  refine ⟨f1,hx,?_⟩
  show x.kind∈[(44:Int),45,46]
  rw [hk]; simp
 refine ah (ah (cA (bY (fun _=>bY (fun _=>aH meth) fun _=>aH (bY (fun _=>meth) fun _=>field)) fun _=>aH field)))
theorem wh (hR:bU B l R M1 M2) {p:Int} (hB:p≤B):∀ (k:Nat) (s:PSt) (c:Int) (ks:List N),bV B l s→mu s < k→mu s≤M1→p≤s.now.pos→(∀ x∈ks,Nd B p x∧x.kind∈[(44:Int),45,46])→c=((ks.filter fun y=>y.kind==46).length:Int) →
  W B (membersCS R k c (aE 2 kE 0 p ks)) s fun cn s'=>Fw B l s s'∧∃ ks',cn.2=aE 2 kE 0 p ks'∧(∀ x∈ks',Nd B p x∧x.kind∈[(44:Int),45,46])∧cn.1=((ks'.filter fun y=>y.kind==46).length:Int)
 | 0,s,c,ks,hs,hk,hM,hp,hks,hc=>absurd hk (Nat.not_lt_zero _)
 | k+1,s,c,ks,hs,hk,hM,hp,hks,hc=>by
  refine l7 (fun hb=>aH ⟨Fw.rfl' hs,ks,rfl,hks,hc⟩) fun hb=>?_
  refine ah ((KK hR hs hM).mono ?_)
  rintro x s1 ⟨⟨i1,m1,n1⟩,hx,hkx⟩
  refine (wh hR hB k s1 _ (ks++[x]) i1 (by omega) (by omega) (by omega) (fun y hy=>?_) ?_).mono ?_
  ·rcases List.mem_append.1 hy with hy | hy
   ·exact hks y hy
   ·obtain rfl:=List.mem_singleton.1 hy; exact ⟨hx.le hp,hkx⟩
  ·rw [List.filter_append,List.length_append]
   cases h46:x.kind==46 with
   | true=>rw [if_pos rfl,List.filter_cons_of_pos (by simpa using h46)]; simp; omega
   | false=>rw [if_neg (by decide),List.filter_cons_of_neg (by simpa using h46)]; simp; omega
  ·rintro n s3 ⟨⟨i3,m3,n3⟩,hn⟩
   exact ⟨⟨i3,by omega,by omega⟩,hn⟩
theorem Js (hR:bU B l R M1 M2) {pos:Int} (hs:bV B l s) (h1:mu s≤M1) (hp:pos≤s.now.pos) (hB:pos≤B):W B (og R pos) s fun x s'=>dj B l s s'∧Nd B pos x∧x.kind=42:=by
 have hf:=hR.fuel
 refine ah (dF hs fun hx s1 ⟨i1,m1,n1⟩=>?_)
 refine ah ((rN hR i1 (by omega)).mono ?_)
 rintro v s2 ⟨⟨i2,m2,n2⟩,hv⟩
 have hn2:=bq i2
 have hv':=hv.le (lo':=pos) (by omega)
 refine ah (iq ?_)
 refine ah (cA ?_)
 have rest:∀ s3 base,Fw B l s2 s3→Nd B pos base→aQ (.or (.of [43]) (.of [1])) base→W B (do
   let impl ← nH R pM
   a8 k_lc
   let e ← d4
   let cp ← membersCS R R.fuel 0 e
   cond (decide (cp.1 > 1)) cz do
    a8 k_rc
    pure (aE 42 s.now.text 0 pos [v,base,impl,cp.2])) s3 fun x s'=>dj B l s s'∧Nd B pos x∧x.kind=42:=by
  rintro s3 base ⟨i3,m3,n3⟩ hb hkb
  refine ah ((FT hR _ i3 (by omega)).mono ?_)
  rintro impl s4 ⟨⟨i4,m4,n4⟩,himpl⟩
  have himpl':=himpl.le (lo':=pos) (by omega)
  refine ah (bM i4 fun _ s5 ⟨i5,m5,n5⟩=>?_)
  have hn5:=bq i5
  refine ah (jc ?_)
  refine ah ((wh hR hn5.2 R.fuel s5 0 [] i5 (by omega) (by omega) (Int.le_refl _) (fun _ h=>nomatch h) rfl).mono ?_)
  rintro ⟨c,n⟩ s6 ⟨⟨i6,m6,n6⟩,ks,hn,hks,hc⟩
  simp only at hn hc
  subst hn
  refine bY (fun _=>fM i6) fun hc2=>?_
  have hc3:¬ c > 1:=of_decide_eq_false hc2
  refine ah (bM i6 fun _ s7 ⟨i7,m7,n7⟩=>aH ⟨⟨i7,by omega,by omega⟩,Mt (Int.le_refl _) hB hx hv'.nd hv'.ev hb hkb himpl'.nd himpl'.ev (Ls (by omega) hn5.2 fun x hx2=>⟨(hks x hx2).1,trivial⟩) ⟨rfl,fun y hy=>(hks y hy).2,?_⟩,rfl⟩)
  show (List.filter (fun y=>y.kind==46) ks).length < 2
  omega
 refine ah (cx i2 (fun _ s3 ⟨i3,m3,n3⟩=>?_) fun _=>?_)
 ·refine ah (ah (dF i3 fun hx3 s4 ⟨i4,m4,n4⟩=>?_))
  refine ah ((sm hR i4 (by omega)).mono ?_)
  rintro a s5 ⟨⟨i5,m5,n5⟩,ha⟩
  have ha':=ha.le (lo':=s2.now.pos) (by omega)
  exact aH (rest s5 _ ⟨i5,by omega,by omega⟩ (Md (by omega) hn2.2 hx3 ha'.nd ha'.ev) (.inl (List.mem_singleton.2 rfl)))
 ·exact ah (aH (rest s2 _ (Fw.rfl' i2) (rD (by omega) hn2.2) (.inr (List.mem_singleton.2 rfl))))
theorem D0 (hR:bU B l R M1 M2) {t:ByteArray} {n p:Int} (ht:dZ t=true) (hn01:n=0∨n=1) (hB:p≤B):∀ (k:Nat) (s:PSt) (ks:List N),bV B l s→mu s < k→mu s≤M1→p≤s.now.pos→(∀ x∈ks,Nd B p x∧aQ (.of [48]) x) →
  W B (oV R k (aE 47 t n p ks)) s fun x s'=>dj B l s s'∧Nd B p x∧x.kind=47∧x.num=n
 | 0,s,ks,hs,hk,hM,hp,hks=>absurd hk (Nat.not_lt_zero _)
 | k+1,s,ks,hs,hk,hM,hp,hks=>by
  have last:∀ (s1:PSt) (ks':List N),Fw B l s s1→(∀ x∈ks',Nd B p x∧aQ (.of [48]) x)→W B (do a8 k_rc; pure (aE 47 t n p ks')) s1 fun x s'=>dj B l s s'∧Nd B p x∧x.kind=47∧x.num=n:=by
   rintro s1 ks' ⟨i1,m1,n1⟩ hks'
   refine ah (bM i1 fun _ s3 ⟨i3,m3,n3⟩=>?_)
   exact aH ⟨⟨i3,by omega,by omega⟩,Ml (Int.le_refl _) hB ht hn01 hks',rfl,rfl⟩
  have hn:=bq hs
  refine l7 (fun hb=>last s ks (Fw.rfl' hs) hks) fun hb=>?_
  refine ah (cA ?_)
  refine ah (dF hs fun hx s1 ⟨i1,m1,n1⟩=>?_)
  have hn1:=bq i1
  refine ah (iq ?_)
  have after:∀ s2 x,Fw B l s1 s2→Nd B s.now.pos x→aQ (.or .expr (.of [1])) x→W B (do
    let b ← aX gd
    let n:=(aE 47 t n p ks).push (aE 48 s.now.text 0 s.now.pos [x])
    cond b (oV R k n) (do a8 k_rc; pure n)) s2 fun x s'=>dj B l s s'∧Nd B p x∧x.kind=47∧x.num=n:=by
   rintro s2 x ⟨i2,m2,n2⟩ hx2 hk2
   have hks':∀ y∈ks++[aE 48 s.now.text 0 s.now.pos [x]],Nd B p y∧aQ (.of [48]) y:=fun y hy=>by
    rcases List.mem_append.1 hy with hy | hy
    ·exact hks y hy
    ·obtain rfl:=List.mem_singleton.1 hy; exact ⟨LU hp hn.2 hx hx2 hk2,List.mem_singleton.2 rfl⟩
   refine cE i2 (fun _ s3 ⟨i3,m3,n3⟩=>?_) fun _=>last s2 _ ⟨i2,by omega,by omega⟩ hks'
   refine (D0 hR ht hn01 hB k s3 _ i3 (by omega) (by omega) (by omega) hks').mono ?_
   rintro n s4 ⟨⟨i4,m4,n4⟩,hn4⟩
   exact ⟨⟨i4,by omega,by omega⟩,hn4⟩
  refine ah (cx i1 (fun _ s2 ⟨i2,m2,n2⟩=>?_) fun _=>?_)
  ·refine ah ((hR.expr s2 i2 (by omega)).mono ?_)
   rintro x s3 ⟨⟨i3,m3,n3⟩,hx3,hk3⟩
   exact after s3 x ⟨i3,by omega,by omega⟩ (hx3.le (by omega)) (.inl hk3)
  ·exact ah (aH (after s1 _ (Fw.rfl' i1) (rD n1 hn1.2) (.inr (List.mem_singleton.2 rfl))))
theorem Fx (hR:bU B l R M1 M2) {n pos:Int} (hn01:n=0∨n=1) (hs:bV B l s) (h1:mu s≤M1) (hp:pos≤s.now.pos) (hB:pos≤B):W B (po R n pos) s fun x s'=>dj B l s s'∧Nd B pos x∧x.kind=47∧x.num=n:=by
 have hf:=hR.fuel
 refine ah (bM hs fun _ s1 ⟨i1,m1,n1⟩=>?_)
 refine ah (dF i1 fun hx s2 ⟨i2,m2,n2⟩=>?_)
 refine ah (bM i2 fun _ s3 ⟨i3,m3,n3⟩=>?_)
 refine (D0 hR hx hn01 hB R.fuel s3 [] i3 (by omega) (by omega) (by omega) (fun _ h=>nomatch h)).mono ?_
 rintro n s4 ⟨⟨i4,m4,n4⟩,hn4⟩
 exact ⟨⟨i4,by omega,by omega⟩,hn4⟩
def Fg (B:Int) (l:List Tok) (s:PSt):Option N→PSt→Prop:=fun o s'=>match o with
  | none=>Fw B l s s'
  | some n=>PQ B l s (fun n=>aQ .stmt n∧(n.kind=40→n.num=1∨cB s.now kW=true)∧n.kind∈[(40:Int),41,42,47,49,51,52]) n s'
theorem Ei (hR:bU B l R M1 M2) {t:ByteArray} {p:Int} (ht:dZ t=true) (hB:p≤B):∀ (k:Nat) (s:PSt) (ks:List N),bV B l s→mu s < k→mu s < M2→p≤s.now.pos→(∀ x∈ks,Nd B p x∧aQ (.or .stmt (.of [50])) x) →
  W B (jC R k (aE 49 t 0 p ks)) s fun x s'=>dj B l s s'∧Nd B p x∧x.kind=49
 | 0,s,ks,hs,hk,hM,hp,hks=>absurd hk (Nat.not_lt_zero _)
 | k+1,s,ks,hs,hk,hM,hp,hks=>by
  have hn:=bq hs
  have go:∀ s1 x,dj B l s s1→Nd B p x→aQ (.or .stmt (.of [50])) x→W B (jC R k ((aE 49 t 0 p ks).push x)) s1 fun x s'=>dj B l s s'∧Nd B p x∧x.kind=49:=by
   rintro s1 x ⟨i1,m1,n1⟩ hx hkx
   refine (Ei hR ht hB k s1 (ks++[x]) i1 (by omega) (by omega) (by omega) fun y hy=>?_).mono ?_
   ·rcases List.mem_append.1 hy with hy | hy
    ·exact hks y hy
    ·obtain rfl:=List.mem_singleton.1 hy; exact ⟨hx,hkx⟩
   ·rintro n s3 ⟨⟨i3,m3,n3⟩,hn⟩
    exact ⟨⟨i3,by omega,by omega⟩,hn⟩
  refine l7 (fun hb=>?_) fun hb=>?_
  ·exact ah (bM hs fun _ s3 f3=>aH ⟨f3,L3 (Int.le_refl _) hB ht hks,rfl⟩)
  refine ah (cA ?_)
  refine cE hs (fun _ s1 ⟨i1,m1,n1⟩=>?_) fun _=>?_
  ·have exp:cB s1.now kW=false→W B (do
     let u ← cj
     let x ← R.declaration u
     match x with
     | none=>cz
     | some x=>cond (x.kind==47&&x.num==1) cz (jC R k ((aE 49 t 0 p ks).push (aE 50 kE 0 s.now.pos [x])))) s1 fun x s'=>dj B l s s'∧Nd B p x∧x.kind=49:=by
    intro hlet
    refine ah (cA ?_)
    refine ah ((hR.declaration s1 i1 (by omega)).mono ?_)
    intro o s2 ho
    cases o with
    | none=>exact fM ho.inn
    | some x =>
     obtain ⟨⟨i2,m2,n2⟩,hx,hst,h40,hkx⟩:=ho
     refine bY (fun _=>fM i2) fun hc=>?_
     refine go s2 _ ⟨i2,by omega,by omega⟩ (LH hp hn.2 (hx.le (by omega)) ?_) (.inr (List.mem_singleton.2 rfl))
     simp only [Bool.and_eq_false_iff,beq_eq_false_iff_ne] at hc
     simp only [List.mem_cons,List.not_mem_nil,or_false] at hkx
     rcases hkx with h | h | h | h | h | h | h
     ·refine .inl ⟨h,?_⟩
      rcases h40 h with h4 | h4
      ·exact h4
      ·rw [hlet] at h4; cases h4
     ·exact .inr (.inr (by rw [h]; simp))
     ·exact .inr (.inr (by rw [h]; simp))
     ·exact .inr (.inl ⟨h,by rcases hc with hc | hc; exact absurd h hc; exact hc⟩)
     ·exact .inr (.inr (by rw [h]; simp))
     ·exact .inr (.inr (by rw [h]; simp))
     ·exact .inr (.inr (by rw [h]; simp))
   refine ah (kO (fz ⟨fun _=>fM i1,fun hlet=>ah (cA (aH (bY (fun _=>fM i1) fun _=>exp hlet)))⟩))
  ·refine ah ((hR.statement s hs hM).mono ?_)
   rintro x s1 ⟨f1,hx,hkx⟩
   exact go s1 x f1 (hx.le hp) (.inl hkx)
theorem Dl (hR:bU B l R M1 M2) {pos:Int} (hs:bV B l s) (h1:mu s≤M2) (hp:pos≤s.now.pos) (hB:pos≤B):W B (gx R pos) s fun x s'=>dj B l s s'∧Nd B pos x∧x.kind=49:=by
 have hf:=hR.fuel
 refine ah (dF hs fun hx s2 ⟨i2,m2,n2⟩=>?_)
 refine ah (bM i2 fun _ s3 ⟨i3,m3,n3⟩=>?_)
 refine (Ei hR hx hB R.fuel s3 [] i3 (by omega) (by omega) (by omega) (fun _ h=>nomatch h)).mono ?_
 rintro n s4 ⟨⟨i4,m4,n4⟩,hn4⟩
 exact ⟨⟨i4,by omega,by omega⟩,hn4⟩
theorem mX (hR:bU B l R M1 M2) (hs:bV B l s) (h1:mu s < M1) (h2:mu s≤M2):W B (fs R s.now) s (Fg B l s):=by
 have hp:=bq hs
 have some1:∀ (x:N) (s':PSt) (k:Int),dj B l s s'→Nd B s.now.pos x→x.kind=k→k≠40→k∈[(40:Int),41,42,47,49,51,52]→d3 k=true→Fg B l s (some x) s':=by
  intro x s' k f hx hk h40 hmem hst
  refine ⟨f,hx,?_,fun h=>absurd (hk.symm.trans h) h40,by rw [hk]; exact hmem⟩
  show d3 x.kind=true
  rw [hk]; exact hst
 have rest:W B (do
   let b ← aX kW
   cond b (do let x ← eA R 0 s.now.pos; a8 cw; pure (some x)) do
   let b ← aX kconst
   cond b (do let x ← eA R 1 s.now.pos; a8 cw; pure (some x)) do
    let b ← aX rK
    cond b (do let x ← fC R 41 s.now.pos; pure (some x)) do
     let b ← aX B4
     cond b (do let x ← og R s.now.pos; pure (some x)) do
      let b ← dS qH
      cond b (do let x ← po R 0 s.now.pos; pure (some x)) do
       let b ← aX qP
       cond b (do let x ← gx R s.now.pos; pure (some x)) do
        let b ← aX q0
        cond b (do
         let s0 ← cV
         let v ← je R
         let l ← nH R oy
         let o ← ew R
         pure (some (aE 51 s0 0 s.now.pos [v,l,o]))) do
          let b ← aX E4
          cond b (do
           let s0 ← cV
           let v ← je R
           a8 lc
           let x ← R.typed
           a8 cw
           pure (some (aE 52 s0 0 s.now.pos [v,x]))) (pure none):PM (Option N)) s (Fg B l s):=by
  refine cE hs (fun hlet s1 ⟨i1,m1,n1⟩=>?_) fun _=>?_
  ·refine ah ((qR hR (.inl rfl) i1 (by omega) n1 hp.2).mono ?_)
   rintro x s2 ⟨⟨i2,m2,n2⟩,hx,hk,hn⟩
   refine ah (bM i2 fun _ s3 ⟨i3,m3,n3⟩=>aH ⟨⟨i3,by omega,by omega⟩,hx,?_,fun _=>.inr hlet,by rw [hk]; simp⟩)
   show d3 x.kind=true
   rw [hk]; decide
  refine cE hs (fun _ s1 ⟨i1,m1,n1⟩=>?_) fun _=>?_
  ·refine ah ((qR hR (.inr rfl) i1 (by omega) n1 hp.2).mono ?_)
   rintro x s2 ⟨⟨i2,m2,n2⟩,hx,hk,hn⟩
   refine ah (bM i2 fun _ s3 ⟨i3,m3,n3⟩=>aH ⟨⟨i3,by omega,by omega⟩,hx,?_,fun _=>.inl hn,by rw [hk]; simp⟩)
   show d3 x.kind=true
   rw [hk]; decide
  refine cE hs (fun _ s1 ⟨i1,m1,n1⟩=>?_) fun _=>?_
  ·refine ah ((w9 hR (.inl rfl) i1 (by omega) n1 hp.2).mono ?_)
   rintro x s2 ⟨⟨i2,m2,n2⟩,hx,hk⟩
   exact aH (some1 x s2 41 ⟨i2,by omega,by omega⟩ hx hk (by decide) (by simp) (by decide))
  refine cE hs (fun _ s1 ⟨i1,m1,n1⟩=>?_) fun _=>?_
  ·refine ah ((Js hR i1 (by omega) n1 hp.2).mono ?_)
   rintro x s2 ⟨⟨i2,m2,n2⟩,hx,hk⟩
   exact aH (some1 x s2 42 ⟨i2,by omega,by omega⟩ hx hk (by decide) (by simp) (by decide))
  refine l7 (fun _=>?_) fun _=>?_
  ·refine ah ((Fx hR (.inl rfl) hs (by omega) (Int.le_refl _) hp.2).mono ?_)
   rintro x s2 ⟨f2,hx,hk,hn⟩
   exact aH (some1 x s2 47 f2 hx hk (by decide) (by simp) (by decide))
  refine cE hs (fun _ s1 ⟨i1,m1,n1⟩=>?_) fun _=>?_
  ·refine ah ((Dl hR i1 (by omega) n1 hp.2).mono ?_)
   rintro x s2 ⟨⟨i2,m2,n2⟩,hx,hk⟩
   exact aH (some1 x s2 49 ⟨i2,by omega,by omega⟩ hx hk (by decide) (by simp) (by decide))
  refine cE hs (fun _ s1 ⟨i1,m1,n1⟩=>?_) fun _=>?_
  ·refine ah (dF i1 fun hx s2 ⟨i2,m2,n2⟩=>?_)
   refine ah ((rN hR i2 (by omega)).mono ?_)
   rintro v s3 ⟨⟨i3,m3,n3⟩,hv⟩
   refine ah ((FT hR _ i3 (by omega)).mono ?_)
   rintro a s4 ⟨⟨i4,m4,n4⟩,ha⟩
   refine ah ((ry hR i4 (by omega)).mono ?_)
   rintro o s5 ⟨⟨i5,m5,n5⟩,ho,hko⟩
   have hv':=hv.le (lo':=s.now.pos) (by omega)
   have ha':=ha.le (lo':=s.now.pos) (by omega)
   exact aH (some1 _ s5 51 ⟨i5,by omega,by omega⟩ (L6 (Int.le_refl _) hp.2 hx hv'.nd hv'.ev ha'.nd ha'.ev (ho.le (by omega)) hko) rfl (by decide) (by simp) (by decide))
  refine cE hs (fun _ s1 ⟨i1,m1,n1⟩=>?_) fun _=>aH (Fw.rfl' hs)
  refine ah (dF i1 fun hx s2 ⟨i2,m2,n2⟩=>?_)
  refine ah ((rN hR i2 (by omega)).mono ?_)
  rintro v s3 ⟨⟨i3,m3,n3⟩,hv⟩
  refine ah (bM i3 fun _ s4 ⟨i4,m4,n4⟩=>?_)
  refine ah ((hR.typed s4 i4 (by omega)).mono ?_)
  rintro o s5 ⟨⟨i5,m5,n5⟩,ho,hko⟩
  have hv':=hv.le (lo':=s.now.pos) (by omega)
  refine ah (bM i5 fun _ s6 ⟨i6,m6,n6⟩=>?_)
  exact aH (some1 _ s6 52 ⟨i6,by omega,by omega⟩ (Mf (Int.le_refl _) hp.2 hx hv'.nd hv'.ev (ho.le (by omega)) hko) rfl (by decide) (by simp) (by decide))
 refine ah (q5 (fz ⟨fun hc=>ah (ou fun u=>aH (bY (fun _=>?_) fun _=>rest)),fun _=>rest⟩))
 refine ah (fR hs (uS (.inr hc)) fun s1 ⟨i1,m1,n1⟩=>?_)
 refine ah ((Fx hR (.inr rfl) i1 (by omega) n1 hp.2).mono ?_)
 rintro x s2 ⟨⟨i2,m2,n2⟩,hx,hk,hn⟩
 exact aH (some1 x s2 47 ⟨i2,by omega,by omega⟩ hx hk (by decide) (by simp) (by decide))
theorem rx (hR:bU B l R M1 M2) {t:Tok} (hs:bV B l s) (h1:mu s < M1) (h2:mu s≤M2) (hp:t.pos≤s.now.pos):W B (fT R t) s fun x s'=>dj B l s s'∧Nd B t.pos x∧aQ .stmt x:=by
 have hn:=bq hs
 have hB:t.pos≤B:=by omega
 refine l7 (fun _=>?_) fun _=>?_
 ·refine (hR.block s hs h1).mono ?_
  rintro x s1 ⟨f1,hx,hk⟩
  refine ⟨f1,hx.le hp,?_⟩
  show d3 x.kind=true
  rw [List.mem_singleton.1 hk]; decide
 refine cE hs (fun _ s1 f1=>aH ⟨f1,Mu (Int.le_refl _) hB,by show d3 65=true; decide⟩) fun _=>?_
 refine l7 (fun _=>?_) fun _=>?_
 ·refine (uY hR hs (by omega)).mono ?_
  rintro x s1 ⟨f1,hx,hk⟩
  refine ⟨f1,hx.le hp,?_⟩
  show d3 x.kind=true
  rw [List.mem_singleton.1 hk]; decide
 refine cE hs (fun _ s1 ⟨i1,m1,n1⟩=>?_) fun _=>?_
 ·refine ah ((DJ hR i1 (by omega)).mono ?_)
  rintro x s2 ⟨⟨i2,m2,n2⟩,hx,hk⟩
  refine ah ((hR.block s2 i2 (by omega)).mono ?_)
  rintro y s3 ⟨⟨i3,m3,n3⟩,hy,hky⟩
  exact aH ⟨⟨i3,by omega,by omega⟩,L7 (Int.le_refl _) hB (hx.le (by omega)) hk (hy.le (by omega)) hky,by show d3 54=true; decide⟩
 refine cE hs (fun _ s1 ⟨i1,m1,n1⟩=>?_) fun _=>?_
 ·refine (JZ hR i1 (by omega) (by omega) hB).mono ?_
  rintro x s2 ⟨⟨i2,m2,n2⟩,hx⟩
  exact ⟨⟨i2,by omega,by omega⟩,hx⟩
 refine cE hs (fun _ s1 ⟨i1,m1,n1⟩=>?_) fun _=>?_
 ·refine (xR hR i1 (by omega) (by omega) fun x hx hk=>Mx (Int.le_refl _) hB hx (hk.imp id (·.2))).mono ?_
  rintro x s2 ⟨⟨i2,m2,n2⟩,hx,hk⟩
  exact ⟨⟨i2,by omega,by omega⟩,hx,by show d3 x.kind=true; rw [hk]; decide⟩
 refine cE hs (fun _ s1 ⟨i1,m1,n1⟩=>?_) fun _=>?_
 ·refine (xR hR i1 (by omega) (by omega) fun x hx hk=>Mw (Int.le_refl _) hB hx (hk.elim id fun h=>by cases h.1)).mono ?_
  rintro x s2 ⟨⟨i2,m2,n2⟩,hx,hk⟩
  exact ⟨⟨i2,by omega,by omega⟩,hx,by show d3 x.kind=true; rw [hk]; decide⟩
 refine cE hs (fun _ s1 ⟨i1,m1,n1⟩=>?_) fun _=>?_
 ·exact ah (bM i1 fun _ s2 ⟨i2,m2,n2⟩=>aH ⟨⟨i2,by omega,by omega⟩,LZ (Int.le_refl _) hB,by show d3 58=true; decide⟩)
 refine cE hs (fun _ s1 ⟨i1,m1,n1⟩=>?_) fun _=>?_
 ·exact ah (bM i1 fun _ s2 ⟨i2,m2,n2⟩=>aH ⟨⟨i2,by omega,by omega⟩,Mj (Int.le_refl _) hB,by show d3 59=true; decide⟩)
 refine cE hs (fun _ s1 ⟨i1,m1,n1⟩=>?_) fun _=>?_
 ·refine (KR hR i1 (by omega) (by omega) hB).mono ?_
  rintro x s2 ⟨⟨i2,m2,n2⟩,hx⟩
  exact ⟨⟨i2,by omega,by omega⟩,hx⟩
 refine (xR hR hs h1 hp fun x hx hk=>LL (Int.le_refl _) hB hx (hk.elim id fun h=>by cases h.1)).mono ?_
 rintro x s2 ⟨f2,hx,hk⟩
 exact ⟨f2,hx,by show d3 x.kind=true; rw [hk]; decide⟩
theorem tN (hR:bU B l R M1 M2) (hs:bV B l s) (h1:mu s < M1) (h2:mu s≤M2):W B (iP R) s (PQ B l s (aQ .stmt)):=by
 refine ah (cA ?_)
 refine bY (fun _=>?_) fun _=>rx hR hs h1 h2 (Int.le_refl _)
 refine ah ((mX hR hs h1 h2).mono ?_)
 intro o s1 ho
 cases o with
 | none =>
  obtain ⟨i1,m1,n1⟩:=ho
  refine (rx (t:=s.now) hR i1 (by omega) (by omega) n1).mono ?_
  rintro x s2 ⟨⟨i2,m2,n2⟩,hx⟩
  exact ⟨⟨i2,by omega,by omega⟩,hx⟩
 | some x =>
  obtain ⟨f1,hx,hst,_⟩:=ho
  exact aH ⟨f1,hx,hst⟩
theorem l6 (n:Nat):(de n).fuel=n:=by
 induction n with
 | zero=>rfl
 | succ n ih=>show (de n).fuel+1=n+1; rw [ih]
theorem IP:∀ k:Nat,bU B l (de (2 * k)) k k∧bU B l (de (2 * k+1)) (k+1) k:=by
 have step1:∀ k,bU B l (de (2 * k)) k k→bU B l (de (2 * k+1)) (k+1) k:=fun k hR=>by
  refine ⟨⟨by rw [l6]; omega,by rw [l6]; omega⟩,fun s hs h=>FM hR hs (by omega),fun s hs h=>D3 hR hs (by omega),fun s hs h=>DI hR hs (by omega),fun s hs h=>y9 hR hs (by omega),fun s hs h=>uY hR hs (by omega),fun s hs h=>tN hR hs (by omega) (by omega),fun s hs h=>mX hR hs (by omega) (by omega)⟩
 have step2:∀ k,bU B l (de (2 * k+1)) (k+1) k→bU B l (de (2 * k+2)) (k+1) (k+1):=fun k hR=>by
  refine ⟨⟨by rw [l6]; omega,by rw [l6]; omega⟩,fun s hs h=>FM hR hs (by omega),fun s hs h=>D3 hR hs (by omega),fun s hs h=>DI hR hs (by omega),fun s hs h=>y9 hR hs (by omega),fun s hs h=>uY hR hs (by omega),fun s hs h=>tN hR hs (by omega) (by omega),fun s hs h=>mX hR hs (by omega) (by omega)⟩
 intro k
 induction k with
 | zero =>
  have h0:bU B l (de (2 * 0)) 0 0:=⟨⟨Nat.zero_le _,Nat.zero_le _⟩,fun s hs h=>absurd h (Nat.not_lt_zero _),fun s hs h=>absurd h (Nat.not_lt_zero _),fun s hs h=>absurd h (Nat.not_lt_zero _),fun s hs h=>absurd h (Nat.not_lt_zero _),fun s hs h=>absurd h (Nat.not_lt_zero _),fun s hs h=>absurd h (Nat.not_lt_zero _),fun s hs h=>absurd h (Nat.not_lt_zero _)⟩
  exact ⟨h0,step1 0 h0⟩
 | succ k ih =>
  have h:=step2 k ih.2
  exact ⟨h,step1 (k+1) h⟩
end
end Go.Proofs.YtjlgcpgjdgeejaaGreatDoor
end

section
namespace Go.Proofs.YtjlgcpgjdgeejaaGreatDoor
open Go
set_option linter.unusedSimpArgs false
set_option linter.unusedVariables false
set_option linter.constructorNameAsVariable false
set_option maxRecDepth 100000
def eT:Nat→List N→List Int
 | _,[]=>[]
 | p,x::l=>(p:Int)::eT (p+x.size) l
mutual
def eI:Nat→N→List FN
 | p,.mk k t n q l=>⟨k,t,n,q,eT (p+1) l⟩::fB (p+1) l
def fB:Nat→List N→List FN
 | _,[]=>[]
 | p,x::l=>eI p x++fB (p+x.size) l
end
mutual
theorem oS:∀ (n:N) (p:Nat),(eI p n).length=n.size
 | .mk k t n q l,p=>by simp only [eI,List.length_cons,zx l,N.size]; omega
theorem zx:∀ (l:List N) (p:Nat),(fB p l).length=N.sizes l
 | [],p=>rfl
 | x::l,p=>by simp only [fB,List.length_append,oS x,zx l,N.sizes]
end
def db (ns:List FN) (q:Nat) (js:List Int):List FN:=ns.modify q fun f=>{ f with kids:=f.kids++js }
theorem Db (ns:List FN) (q:Nat):db ns q []=ns:=by
 unfold db
 apply List.ext_getElem?
 intro i
 rw [List.getElem?_modify]
 cases ns[i]? with
 | none=>rfl
 | some x=>simp
theorem Dp (ns:List FN) (q:Nat) (a b:List Int):db (db ns q a) q b=db ns q (a++b):=by
 unfold db
 apply List.ext_getElem?
 intro i
 rw [List.getElem?_modify,List.getElem?_modify,List.getElem?_modify]
 cases ns[i]? with
 | none=>rfl
 | some x =>
  by_cases h:q=i
  ·simp [h]
  ·simp [h]
theorem tX (ns:List FN) (q:Nat) (a:List Int):(db ns q a).length=ns.length:=by unfold db; simp
theorem GO (ns:List FN) (q i:Nat):eS ns (q:Int) i=db ns q [(i:Int)]:=by
 unfold eS db
 rw [if_pos (by omega)]; simp
theorem tW {ns:List FN} {q:Nat} (h:q < ns.length) (a:List Int) (m:List FN):db (ns++m) q a=db ns q a++m:=by
 unfold db
 apply List.ext_getElem?
 intro i
 rw [List.getElem?_modify]
 by_cases hi:i < ns.length
 ·rw [List.getElem?_append_left hi,List.getElem?_append_left (by simpa using hi),List.getElem?_modify]
 ·rw [List.getElem?_append_right (by omega),List.getElem?_append_right (by simpa using hi),List.length_modify]
  cases m[i - ns.length]? with
  | none=>rfl
  | some x=>simp [show ¬ q=i by omega]
theorem BG (ns:List FN) (k n q:Int) (t:ByteArray) (js:List Int):db (ns++[⟨k,t,n,q,[]⟩]) ns.length js=ns++[⟨k,t,n,q,js⟩]:=by
 unfold db
 apply List.ext_getElem?
 intro i
 rw [List.getElem?_modify]
 by_cases hi:i < ns.length
 ·rw [List.getElem?_append_left hi,List.getElem?_append_left hi]
  cases ns[i]? with
  | none=>rfl
  | some x=>simp [show ¬ ns.length=i by omega]
 ·rw [List.getElem?_append_right (by omega),List.getElem?_append_right (by omega)]
  by_cases h2:i=ns.length
  ·subst h2; simp
  ·have:1≤i - ns.length:=by omega
   rw [List.getElem?_eq_none (by simpa using this),List.getElem?_eq_none (by simpa using this)]; rfl
mutual
theorem G7:∀ (n:N) (k:Nat) (q:Nat) (rest:List (N × Int)) (ns:List FN),q < ns.length→dO (n.size+k) ((n,(q:Int))::rest) ns=dO k rest (db ns q [(ns.length:Int)]++eI ns.length n)
 | .mk kd t nm ps l,k,q,rest,ns,hq=>by
  have e:(N.mk kd t nm ps l).size+k=(N.sizes l+k)+1:=by simp only [N.size]; omega
  rw [e]
  show dO (N.sizes l+k) (l.map (fun c=>(c,(ns.length:Int)))++rest) (eS (ns++[⟨kd,t,nm,ps,[]⟩]) (q:Int) ns.length)=_
  rw [GO,tW hq]
  have hl:(db ns q [(ns.length:Int)]).length=ns.length:=tX ..
  have:=uV l k ns.length rest (db ns q [(ns.length:Int)]++[⟨kd,t,nm,ps,[]⟩]) (by simp [hl])
  rw [this]
  congr 1
  have h2:(db ns q [(ns.length:Int)]++[(⟨kd,t,nm,ps,[]⟩:FN)]).length=ns.length+1:=by simp [hl]
  rw [h2]
  have h3:=BG (db ns q [(ns.length:Int)]) kd nm ps t (eT (ns.length+1) l)
  rw [hl] at h3
  rw [h3,List.append_assoc]
  rfl
theorem uV:∀ (l:List N) (k:Nat) (q:Nat) (rest:List (N × Int)) (ns:List FN),q < ns.length→dO (N.sizes l+k) (l.map (fun c=>(c,(q:Int)))++rest) ns=dO k rest (db ns q (eT ns.length l)++fB ns.length l)
 | [],k,q,rest,ns,hq=>by
  simp only [N.sizes,List.map_nil,List.nil_append,eT,fB,List.append_nil,Nat.zero_add,Db]
 | x::l,k,q,rest,ns,hq=>by
  have e:N.sizes (x::l)+k=x.size+(N.sizes l+k):=by simp only [N.sizes]; omega
  rw [e]
  show dO (x.size+(N.sizes l+k)) ((x,(q:Int))::(l.map (fun c=>(c,(q:Int)))++rest)) ns=_
  rw [G7 x (N.sizes l+k) q _ ns hq]
  have hl:(db ns q [(ns.length:Int)]).length=ns.length:=tX ..
  rw [uV l k q rest (db ns q [(ns.length:Int)]++eI ns.length x) (by rw [List.length_append,hl]; omega)]
  have hl2:(db ns q [(ns.length:Int)]++eI ns.length x).length=ns.length+x.size:=by rw [List.length_append,hl,oS]
  rw [hl2,tW (by rw [hl]; exact hq),Dp,List.append_assoc]
  rfl
end
theorem Gm (n:N):dO n.size [(n,-1)] []=eI 0 n:=by
 cases n with
 | mk kd t nm ps l =>
  have e:(N.mk kd t nm ps l).size=(N.sizes l+0)+1:=by simp only [N.size]; omega
  rw [e]
  show dO (N.sizes l+0) (l.map (fun c=>(c,((0:Nat):Int)))++[]) (eS ([]++[⟨kd,t,nm,ps,[]⟩]) (-1) 0)=_
  have h0:eS ([]++[(⟨kd,t,nm,ps,[]⟩:FN)]) (-1) 0=[⟨kd,t,nm,ps,[]⟩]:=rfl
  rw [h0,uV l 0 0 [] [⟨kd,t,nm,ps,[]⟩] (by simp),vV]
  show db [⟨kd,t,nm,ps,[]⟩] 0 (eT 1 l)++fB 1 l=_
  rfl
def At (ns:List FN) (p:Nat) (m:List FN):Prop:=∀ i x,m[i]? = some x→ns[p+i]? = some x
theorem At.left {ns a b:List FN} {p:Nat} (h:At ns p (a++b)):At ns p a:=fun i x hx=>h i x (by rw [List.getElem?_append_left (List.getElem?_eq_some_iff.1 hx).1]; exact hx)
theorem At.right {ns a b:List FN} {p:Nat} (h:At ns p (a++b)):At ns (p+a.length) b:=fun i x hx=>by
 rw [Nat.add_assoc]; exact h _ x (by rw [List.getElem?_append_right (by omega),Nat.add_sub_cancel_left]; exact hx)
def LaidAt (ns:List FN) (p:Nat) (n:N):Prop:=At ns p (eI p n)
theorem D4:∀ (l:List N) (ns:List FN) (p:Nat),At ns p (fB p l)→∀ (i:Nat) (x:N),l[i]? = some x→∃ j:Nat,(eT p l)[i]? = some (j:Int)∧LaidAt ns j x
 | [],ns,p,h,i,x,hx=>by simp at hx
 | y::l,ns,p,h,i,x,hx=>by
  have h':At ns p (eI p y++fB (p+y.size) l):=h
  cases i with
  | zero =>
   simp at hx; subst hx
   exact ⟨p,rfl,h'.left⟩
  | succ i =>
   simp at hx
   have h2:=h'.right
   rw [oS] at h2
   exact D4 l ns (p+y.size) h2 i x hx
mutual
theorem yG:∀ (n:N) (ns:List FN) (p:Nat) (P:N→Prop),At ns p (eI p n)→(∀ m,P m→∀ x∈m.kids,P x)→P n→∀ (i:Nat) (x:FN),(eI p n)[i]? = some x→∃ m,P m∧LaidAt ns (p+i) m
 | .mk k t nm q l,ns,p,P,h,hP,hn,i,x,hx=>by
  cases i with
  | zero=>exact ⟨_,hn,h⟩
  | succ i =>
   have h':At ns p ([⟨k,t,nm,q,eT (p+1) l⟩]++fB (p+1) l):=h
   have hx':(fB (p+1) l)[i]? = some x:=hx
   obtain ⟨m,h1,h2⟩:=Bq l ns (p+1) P (by simpa using h'.right) hP (fun y hy=>hP _ hn y hy) i x hx'
   exact ⟨m,h1,by rw [show p+(i+1)=p+1+i by omega]; exact h2⟩
theorem Bq:∀ (l:List N) (ns:List FN) (p:Nat) (P:N→Prop),At ns p (fB p l)→(∀ m,P m→∀ x∈m.kids,P x)→(∀ y∈l,P y)→∀ (i:Nat) (x:FN),(fB p l)[i]? = some x→∃ m,P m∧LaidAt ns (p+i) m
 | [],ns,p,P,h,hP,hl,i,x,hx=>by simp [fB] at hx
 | y::l,ns,p,P,h,hP,hl,i,x,hx=>by
  have h':At ns p (eI p y++fB (p+y.size) l):=h
  have hx':(eI p y++fB (p+y.size) l)[i]? = some x:=hx
  have hlen:=oS y p
  by_cases hi:i < (eI p y).length
  ·rw [List.getElem?_append_left hi] at hx'
   exact yG y ns p P h'.left hP (hl y (List.mem_cons_self ..)) i x hx'
  ·rw [List.getElem?_append_right (by omega)] at hx'
   have h2:=h'.right
   rw [hlen] at h2 hx'
   obtain ⟨m,g1,g2⟩:=Bq l ns (p+y.size) P h2 hP (fun z hz=>hl z (List.mem_cons_of_mem _ hz)) _ x hx'
   exact ⟨m,g1,by rw [show p+i=p+y.size+(i - y.size) by omega]; exact g2⟩
end
theorem zg:∀ (l:List N) (p i:Nat) (j:Int),(eT p l)[i]? = some j→∃ x,l[i]? = some x
 | [],p,i,j,h=>by simp [eT] at h
 | y::l,p,0,j,h=>⟨y,rfl⟩
 | y::l,p,i+1,j,h=>zg l (p+y.size) i j h
theorem vE:∀ (l:List N) (p:Nat),(eT p l).length=l.length
 | [],p=>rfl
 | y::l,p=>by simp [eT,vE l]
structure KS (B:Int) (ns:List FN) (x:FN):Prop where
 pos:0≤x.pos∧x.pos≤B
 kid:∀ j∈x.kids,∃ (k:Nat) (y:FN),j=(k:Int)∧ns[k]? = some y∧x.pos≤y.pos
theorem LaidAt.node {ns:List FN} {p:Nat} {n:N} (h:LaidAt ns p n):∃ x,ns[p]? = some x∧x.kind=n.kind∧x.text=n.text∧x.num=n.num∧x.pos=n.pos∧x.kids=eT (p+1) n.kids:=by
 cases n with
 | mk k t nm q l=>exact ⟨_,h 0 _ rfl,rfl,rfl,rfl,rfl,rfl⟩
theorem LaidAt.kid {ns:List FN} {p:Nat} {n:N} (h:LaidAt ns p n):∀ (i:Nat) (x:N),n.kids[i]? = some x→∃ j:Nat,(eT (p+1) n.kids)[i]? = some (j:Int)∧LaidAt ns j x:=by
 cases n with
 | mk k t nm q l =>
  have h':At ns p ([⟨k,t,nm,q,eT (p+1) l⟩]++fB (p+1) l):=h
  exact D4 l ns (p+1) (by simpa using h'.right)
theorem Ko {B:Int} {n:N} (h:Nd B 0 n):∀ x∈eI 0 n,KS B (eI 0 n) x:=by
 intro x hx
 obtain ⟨i,hi,rfl⟩:=List.getElem_of_mem hx
 obtain ⟨m,⟨lo,hlo,hm⟩,hl⟩:=yG n (eI 0 n) 0 (fun m=>∃ lo:Int,0≤lo∧Nd B lo m) (fun i x hx=>by rw [Nat.zero_add]; exact hx) (fun m ⟨lo,h0,hm⟩ y hy=>by
  cases hm with
  | mk _ k t nm q l h1 h2 h3 h4 h5=>exact ⟨q,by omega,h5 y hy⟩) ⟨0,Int.le_refl _,h⟩ i _ (List.getElem?_eq_getElem hi)
 rw [Nat.zero_add] at hl
 obtain ⟨y,g1,g2,g3,g4,g5,g6⟩:=hl.node
 rw [List.getElem?_eq_getElem hi] at g1
 cases g1
 have hp:=hm.pos
 refine ⟨by omega,fun j hj=>?_⟩
 rw [g6] at hj
 obtain ⟨a,ha,hja⟩:=List.getElem_of_mem hj
 have hja':(eT (i+1) m.kids)[a]? = some j:=by rw [List.getElem?_eq_getElem ha,hja]
 obtain ⟨z,hz⟩:=zg m.kids (i+1) a j hja'
 obtain ⟨j2,h7,h8⟩:=hl.kid a z hz
 rw [hja'] at h7; cases h7
 obtain ⟨y2,e1,e2,e3,e4,e5,e6⟩:=h8.node
 refine ⟨j2,y2,rfl,e1,?_⟩
 have hz2:Nd B m.pos z:=by
  cases hm with
  | mk _ k t nm q l h1 h2 h3 h4 h5=>exact h5 z (List.mem_of_getElem? hz)
 have:=hz2.pos
 omega
end Go.Proofs.YtjlgcpgjdgeejaaGreatDoor
end

section
namespace Go.Proofs.YtjlgcpgjdgeejaaGreatDoor
open Go
set_option linter.unusedSimpArgs false
set_option linter.unusedVariables false
set_option linter.constructorNameAsVariable false
set_option maxRecDepth 100000
def Z (B:Int) (l:List Tok) {α:Type} (c:Nat) (m:PM α) (s:PSt) (w:α→Nat):Prop:=bV B l s→∀ a s',m s=some (.ok a s')→bV B l s'∧w a+8 * mu s'≤8 * mu s+c
theorem aU (k:Int) (t:ByteArray) (n p:Int) (l:List N):(aE k t n p l).size=1+N.sizes l:=by simp [aE,N.size]
theorem aF (n x:N):(n.push x).size=n.size+x.size:=by cases n; simp [N.push,N.size,fj,N.sizes]; omega
theorem aO (n:N) (p:Int):(n.setPos p).size=n.size:=by cases n; simp [N.setPos,N.size]
theorem aI (n:N) (l:List N):(n.setKids l).size=1+N.sizes l:=by cases n; simp [N.setKids,N.size]
theorem aM (n:N):N.sizes n.kids=n.size - 1:=by rw [N.size_eq]; omega
theorem gN (n:N):1≤n.size:=by rw [N.size_eq]; omega
section
variable {B:Int} {l:List Tok} {s:PSt} {α β γ:Type} {c:Nat} {w:α→Nat} {w2:β→Nat}
theorem bz {c':Nat} {m:PM α} (h:Z B l c' m s w) (hc:c'≤c):Z B l c m s w:=fun hs a s' e=>by
 obtain ⟨h1,h2⟩:=h hs a s' e
 exact ⟨h1,by omega⟩
theorem jE:Z B l c (cz:PM α) s w:=fun hs a s' e=>by cases e
theorem dH:Z B l c (Sp.stop:PM α) s w:=fun hs a s' e=>by cases e
theorem gq {f:α→PM β}:Z B l c ((cz:PM α)>>=f) s w2:=fun hs a s' e=>by cases e
theorem bH {a:α} (h:w a≤c):Z B l c (pure a:PM α) s w:=fun hs a' s' e=>by
 obtain ⟨rfl,rfl⟩:a'=a∧s'=s:=by
  have e:(some (Res.ok a s):Option (Res Int PSt α))=some (Res.ok a' s'):=e
  cases e; exact ⟨rfl,rfl⟩
 exact ⟨hs,by omega⟩
theorem bu {a:α} {f:α→PM β} (h:Z B l c (f a) s w2):Z B l c ((pure a:PM α)>>=f) s w2:=h
theorem aZ {m:PM α} {g:α→PM γ} {f:γ→PM β} (h:Z B l c (m>>=fun a=>g a>>=f) s w2):Z B l c ((m>>=g)>>=f) s w2:=by rw [Sp.bind_assoc]; exact h
theorem cu {f:Tok→PM β} (h:Z B l c (f s.now) s w2):Z B l c (cj>>=f) s w2:=h
theorem dV {x:ByteArray} {f:Bool→PM β} (h:Z B l c (f (cB s.now x)) s w2):Z B l c (dS x>>=f) s w2:=h
theorem fl {f:N→PM β} (h:Z B l c (f (aE 2 kE 0 s.now.pos [])) s w2):Z B l c (d4>>=f) s w2:=h
theorem fa {f:N→PM β} (h:Z B l c (f (aE 1 kE 0 s.now.pos [])) s w2):Z B l c (eD>>=f) s w2:=h
theorem sY (h:1≤c):Z B l c d4 s N.size:=fun hs a s' e=>by
 cases e
 exact ⟨hs,by rw [aU]; simp only [N.sizes]; omega⟩
theorem Ka (h:1≤c):Z B l c eD s N.size:=fun hs a s' e=>by
 cases e
 exact ⟨hs,by rw [aU]; simp only [N.sizes]; omega⟩
theorem aC {c1:Nat} {m:PM α} {f:α→PM β} (h:Z B l c1 m s w) (hc:c1≤c) (hk:∀ a s',Z B l (c - c1+w a) (f a) s' w2):Z B l c (m>>=f) s w2:=fun hs b s2 e=>by
 rcases Sp.bind_some e with ⟨_,_,h0⟩ | ⟨a,s',e1,e2⟩
 ·cases h0
 ·obtain ⟨h1,h2⟩:=h hs a s' e1
  obtain ⟨h3,h4⟩:=hk a s' h1 b s2 e2
  exact ⟨h3,by omega⟩
theorem zm {f:Tok→PM β} {s':PSt} (e1:yM s=some (Res.ok () s')):(dm>>=f) s=f s.now s':=by
 show Sp.bind (Sp.bind cj fun t=>Sp.bind yM fun _=>Sp.pure t) f s=_
 unfold Sp.bind
 show (match (match yM s with | none=>none | some (Res.err e)=>some (Res.err e) | some (Res.ok _ s')=>some (Res.ok s.now s'):Option (Res Int PSt Tok)) with | none=>none | some (Res.err e)=>some (Res.err e) | some (Res.ok a s')=>f a s')=_
 rw [e1]
theorem Hg (hs:bV B l s) (hk:s.now.kind=10):∃ s',yM s=some (Res.ok () s')∧bV B l s'∧mu s'≤mu s:=by
 have hi:=hs.i
 refine ⟨_,rfl,⟨hs.tk,hs.hl,by rw [hs.hl]; show min (s.i+1) (l.length - 1) < l.length; omega,fun h=>by cases h⟩,?_⟩
 obtain ⟨t,ht,h⟩:=io hs
 rcases h with h | h
 ·unfold mu
  rw [hs.hl]
  show 4 * (l.length - 1 - min (s.i+1) (l.length - 1))+(if (false=true) then s.left.text.size else 3)≤4 * (l.length - 1 - s.i)+(if s.split=true then s.left.text.size else 3)
  rw [if_neg (by decide),h.1,if_neg (by decide)]
  omega
 ·obtain ⟨_,h2,_,h4,_⟩:=h
  rw [h2] at hk; omega
theorem cd {f:Tok→PM β} (hk:s.now.kind≠10) (h:∀ s',Z B l (c+8) (f s.now) s' w2):Z B l c (dm>>=f) s w2:=fun hs b s2 e=>by
 obtain ⟨s',e1,i1,m1,_⟩:=uB hs hk
 have e2:(dm>>=f) s=f s.now s':=zm e1
 rw [e2] at e
 obtain ⟨h3,h4⟩:=h s' i1 b s2 e
 exact ⟨h3,by omega⟩
theorem pg {x:ByteArray} (h:cB s.now x=true):s.now.kind≠10:=by have:=(c7 h).1; omega
theorem iT {t:Tok} {k:Int} (h:(t.kind==k)=true) (hk:k≠10):t.kind≠10:=by rw [beq_iff_eq.1 h]; exact hk
theorem kM {t:Tok} {k:Int} (h:(t.kind != k)=false) (hk:k≠10):t.kind≠10:=iT (by simpa using h) hk
theorem wB {t:Tok} {k k':Int} (h:(t.kind==k||t.kind==k')=true) (hk:k≠10) (hk':k'≠10):t.kind≠10:=by
 rw [Bool.or_eq_true] at h
 rcases h with h | h
 ·exact iT h hk
 ·exact iT h hk'
theorem Bm {t:Tok} {k k':Int} (h:(t.kind != k&&t.kind != k')=false) (hk:k≠10) (hk':k'≠10):t.kind≠10:=by
 rw [Bool.and_eq_false_iff] at h
 rcases h with h | h
 ·exact kM h hk
 ·exact kM h hk'
theorem jZ {f:Tok→PM β} (h:∀ s',Z B l c (f s.now) s' w2):Z B l c (dm>>=f) s w2:=fun hs b s2 e=>by
 by_cases hk:s.now.kind=10
 ·obtain ⟨s',e1,i1,m1⟩:=Hg hs hk
  rw [zm e1] at e
  obtain ⟨h3,h4⟩:=h s' i1 b s2 e
  exact ⟨h3,by omega⟩
 ·exact (cd (c:=c) hk fun s'=>bz (h s') (by omega)) hs b s2 e
theorem cm {x:ByteArray} {f:Bool→PM β} (h1:cB s.now x=true→∀ s',Z B l (c+8) (f true) s' w2) (h2:cB s.now x=false→Z B l c (f false) s w2):Z B l c (aX x>>=f) s w2:=by
 refine aZ (dV ?_)
 cases hb:cB s.now x with
 | false=>exact h2 hb
 | true=>exact aZ (cd (by have:=(c7 hb).1; omega) fun s'=>h1 hb s')
theorem cC {x:ByteArray} {f:Unit→PM β} (h:∀ s',Z B l (c+8) (f ()) s' w2):Z B l c (a8 x>>=f) s w2:=by
 refine aZ (cm (fun _ s'=>h s') fun _=>gq)
theorem du {f:ByteArray→PM β} (h:∀ x s',Z B l (c+8) (f x) s' w2):Z B l c (cV>>=f) s w2:=by
 refine aZ (cu ?_)
 by_cases hk:s.now.kind=1
 ·rw [show (s.now.kind != 1)=false by simp [hk]]
  exact aZ (cd (by omega) fun s'=>h _ s')
 ·rw [show (s.now.kind != 1)=true by simp [hk]]
  exact gq
theorem ki {n:Int} {f:Tok→PM β} (h:∀ t,Z B l c (f t) s w2):Z B l c (iX n>>=f) s w2:=by
 unfold iX
 split
 ·exact h _
 ·exact h _
theorem mi {f:Tok→PM β} (h:∀ t,Z B l c (f t) s w2):Z B l c (qe>>=f) s w2:=h _
theorem bv {b:Bool} {x y:PM α} {f:α→PM β} (h1:b=true→Z B l c (x>>=f) s w2) (h2:b=false→Z B l c (y>>=f) s w2):Z B l c (cond b x y>>=f) s w2:=by
 cases b with
 | true=>exact h1 rfl
 | false=>exact h2 rfl
theorem bI {b:Bool} {x y:PM β} (h1:b=true→Z B l c x s w2) (h2:b=false→Z B l c y s w2):Z B l c (cond b x y) s w2:=by
 cases b with
 | true=>exact h1 rfl
 | false=>exact h2 rfl
theorem bj {x y:PM α} {f:α→PM β} (h:Z B l c (x>>=f) s w2):Z B l c (cond true x y>>=f) s w2:=h
theorem bh {x y:PM α} {f:α→PM β} (h:Z B l c (y>>=f) s w2):Z B l c (cond false x y>>=f) s w2:=h
theorem bC {x y:PM β} (h:Z B l c x s w2):Z B l c (cond true x y) s w2:=h
theorem bB {x y:PM β} (h:Z B l c y s w2):Z B l c (cond false x y) s w2:=h
theorem oh {f:Unit→PM β} (h:∀ s',Z B l (c+8) (f ()) s' w2):Z B l c (oM>>=f) s w2:=fun hs b s2 e=>by
 rcases Sp.bind_some e with ⟨_,_,h0⟩ | ⟨a,s',e1,e2⟩
 ·cases h0
 ·have hw:W B oM s fun _ s'=>dj B l s s':=yW hs fun s' f=>f
  unfold W at hw
  rw [e1] at hw
  obtain ⟨i1,m1,_⟩:dj B l s s':=hw
  obtain ⟨h3,h4⟩:=h s' i1 b s2 e2
  exact ⟨h3,by omega⟩
theorem q6 {R:a6} {f:Bool→PM β} (h:∀ b,Z B l c (f b) s w2):Z B l c (jH R>>=f) s w2:=fun hs b s2 e=>by
 rcases Sp.bind_some e with ⟨_,_,h0⟩ | ⟨a,s',e1,e2⟩
 ·cases h0
 ·have:s'=s:=by
   unfold jH at e1
   split at e1
   ·cases e1
   ·cases e1; rfl
   ·cases e1; rfl
  subst this
  exact h a hs b s2 e2
end
structure Hz (B:Int) (l:List Tok) (R:a6):Prop where
 expr:∀ s,Z B l 0 R.expr s N.size
 typed:∀ s,Z B l 0 R.typed s N.size
 block:∀ s,Z B l 0 R.block s N.size
 unary:∀ s,Z B l 0 R.unary s N.size
 branch:∀ s,Z B l 0 R.branch s N.size
 statement:∀ s,Z B l 0 R.statement s N.size
 declaration:∀ t s,Z B l 0 (R.declaration t) s (fun o=>match o with | none=>0 | some n=>n.size)
section
variable {B:Int} {l:List Tok} {R:a6} (hR:Hz B l R)
include hR
set_option linter.unusedSectionVars false in
theorem FO {one:PM N} (hone:∀ s,Z B l 0 one s N.size):∀ (k:Nat) (n:N) (s:PSt),Z B l n.size (sQ one k n) s N.size
 | 0,n,s=>dH
 | k+1,n,s=>by
  show Z B l n.size (aX gd>>=fun b=>cond b (do let c ← one; sQ one k (n.push c)) (pure n)) s N.size
  refine cm (fun _ s'=>aC (hone s') (by omega) fun a s2=>bz (FO hone k (n.push a) s2) (by rw [aF]; omega)) (fun _=>bH (Nat.le_refl _))
theorem qn {one:PM N} (hone:∀ s,Z B l 0 one s N.size) (k:Nat) (s:PSt):Z B l 1 (mb k one) s N.size:=by
 refine cu (aC (hone s) (by omega) fun a s2=>bz (FO hR hone k _ s2) (by rw [aU]; simp only [N.sizes]; omega))
theorem vZ (s:PSt):Z B l 1 (eY R) s N.size:=by
 unfold eY
 with_reducible repeat' (first
  | refine cu ?_
  | refine cm (fun _ s'=>?_) (fun _=>?_)
  | refine oh (fun s'=>?_)
  | refine fl ?_
  | refine bu ?_
  | refine aZ ?_
  | refine bj ?_
  | refine bh ?_
  | refine bC ?_
  | refine bB ?_
  | refine bv (fun h=>?_) (fun h=>?_)
  | refine bI (fun h=>?_) (fun h=>?_)
  | refine bH ?_
  | refine aC (hR.typed _) (Nat.zero_le _) (fun a s'=>?_)
  | exact bz (hR.typed _) (Nat.zero_le _)
  | refine aC (qn hR hR.typed _ _) ?_ (fun a s'=>?_)
  | refine sY ?_
  | fail)
 all_goals (first | omega | (simp only [aU,aF,aO,aI,aM,bP,N.sizes]; done) | (simp only [aU,aF,aO,aI,aM,bP,N.sizes]; omega))
set_option linter.unusedSectionVars false in
theorem K9 (s:PSt):Z B l 0 (xY) s N.size:=by
 unfold xY
 with_reducible repeat' (first
  | refine cu ?_
  | refine du (fun x s'=>?_)
  | refine bu ?_
  | refine aZ ?_
  | refine bj ?_
  | refine bh ?_
  | refine bC ?_
  | refine bB ?_
  | refine bv (fun h=>?_) (fun h=>?_)
  | refine bI (fun h=>?_) (fun h=>?_)
  | refine bH ?_
  | fail)
 all_goals (first | omega | (simp only [aU,aF,aO,aI,aM,bP,N.sizes]; done) | (simp only [aU,aF,aO,aI,aM,bP,N.sizes]; omega))
theorem wc (s:PSt):Z B l 1 (je R) s N.size:=by
 unfold je
 with_reducible repeat' (first
  | refine cu ?_
  | refine cm (fun _ s'=>?_) (fun _=>?_)
  | refine oh (fun s'=>?_)
  | refine fl ?_
  | refine bu ?_
  | refine aZ ?_
  | refine bj ?_
  | refine bh ?_
  | refine bC ?_
  | refine bB ?_
  | refine bv (fun h=>?_) (fun h=>?_)
  | refine bI (fun h=>?_) (fun h=>?_)
  | refine bH ?_
  | refine aC (qn hR (K9 hR) _ _) ?_ (fun a s'=>?_)
  | refine sY ?_
  | fail)
 all_goals (first | omega | (simp only [aU,aF,aO,aI,aM,bP,N.sizes]; done) | (simp only [aU,aF,aO,aI,aM,bP,N.sizes]; omega))
omit hR in
theorem GL:∀ (k:Nat) (x:ByteArray) (s:PSt),Z B l 0 (o9 k x) s (fun _=>0)
 | 0,x,s=>dH
 | k+1,x,s=>by
  show Z B l 0 (aX k_dot>>=fun b=>cond b (do let y ← cV; o9 k (x++(k_dot++y))) (pure x)) s _
  exact cm (fun _ s'=>du fun y s2=>bz (GL k _ s2) (by omega)) fun _=>bH (Nat.le_refl _)
theorem Ip (s:PSt):Z B l 0 (rU R) s N.size:=by
 unfold rU
 with_reducible repeat' (first
  | refine cu ?_
  | refine cm (fun _ s'=>?_) (fun _=>?_)
  | refine du (fun x s'=>?_)
  | refine fl ?_
  | refine bu ?_
  | refine aZ ?_
  | refine bj ?_
  | refine bh ?_
  | refine bC ?_
  | refine bB ?_
  | refine bv (fun h=>?_) (fun h=>?_)
  | refine bI (fun h=>?_) (fun h=>?_)
  | refine bH ?_
  | refine aC (GL _ _ _) ?_ (fun a s'=>?_)
  | refine aC (vZ hR _) ?_ (fun a s'=>?_)
  | fail)
 all_goals (first | omega | (simp only [aU,aF,aO,aI,aM,bP,N.sizes]; done) | (simp only [aU,aF,aO,aI,aM,bP,N.sizes]; omega))
theorem Ga (x:ByteArray) (s:PSt):Z B l 1 (nH R x) s N.size:=by
 unfold nH
 with_reducible repeat' (first
  | refine cu ?_
  | refine cm (fun _ s'=>?_) (fun _=>?_)
  | refine fl ?_
  | refine bu ?_
  | refine aZ ?_
  | refine bj ?_
  | refine bh ?_
  | refine bC ?_
  | refine bB ?_
  | refine bv (fun h=>?_) (fun h=>?_)
  | refine bI (fun h=>?_) (fun h=>?_)
  | refine bH ?_
  | refine aC (qn hR (Ip hR) _ _) ?_ (fun a s'=>?_)
  | refine sY ?_
  | fail)
 all_goals (first | omega | (simp only [aU,aF,aO,aI,aM,bP,N.sizes]; done) | (simp only [aU,aF,aO,aI,aM,bP,N.sizes]; omega))
theorem nx (s:PSt):Z B l 1 (dT R) s N.size:=by
 unfold dT
 with_reducible repeat' (first
  | refine cm (fun _ s'=>?_) (fun _=>?_)
  | refine fa ?_
  | refine bu ?_
  | refine aZ ?_
  | refine bj ?_
  | refine bh ?_
  | refine bC ?_
  | refine bB ?_
  | refine bv (fun h=>?_) (fun h=>?_)
  | refine bI (fun h=>?_) (fun h=>?_)
  | refine bH ?_
  | refine aC (hR.typed _) (Nat.zero_le _) (fun a s'=>?_)
  | exact bz (hR.typed _) (Nat.zero_le _)
  | refine Ka ?_
  | fail)
 all_goals (first | omega | (simp only [aU,aF,aO,aI,aM,bP,N.sizes]; done) | (simp only [aU,aF,aO,aI,aM,bP,N.sizes]; omega))
theorem Jb (m:Bool) (s:PSt):Z B l 0 (qc R m) s N.size:=by
 unfold qc
 with_reducible repeat' (first
  | refine cu ?_
  | refine cm (fun _ s'=>?_) (fun _=>?_)
  | refine du (fun x s'=>?_)
  | refine bu ?_
  | refine aZ ?_
  | refine bj ?_
  | refine bh ?_
  | refine bC ?_
  | refine bB ?_
  | refine bv (fun h=>?_) (fun h=>?_)
  | refine bI (fun h=>?_) (fun h=>?_)
  | refine bH ?_
  | refine aC (nx hR _) ?_ (fun a s'=>?_)
  | fail)
 all_goals (first | omega | (simp only [aU,aF,aO,aI,aM,bP,N.sizes]; done) | (simp only [aU,aF,aO,aI,aM,bP,N.sizes]; omega))
theorem n8 (m:Bool) (s:PSt):Z B l 1 (gX R m) s N.size:=by
 unfold gX
 with_reducible repeat' (first
  | refine dV ?_
  | refine fl ?_
  | refine bu ?_
  | refine aZ ?_
  | refine bj ?_
  | refine bh ?_
  | refine bC ?_
  | refine bB ?_
  | refine bv (fun h=>?_) (fun h=>?_)
  | refine bI (fun h=>?_) (fun h=>?_)
  | refine bH ?_
  | refine bz (qn hR (Jb hR m) _ _) ?_
  | refine sY ?_
  | fail)
 all_goals (first | omega | (simp only [aU,aF,aO,aI,aM,bP,N.sizes]; done) | (simp only [aU,aF,aO,aI,aM,bP,N.sizes]; omega))
theorem I5 (s:PSt):Z B l 0 (qz R) s N.size:=by
 unfold qz
 with_reducible repeat' (first
  | refine cu ?_
  | refine dV ?_
  | refine cm (fun _ s'=>?_) (fun _=>?_)
  | refine cC (fun s'=>?_)
  | refine du (fun x s'=>?_)
  | refine bu ?_
  | refine aZ ?_
  | refine bj ?_
  | refine bh ?_
  | refine bC ?_
  | refine bB ?_
  | refine bv (fun h=>?_) (fun h=>?_)
  | refine bI (fun h=>?_) (fun h=>?_)
  | refine bH ?_
  | refine aC (hR.typed _) (Nat.zero_le _) (fun a s'=>?_)
  | exact bz (hR.typed _) (Nat.zero_le _)
  | refine aC (n8 hR false _) ?_ (fun a s'=>?_)
  | fail)
 all_goals (first | omega | (simp only [aU,aF,aO,aI,aM,bP,N.sizes]; done) | (simp only [aU,aF,aO,aI,aM,bP,N.sizes]; omega))
theorem CO:∀ (k:Nat) (n:N) (s:PSt),Z B l n.size (lV R k n) s N.size
 | 0,n,s=>dH
 | k+1,n,s=>by
  unfold lV
  have ih:=CO k
  with_reducible repeat' (first
   | exact gq
   | exact jE
   | refine cu ?_
   | refine dV ?_
   | refine cm (fun _ s'=>?_) (fun _=>?_)
   | refine cC (fun s'=>?_)
   | refine du (fun x s'=>?_)
   | refine oh (fun s'=>?_)
   | refine fl ?_
   | refine fa ?_
   | refine ki (fun t=>?_)
   | refine mi (fun t=>?_)
   | refine cd (pg (by assumption)) (fun s'=>?_)
   | refine cd (iT (by assumption) (by decide)) (fun s'=>?_)
   | refine cd (kM (by assumption) (by decide)) (fun s'=>?_)
   | refine cd (Bm (by assumption) (by decide) (by decide)) (fun s'=>?_)
   | refine cd (wB (by assumption) (by decide) (by decide)) (fun s'=>?_)
   | refine jZ (fun s'=>?_)
   | refine q6 (fun b=>?_)
   | refine bu ?_
   | refine aZ ?_
   | refine bj ?_
   | refine bh ?_
   | refine bC ?_
   | refine bB ?_
   | refine bv (fun h=>?_) (fun h=>?_)
   | refine bI (fun h=>?_) (fun h=>?_)
   | refine bH ?_
   | refine aC (hR.expr _) (Nat.zero_le _) (fun a s'=>?_)
   | refine aC (hR.typed _) (Nat.zero_le _) (fun a s'=>?_)
   | refine aC (hR.block _) (Nat.zero_le _) (fun a s'=>?_)
   | refine aC (hR.unary _) (Nat.zero_le _) (fun a s'=>?_)
   | refine aC (hR.branch _) (Nat.zero_le _) (fun a s'=>?_)
   | refine aC (hR.statement _) (Nat.zero_le _) (fun a s'=>?_)
   | exact bz (hR.expr _) (Nat.zero_le _)
   | exact bz (hR.typed _) (Nat.zero_le _)
   | exact bz (hR.block _) (Nat.zero_le _)
   | exact bz (hR.branch _) (Nat.zero_le _)
   | exact bz (hR.statement _) (Nat.zero_le _)
   | refine aC (I5 hR _) ?_ (fun a s'=>?_)
   | refine bz (ih _ _) ?_
   | fail)
  all_goals (first | omega | (simp only [aU,aF,aO,aI,aM,bP,N.sizes]; done) | (simp only [aU,aF,aO,aI,aM,bP,N.sizes]; omega))
theorem rE (s:PSt):Z B l 0 (ew R) s N.size:=by
 unfold ew
 with_reducible repeat' (first
  | refine cu ?_
  | refine cC (fun s'=>?_)
  | refine bu ?_
  | refine aZ ?_
  | refine bj ?_
  | refine bh ?_
  | refine bC ?_
  | refine bB ?_
  | refine bv (fun h=>?_) (fun h=>?_)
  | refine bI (fun h=>?_) (fun h=>?_)
  | refine bH ?_
  | refine bz (CO hR _ _ _) ?_
  | fail)
 all_goals (first | omega | (simp only [aU,aF,aO,aI,aM,bP,N.sizes]; done) | (simp only [aU,aF,aO,aI,aM,bP,N.sizes]; omega))
theorem Dj (s:PSt):Z B l 0 (iV R) s N.size:=by
 unfold iV
 with_reducible repeat' (first
  | refine cu ?_
  | refine cC (fun s'=>?_)
  | refine bu ?_
  | refine aZ ?_
  | refine bj ?_
  | refine bh ?_
  | refine bC ?_
  | refine bB ?_
  | refine bv (fun h=>?_) (fun h=>?_)
  | refine bI (fun h=>?_) (fun h=>?_)
  | refine bH ?_
  | refine aC (hR.typed _) (Nat.zero_le _) (fun a s'=>?_)
  | exact bz (hR.typed _) (Nat.zero_le _)
  | refine aC (n8 hR false _) ?_ (fun a s'=>?_)
  | fail)
 all_goals (first | omega | (simp only [aU,aF,aO,aI,aM,bP,N.sizes]; done) | (simp only [aU,aF,aO,aI,aM,bP,N.sizes]; omega))
theorem Jk (s:PSt):Z B l 0 (qs R) s N.size:=by
 unfold qs
 with_reducible repeat' (first
  | exact gq
  | exact jE
  | refine cu ?_
  | refine dV ?_
  | refine cm (fun _ s'=>?_) (fun _=>?_)
  | refine cC (fun s'=>?_)
  | refine mi (fun t=>?_)
  | refine cd (pg (by assumption)) (fun s'=>?_)
  | refine cd (iT (by assumption) (by decide)) (fun s'=>?_)
  | refine cd (kM (by assumption) (by decide)) (fun s'=>?_)
  | refine jZ (fun s'=>?_)
  | refine bu ?_
  | refine aZ ?_
  | refine bj ?_
  | refine bh ?_
  | refine bC ?_
  | refine bB ?_
  | refine bv (fun h=>?_) (fun h=>?_)
  | refine bI (fun h=>?_) (fun h=>?_)
  | refine bH ?_
  | refine aC (hR.typed _) (Nat.zero_le _) (fun a s'=>?_)
  | exact bz (hR.typed _) (Nat.zero_le _)
  | refine bz (Dj hR _) ?_
  | refine bz (rE hR _) ?_
  | refine bz (Ip hR _) ?_
  | fail)
 all_goals (first | omega | (simp only [aU,aF,aO,aI,aM,bP,N.sizes]; done) | (simp only [aU,aF,aO,aI,aM,bP,N.sizes]; omega))
omit hR in
theorem He (pos:Int):∀ (k:Nat) (n:N) (s:PSt),Z B l n.size (lK pos k n) s N.size:=by
 intro k
 induction k with
 | zero=>intros; exact dH
 | succ k ih =>
  intros
  rename_i n s
  have hn1:=gN n
  unfold lK
  with_reducible repeat' (first
   | refine dV ?_
   | refine ki (fun t=>?_)
   | refine cd (pg (by assumption)) (fun s'=>?_)
   | refine cd (iT (by assumption) (by decide)) (fun s'=>?_)
   | refine cd (kM (by assumption) (by decide)) (fun s'=>?_)
   | refine jZ (fun s'=>?_)
   | refine bu ?_
   | refine aZ ?_
   | refine bj ?_
   | refine bh ?_
   | refine bC ?_
   | refine bB ?_
   | refine bv (fun h=>?_) (fun h=>?_)
   | refine bI (fun h=>?_) (fun h=>?_)
   | refine bH ?_
   | refine bz (ih _ _) ?_
   | fail)
  all_goals (first | omega | (simp only [aU,aF,aO,aI,aM,bP,N.sizes]; done) | (simp only [aU,aF,aO,aI,aM,bP,N.sizes]; omega))
theorem BD (s:PSt):Z B l 0 (l9 R) s N.size:=by
 unfold l9
 with_reducible repeat' (first
  | refine cu ?_
  | refine bu ?_
  | refine aZ ?_
  | refine bj ?_
  | refine bh ?_
  | refine bC ?_
  | refine bB ?_
  | refine bv (fun h=>?_) (fun h=>?_)
  | refine bI (fun h=>?_) (fun h=>?_)
  | refine bH ?_
  | refine aC (Jk hR _) ?_ (fun a s'=>?_)
  | refine bz (He _ _ _ _) ?_
  | fail)
 all_goals (first | omega | (simp only [aU,aF,aO,aI,aM,bP,N.sizes]; done) | (simp only [aU,aF,aO,aI,aM,bP,N.sizes]; omega))
theorem Jd:∀ (k:Nat) (n:N) (s:PSt),Z B l n.size (k7 R k n) s N.size:=by
 intro k
 induction k with
 | zero=>intros; exact dH
 | succ k ih =>
  intros
  rename_i n s
  have hn1:=gN n
  unfold k7
  with_reducible repeat' (first
   | refine cm (fun _ s'=>?_) (fun _=>?_)
   | refine bu ?_
   | refine aZ ?_
   | refine bj ?_
   | refine bh ?_
   | refine bC ?_
   | refine bB ?_
   | refine bv (fun h=>?_) (fun h=>?_)
   | refine bI (fun h=>?_) (fun h=>?_)
   | refine bH ?_
   | refine aC (BD hR _) ?_ (fun a s'=>?_)
   | refine bz (ih _ _) ?_
   | fail)
  all_goals (first | omega | (simp only [aU,aF,aO,aI,aM,bP,N.sizes]; done) | (simp only [aU,aF,aO,aI,aM,bP,N.sizes]; omega))
theorem G0 {k:Nat} {n:N} {s:PSt} (h:cB s.now hZ=true):Z B l (n.size - 1) (k7 R k n) s N.size:=by
 cases k with
 | zero=>exact dH
 | succ k =>
  unfold k7
  refine cm (fun _ s'=>?_) (fun h'=>absurd h (by rw [h']; decide))
  refine aC (BD hR _) (Nat.zero_le _) (fun a s'=>?_)
  exact bz (Jd hR _ _ _) (by simp only [aF]; omega)
theorem IX (s:PSt):Z B l 0 (pR R) s N.size:=by
 unfold pR
 with_reducible repeat' (first
  | refine cu ?_
  | refine dV ?_
  | refine cm (fun _ s'=>?_) (fun _=>?_)
  | refine bu ?_
  | refine aZ ?_
  | refine bj ?_
  | refine bh ?_
  | refine bC ?_
  | refine bB ?_
  | refine bv (fun h=>?_) (fun h=>?_)
  | refine bI (fun h=>?_) (fun h=>?_)
  | refine bH ?_
  | refine aC (BD hR _) ?_ (fun a s'=>?_)
  | (refine bz (G0 hR ?_) ?_; assumption)
  | fail)
 all_goals (first | omega | (simp only [aU,aF,aO,aI,aM,bP,N.sizes]; done) | (simp only [aU,aF,aO,aI,aM,bP,N.sizes]; omega))
theorem JC (s:PSt):Z B l 0 (je R) s (fun n=>n.size - 1):=fun hs a s' e=>by
 obtain ⟨h1,h2⟩:=wc hR s hs a s' e
 have:=gN a
 exact ⟨h1,by show a.size - 1+_≤_; omega⟩
theorem GM (pos:Int) (s:PSt):Z B l 0 (lr R pos) s N.size:=by
 unfold lr
 with_reducible repeat' (first
  | refine cu ?_
  | refine dV ?_
  | refine cC (fun s'=>?_)
  | refine du (fun x s'=>?_)
  | refine fl ?_
  | refine fa ?_
  | refine bu ?_
  | refine aZ ?_
  | refine bj ?_
  | refine bh ?_
  | refine bC ?_
  | refine bB ?_
  | refine bv (fun h=>?_) (fun h=>?_)
  | refine bI (fun h=>?_) (fun h=>?_)
  | refine bH ?_
  | refine aC (hR.expr _) (Nat.zero_le _) (fun a s'=>?_)
  | refine aC (hR.block _) (Nat.zero_le _) (fun a s'=>?_)
  | exact bz (hR.expr _) (Nat.zero_le _)
  | exact bz (hR.block _) (Nat.zero_le _)
  | refine aC (JC hR _) ?_ (fun a s'=>?_)
  | refine aC (n8 hR false _) ?_ (fun a s'=>?_)
  | fail)
 all_goals (first | omega | (simp only [aU,aF,aO,aI,aM,bP,N.sizes]; done) | (simp only [aU,aF,aO,aI,aM,bP,N.sizes]; omega))
omit hR in
theorem G1 {α:Type} {c:Nat} {s:PSt} {w:α→Nat} {f:Bool→PM α} (hf:∀ b,Z B l c (f b) s w):Z B l c (qr>>=f) s w:=by
 unfold qr
 with_reducible repeat' (first
  | exact hf _
  | refine cu ?_
  | refine dV ?_
  | refine ki (fun t=>?_)
  | refine mi (fun t=>?_)
  | refine bu ?_
  | refine aZ ?_
  | refine bv (fun h=>?_) (fun h=>?_))
theorem KA {m:PM N} (hm:∀ s,Z B l 0 m s N.size) (s:PSt):Z B l 0 (tf R m) s N.size:=by
 unfold tf
 with_reducible repeat' (first
  | exact gq
  | exact jE
  | refine cu ?_
  | refine cm (fun _ s'=>?_) (fun _=>?_)
  | refine bu ?_
  | refine aZ ?_
  | refine bj ?_
  | refine bh ?_
  | refine bC ?_
  | refine bB ?_
  | refine bv (fun h=>?_) (fun h=>?_)
  | refine bI (fun h=>?_) (fun h=>?_)
  | refine bH ?_
  | refine aC (hR.expr _) (Nat.zero_le _) (fun a s'=>?_)
  | exact bz (hR.expr _) (Nat.zero_le _)
  | refine G1 (fun b=>?_)
  | refine aC (hm _) ?_ (fun a s'=>?_)
  | refine bz (GM hR _ _) ?_
  | fail)
 all_goals (first | omega | (simp only [aU,aF,aO,aI,aM,bP,N.sizes]; done) | (simp only [aU,aF,aO,aI,aM,bP,N.sizes]; omega))
theorem DS (s:PSt):Z B l 0 (jA R) s (fun n=>n.size+8):=by
 unfold jA
 with_reducible repeat' (first
  | refine dV ?_
  | refine cC (fun s'=>?_)
  | refine fl ?_
  | refine bu ?_
  | refine aZ ?_
  | refine bj ?_
  | refine bh ?_
  | refine bC ?_
  | refine bB ?_
  | refine bv (fun h=>?_) (fun h=>?_)
  | refine bI (fun h=>?_) (fun h=>?_)
  | refine bH ?_
  | refine aC (hR.expr _) (Nat.zero_le _) (fun a s'=>?_)
  | exact bz (hR.expr _) (Nat.zero_le _)
  | refine aC (qn hR hR.expr _ _) ?_ (fun a s'=>?_)
  | fail)
 all_goals (first | omega | (simp only [aU,aF,aO,aI,aM,bP,N.sizes]; done) | (simp only [aU,aF,aO,aI,aM,bP,N.sizes]; omega))
theorem JA:∀ (k:Nat) (n:N) (s:PSt),Z B l n.size (od R k n) s N.size:=by
 intro k
 induction k with
 | zero=>intros; exact dH
 | succ k ih =>
  intros
  rename_i n s
  have hn1:=gN n
  unfold od
  with_reducible repeat' (first
   | refine cu ?_
   | refine dV ?_
   | refine cm (fun _ s'=>?_) (fun _=>?_)
   | refine cC (fun s'=>?_)
   | refine du (fun x s'=>?_)
   | refine bu ?_
   | refine aZ ?_
   | refine bj ?_
   | refine bh ?_
   | refine bC ?_
   | refine bB ?_
   | refine bv (fun h=>?_) (fun h=>?_)
   | refine bI (fun h=>?_) (fun h=>?_)
   | refine bH ?_
   | refine aC (hR.expr _) (Nat.zero_le _) (fun a s'=>?_)
   | exact bz (hR.expr _) (Nat.zero_le _)
   | refine bz (ih _ _) ?_
   | fail)
  all_goals (first | omega | (simp only [aU,aF,aO,aI,aM,bP,N.sizes]; done) | (simp only [aU,aF,aO,aI,aM,bP,N.sizes]; omega))
theorem HH (s:PSt):Z B l 0 (nR R) s N.size:=by
 unfold nR
 with_reducible repeat' (first
  | refine cu ?_
  | refine cC (fun s'=>?_)
  | refine bu ?_
  | refine aZ ?_
  | refine bj ?_
  | refine bh ?_
  | refine bC ?_
  | refine bB ?_
  | refine bv (fun h=>?_) (fun h=>?_)
  | refine bI (fun h=>?_) (fun h=>?_)
  | refine bH ?_
  | refine bz (JA hR _ _ _) ?_
  | fail)
 all_goals (first | omega | (simp only [aU,aF,aO,aI,aM,bP,N.sizes]; done) | (simp only [aU,aF,aO,aI,aM,bP,N.sizes]; omega))
theorem Gj:∀ (k:Nat) (t:Tok) (n:N) (s:PSt),Z B l n.size (iF R k t n) s N.size:=by
 intro k
 induction k with
 | zero=>intros; exact dH
 | succ k ih =>
  intros
  rename_i n s
  have hn1:=gN n
  unfold iF
  with_reducible repeat' (first
   | exact gq
   | exact jE
   | refine cu ?_
   | refine cd (iT (by assumption) (by decide)) (fun s'=>?_)
   | refine cd (kM (by assumption) (by decide)) (fun s'=>?_)
   | refine cd (Bm (by assumption) (by decide) (by decide)) (fun s'=>?_)
   | refine jZ (fun s'=>?_)
   | refine bu ?_
   | refine aZ ?_
   | refine bj ?_
   | refine bh ?_
   | refine bC ?_
   | refine bB ?_
   | refine bv (fun h=>?_) (fun h=>?_)
   | refine bI (fun h=>?_) (fun h=>?_)
   | refine bH ?_
   | refine aC (hR.expr _) (Nat.zero_le _) (fun a s'=>?_)
   | exact bz (hR.expr _) (Nat.zero_le _)
   | refine bz (ih _ _ _) ?_
   | fail)
  all_goals (first | omega | (simp only [aU,aF,aO,aI,aM,bP,N.sizes]; done) | (simp only [aU,aF,aO,aI,aM,bP,N.sizes]; omega))
theorem Fl {s:PSt} (hk:s.now.kind≠10):Z B l 0 (ke R) s N.size:=by
 unfold ke
 with_reducible repeat' (first
  | exact gq
  | exact jE
  | refine cu ?_
  | refine dV ?_
  | refine cm (fun _ s'=>?_) (fun _=>?_)
  | refine cC (fun s'=>?_)
  | refine du (fun x s'=>?_)
  | refine oh (fun s'=>?_)
  | refine fl ?_
  | refine fa ?_
  | refine ki (fun t=>?_)
  | refine mi (fun t=>?_)
  | refine cd (pg (by assumption)) (fun s'=>?_)
  | refine cd (iT (by assumption) (by decide)) (fun s'=>?_)
  | refine cd (kM (by assumption) (by decide)) (fun s'=>?_)
  | refine cd (Bm (by assumption) (by decide) (by decide)) (fun s'=>?_)
  | refine cd (wB (by assumption) (by decide) (by decide)) (fun s'=>?_)
  | refine q6 (fun b=>?_)
  | refine bu ?_
  | refine aZ ?_
  | refine bj ?_
  | refine bh ?_
  | refine bC ?_
  | refine bB ?_
  | refine bv (fun h=>?_) (fun h=>?_)
  | refine bI (fun h=>?_) (fun h=>?_)
  | refine bH ?_
  | refine aC (hR.expr _) (Nat.zero_le _) (fun a s'=>?_)
  | refine aC (hR.typed _) (Nat.zero_le _) (fun a s'=>?_)
  | refine aC (hR.block _) (Nat.zero_le _) (fun a s'=>?_)
  | refine aC (hR.unary _) (Nat.zero_le _) (fun a s'=>?_)
  | refine aC (hR.branch _) (Nat.zero_le _) (fun a s'=>?_)
  | refine aC (hR.statement _) (Nat.zero_le _) (fun a s'=>?_)
  | exact bz (hR.expr _) (Nat.zero_le _)
  | exact bz (hR.typed _) (Nat.zero_le _)
  | exact bz (hR.block _) (Nat.zero_le _)
  | exact bz (hR.branch _) (Nat.zero_le _)
  | exact bz (hR.statement _) (Nat.zero_le _)
  | refine cd hk (fun s'=>?_)
  | refine bz (Gj hR _ _ _ _) ?_
  | fail)
 all_goals (first | omega | (simp only [aU,aF,aO,aI,aM,bP,N.sizes]; done) | (simp only [aU,aF,aO,aI,aM,bP,N.sizes]; omega))
omit hR in
theorem FI (pos:Int):∀ (k:Nat) (n:N) (s:PSt),Z B l n.size (membersS pos k n) s N.size:=by
 intro k
 induction k with
 | zero=>intros; exact dH
 | succ k ih =>
  intros
  rename_i n s
  have hn1:=gN n
  unfold membersS
  with_reducible repeat' (first
   | refine cm (fun _ s'=>?_) (fun _=>?_)
   | refine du (fun x s'=>?_)
   | refine bu ?_
   | refine aZ ?_
   | refine bj ?_
   | refine bh ?_
   | refine bC ?_
   | refine bB ?_
   | refine bv (fun h=>?_) (fun h=>?_)
   | refine bI (fun h=>?_) (fun h=>?_)
   | refine bH ?_
   | refine bz (ih _ _) ?_
   | fail)
  all_goals (first | omega | (simp only [aU,aF,aO,aI,aM,bP,N.sizes]; done) | (simp only [aU,aF,aO,aI,aM,bP,N.sizes]; omega))
theorem H8 {t:Tok} {s:PSt} (hk:s.now.kind≠10):Z B l 0 (nU R t) s N.size:=by
 unfold nU
 with_reducible repeat' (first
  | exact gq
  | exact jE
  | refine cu ?_
  | refine dV ?_
  | refine cm (fun _ s'=>?_) (fun _=>?_)
  | refine cC (fun s'=>?_)
  | refine du (fun x s'=>?_)
  | refine oh (fun s'=>?_)
  | refine fl ?_
  | refine fa ?_
  | refine ki (fun t=>?_)
  | refine mi (fun t=>?_)
  | refine cd (pg (by assumption)) (fun s'=>?_)
  | refine cd (iT (by assumption) (by decide)) (fun s'=>?_)
  | refine cd (kM (by assumption) (by decide)) (fun s'=>?_)
  | refine cd (Bm (by assumption) (by decide) (by decide)) (fun s'=>?_)
  | refine cd (wB (by assumption) (by decide) (by decide)) (fun s'=>?_)
  | refine q6 (fun b=>?_)
  | refine bu ?_
  | refine aZ ?_
  | refine bj ?_
  | refine bh ?_
  | refine bC ?_
  | refine bB ?_
  | refine bv (fun h=>?_) (fun h=>?_)
  | refine bI (fun h=>?_) (fun h=>?_)
  | refine bH ?_
  | refine aC (hR.expr _) (Nat.zero_le _) (fun a s'=>?_)
  | refine aC (hR.typed _) (Nat.zero_le _) (fun a s'=>?_)
  | refine aC (hR.block _) (Nat.zero_le _) (fun a s'=>?_)
  | refine aC (hR.unary _) (Nat.zero_le _) (fun a s'=>?_)
  | refine aC (hR.branch _) (Nat.zero_le _) (fun a s'=>?_)
  | refine aC (hR.statement _) (Nat.zero_le _) (fun a s'=>?_)
  | exact bz (hR.expr _) (Nat.zero_le _)
  | exact bz (hR.typed _) (Nat.zero_le _)
  | exact bz (hR.block _) (Nat.zero_le _)
  | exact bz (hR.branch _) (Nat.zero_le _)
  | exact bz (hR.statement _) (Nat.zero_le _)
  | refine cd hk (fun s'=>?_)
  | refine aC (FI _ _ _ _) ?_ (fun a s'=>?_)
  | refine aC (vZ hR _) ?_ (fun a s'=>?_)
  | refine aC (DS hR _) ?_ (fun a s'=>?_)
  | fail)
 all_goals (first | omega | (simp only [aU,aF,aO,aI,aM,bP,N.sizes]; done) | (simp only [aU,aF,aO,aI,aM,bP,N.sizes]; omega))
theorem FU (s:PSt):Z B l 0 (la R) s N.size:=by
 unfold la
 with_reducible repeat' (first
  | refine cu ?_
  | refine dV ?_
  | refine cm (fun _ s'=>?_) (fun _=>?_)
  | refine cC (fun s'=>?_)
  | refine cd (pg (by assumption)) (fun s'=>?_)
  | refine cd (iT (by assumption) (by decide)) (fun s'=>?_)
  | refine cd (kM (by assumption) (by decide)) (fun s'=>?_)
  | refine cd (wB (by assumption) (by decide) (by decide)) (fun s'=>?_)
  | refine jZ (fun s'=>?_)
  | refine bu ?_
  | refine aZ ?_
  | refine bj ?_
  | refine bh ?_
  | refine bC ?_
  | refine bB ?_
  | refine bv (fun h=>?_) (fun h=>?_)
  | refine bI (fun h=>?_) (fun h=>?_)
  | refine bH ?_
  | refine aC (hR.expr _) (Nat.zero_le _) (fun a s'=>?_)
  | exact bz (hR.expr _) (Nat.zero_le _)
  | refine aC (qn hR hR.expr _ _) ?_ (fun a s'=>?_)
  | refine bz (Fl hR (wB (by assumption) (by decide) (by decide))) ?_
  | refine bz (HH hR _) ?_
  | refine bz (H8 hR (iT (by assumption) (by decide))) ?_
  | fail)
 all_goals (first | omega | (simp only [aU,aF,aO,aI,aM,bP,N.sizes]; done) | (simp only [aU,aF,aO,aI,aM,bP,N.sizes]; omega))
theorem Jq (pos:Int):∀ (k:Nat) (n:N) (s:PSt),Z B l n.size (gT R pos k n) s N.size:=by
 intro k
 induction k with
 | zero=>intros; exact dH
 | succ k ih =>
  intros
  rename_i n s
  have hn1:=gN n
  unfold gT
  with_reducible repeat' (first
   | refine dV ?_
   | refine cm (fun _ s'=>?_) (fun _=>?_)
   | refine cC (fun s'=>?_)
   | refine du (fun x s'=>?_)
   | refine q6 (fun b=>?_)
   | refine bu ?_
   | refine aZ ?_
   | refine bj ?_
   | refine bh ?_
   | refine bC ?_
   | refine bB ?_
   | refine bv (fun h=>?_) (fun h=>?_)
   | refine bI (fun h=>?_) (fun h=>?_)
   | refine bH ?_
   | refine aC (hR.expr _) (Nat.zero_le _) (fun a s'=>?_)
   | exact bz (hR.expr _) (Nat.zero_le _)
   | refine aC (vZ hR _) ?_ (fun a s'=>?_)
   | refine aC (DS hR _) ?_ (fun a s'=>?_)
   | refine bz (ih _ _) ?_
   | fail)
  all_goals (first | omega | (simp only [aU,aF,aO,aI,aM,bP,N.sizes]; done) | (simp only [aU,aF,aO,aI,aM,bP,N.sizes]; omega))
theorem GU (s:PSt):Z B l 0 (li R) s N.size:=by
 unfold li
 with_reducible repeat' (first
  | refine cu ?_
  | refine bu ?_
  | refine aZ ?_
  | refine bj ?_
  | refine bh ?_
  | refine bC ?_
  | refine bB ?_
  | refine bv (fun h=>?_) (fun h=>?_)
  | refine bI (fun h=>?_) (fun h=>?_)
  | refine bH ?_
  | refine aC (FU hR _) ?_ (fun a s'=>?_)
  | refine bz (Jq hR _ _ _ _) ?_
  | fail)
 all_goals (first | omega | (simp only [aU,aF,aO,aI,aM,bP,N.sizes]; done) | (simp only [aU,aF,aO,aI,aM,bP,N.sizes]; omega))
theorem Et (s:PSt):Z B l 0 (ol R) s N.size:=by
 unfold ol
 with_reducible repeat' (first
  | refine cu ?_
  | refine cm (fun _ s'=>?_) (fun _=>?_)
  | refine bu ?_
  | refine aZ ?_
  | refine bj ?_
  | refine bh ?_
  | refine bC ?_
  | refine bB ?_
  | refine bv (fun h=>?_) (fun h=>?_)
  | refine bI (fun h=>?_) (fun h=>?_)
  | refine bH ?_
  | refine aC (hR.unary _) (Nat.zero_le _) (fun a s'=>?_)
  | refine bz (GU hR _) ?_
  | fail)
 all_goals (first | omega | (simp only [aU,aF,aO,aI,aM,bP,N.sizes]; done) | (simp only [aU,aF,aO,aI,aM,bP,N.sizes]; omega))
omit hR in
theorem Ct {α:Type} {c:Nat} {w:α→Nat} {f:Option ByteArray→PM α}:∀ (ss:List ByteArray) {s:PSt},Z B l c (f none) s w→(∀ x s',Z B l (c+8) (f (some x)) s' w)→Z B l c (jz ss>>=f) s w
 | [],s,h1,h2=>h1
 | x::ss,s,h1,h2=>by
  unfold jz
  refine aZ (cm (fun _ s'=>?_) fun _=>?_)
  ·exact h2 x s'
  ·exact Ct ss h1 h2
theorem JG (ss:List ByteArray) (pos:Int) {m:PM N} (hm:∀ s,Z B l 0 m s N.size):∀ (k:Nat) (n:N) (s:PSt),Z B l n.size (f6 R ss pos m k n) s N.size:=by
 intro k
 induction k with
 | zero=>intros; exact dH
 | succ k ih =>
  intro n s
  unfold f6
  refine Ct ss (bH (Nat.le_refl _)) fun x s'=>?_
  refine bI (fun _=>?_) fun _=>?_
  ·exact aC (hR.typed _) (Nat.zero_le _) fun a s'=>bz (ih _ _) (by simp only [aU,N.sizes]; omega)
  ·exact aC (hm _) (Nat.zero_le _) fun a s'=>bz (ih _ _) (by simp only [aU,N.sizes]; omega)
theorem xF:∀ (m:Nat) (s:PSt),Z B l 0 (gV R m) s N.size
 | 0,s=>Et hR s
 | m+1,s=>by
  unfold gV
  exact cu (aC (xF m s) (Nat.zero_le _) fun a s'=>bz (JG hR _ _ (xF m) _ _ _) (by omega))
theorem KI (s:PSt):Z B l 0 (l4 R) s N.size:=by
 unfold l4
 with_reducible repeat' (first
  | refine cu ?_
  | refine cm (fun _ s'=>?_) (fun _=>?_)
  | refine cC (fun s'=>?_)
  | refine bu ?_
  | refine aZ ?_
  | refine bj ?_
  | refine bh ?_
  | refine bC ?_
  | refine bB ?_
  | refine bv (fun h=>?_) (fun h=>?_)
  | refine bI (fun h=>?_) (fun h=>?_)
  | refine bH ?_
  | refine aC (hR.expr _) (Nat.zero_le _) (fun a s'=>?_)
  | exact bz (hR.expr _) (Nat.zero_le _)
  | refine aC (xF hR 10 _) ?_ (fun a s'=>?_)
  | fail)
 all_goals (first | omega | (simp only [aU,aF,aO,aI,aM,bP,N.sizes]; done) | (simp only [aU,aF,aO,aI,aM,bP,N.sizes]; omega))
theorem IR:∀ (k:Nat) (n:N) (s:PSt),Z B l n.size (pU R k n) s N.size:=by
 intro k
 induction k with
 | zero=>intros; exact dH
 | succ k ih =>
  intros
  rename_i n s
  have hn1:=gN n
  unfold pU
  with_reducible repeat' (first
   | refine dV ?_
   | refine cC (fun s'=>?_)
   | refine bu ?_
   | refine aZ ?_
   | refine bj ?_
   | refine bh ?_
   | refine bC ?_
   | refine bB ?_
   | refine bv (fun h=>?_) (fun h=>?_)
   | refine bI (fun h=>?_) (fun h=>?_)
   | refine bH ?_
   | refine aC (hR.statement _) (Nat.zero_le _) (fun a s'=>?_)
   | exact bz (hR.statement _) (Nat.zero_le _)
   | refine bz (ih _ _) ?_
   | fail)
  all_goals (first | omega | (simp only [aU,aF,aO,aI,aM,bP,N.sizes]; done) | (simp only [aU,aF,aO,aI,aM,bP,N.sizes]; omega))
theorem Jr (s:PSt):Z B l 0 (qt R) s N.size:=by
 unfold qt
 with_reducible repeat' (first
  | refine cu ?_
  | refine cC (fun s'=>?_)
  | refine bu ?_
  | refine aZ ?_
  | refine bj ?_
  | refine bh ?_
  | refine bC ?_
  | refine bB ?_
  | refine bv (fun h=>?_) (fun h=>?_)
  | refine bI (fun h=>?_) (fun h=>?_)
  | refine bH ?_
  | refine bz (IR hR _ _ _) ?_
  | fail)
 all_goals (first | omega | (simp only [aU,aF,aO,aI,aM,bP,N.sizes]; done) | (simp only [aU,aF,aO,aI,aM,bP,N.sizes]; omega))
theorem D8 (s:PSt):Z B l 0 (oU R) s N.size:=by
 unfold oU
 with_reducible repeat' (first
  | refine cC (fun s'=>?_)
  | refine bu ?_
  | refine aZ ?_
  | refine bj ?_
  | refine bh ?_
  | refine bC ?_
  | refine bB ?_
  | refine bv (fun h=>?_) (fun h=>?_)
  | refine bI (fun h=>?_) (fun h=>?_)
  | refine bH ?_
  | refine aC (hR.expr _) (Nat.zero_le _) (fun a s'=>?_)
  | exact bz (hR.expr _) (Nat.zero_le _)
  | fail)
 all_goals (first | omega | (simp only [aU,aF,aO,aI,aM,bP,N.sizes]; done) | (simp only [aU,aF,aO,aI,aM,bP,N.sizes]; omega))
theorem Ju (k pos:Int) (m:Bool) (s:PSt):Z B l 0 (mh R k pos m) s N.size:=by
 unfold mh
 with_reducible repeat' (first
  | refine dV ?_
  | refine cC (fun s'=>?_)
  | refine fa ?_
  | refine bu ?_
  | refine aZ ?_
  | refine bj ?_
  | refine bh ?_
  | refine bC ?_
  | refine bB ?_
  | refine bv (fun h=>?_) (fun h=>?_)
  | refine bI (fun h=>?_) (fun h=>?_)
  | refine bH ?_
  | refine aC (hR.expr _) (Nat.zero_le _) (fun a s'=>?_)
  | exact bz (hR.expr _) (Nat.zero_le _)
  | fail)
 all_goals (first | omega | (simp only [aU,aF,aO,aI,aM,bP,N.sizes]; done) | (simp only [aU,aF,aO,aI,aM,bP,N.sizes]; omega))
theorem v7 (n pos:Int) (s:PSt):Z B l 0 (eA R n pos) s N.size:=by
 unfold eA
 with_reducible repeat' (first
  | refine cC (fun s'=>?_)
  | refine du (fun x s'=>?_)
  | refine bu ?_
  | refine aZ ?_
  | refine bj ?_
  | refine bh ?_
  | refine bC ?_
  | refine bB ?_
  | refine bv (fun h=>?_) (fun h=>?_)
  | refine bI (fun h=>?_) (fun h=>?_)
  | refine bH ?_
  | refine aC (hR.expr _) (Nat.zero_le _) (fun a s'=>?_)
  | exact bz (hR.expr _) (Nat.zero_le _)
  | refine aC (nx hR _) ?_ (fun a s'=>?_)
  | fail)
 all_goals (first | omega | (simp only [aU,aF,aO,aI,aM,bP,N.sizes]; done) | (simp only [aU,aF,aO,aI,aM,bP,N.sizes]; omega))
theorem wU (k pos:Int) (s:PSt):Z B l 0 (fC R k pos) s N.size:=by
 unfold fC
 with_reducible repeat' (first
  | refine cC (fun s'=>?_)
  | refine du (fun x s'=>?_)
  | refine bu ?_
  | refine aZ ?_
  | refine bj ?_
  | refine bh ?_
  | refine bC ?_
  | refine bB ?_
  | refine bv (fun h=>?_) (fun h=>?_)
  | refine bI (fun h=>?_) (fun h=>?_)
  | refine bH ?_
  | refine aC (hR.block _) (Nat.zero_le _) (fun a s'=>?_)
  | exact bz (hR.block _) (Nat.zero_le _)
  | refine aC (wc hR _) ?_ (fun a s'=>?_)
  | refine aC (n8 hR false _) ?_ (fun a s'=>?_)
  | refine aC (nx hR _) ?_ (fun a s'=>?_)
  | fail)
 all_goals (first | omega | (simp only [aU,aF,aO,aI,aM,bP,N.sizes]; done) | (simp only [aU,aF,aO,aI,aM,bP,N.sizes]; omega))
theorem KY (e:ByteArray) (s:PSt):Z B l 0 (oe R e) s N.size:=by
 unfold oe
 with_reducible repeat' (first
  | refine dV ?_
  | refine cC (fun s'=>?_)
  | refine fa ?_
  | refine bu ?_
  | refine aZ ?_
  | refine bj ?_
  | refine bh ?_
  | refine bC ?_
  | refine bB ?_
  | refine bv (fun h=>?_) (fun h=>?_)
  | refine bI (fun h=>?_) (fun h=>?_)
  | refine bH ?_
  | refine aC (hR.expr _) (Nat.zero_le _) (fun a s'=>?_)
  | exact bz (hR.expr _) (Nat.zero_le _)
  | fail)
 all_goals (first | omega | (simp only [aU,aF,aO,aI,aM,bP,N.sizes]; done) | (simp only [aU,aF,aO,aI,aM,bP,N.sizes]; omega))
theorem KN (pos:Int) (s:PSt):Z B l 0 (sU R pos) s N.size:=by
 unfold sU
 with_reducible repeat' (first
  | refine cu ?_
  | refine dV ?_
  | refine cm (fun _ s'=>?_) (fun _=>?_)
  | refine cC (fun s'=>?_)
  | refine du (fun x s'=>?_)
  | refine fa ?_
  | refine ki (fun t=>?_)
  | refine cd (pg (by assumption)) (fun s'=>?_)
  | refine cd (iT (by assumption) (by decide)) (fun s'=>?_)
  | refine cd (kM (by assumption) (by decide)) (fun s'=>?_)
  | refine jZ (fun s'=>?_)
  | refine bu ?_
  | refine aZ ?_
  | refine bj ?_
  | refine bh ?_
  | refine bC ?_
  | refine bB ?_
  | refine bv (fun h=>?_) (fun h=>?_)
  | refine bI (fun h=>?_) (fun h=>?_)
  | refine bH ?_
  | refine aC (hR.expr _) (Nat.zero_le _) (fun a s'=>?_)
  | refine aC (hR.block _) (Nat.zero_le _) (fun a s'=>?_)
  | exact bz (hR.expr _) (Nat.zero_le _)
  | exact bz (hR.block _) (Nat.zero_le _)
  | refine aC (v7 hR _ _ _) ?_ (fun a s'=>?_)
  | refine aC (KY hR _ _) ?_ (fun a s'=>?_)
  | fail)
 all_goals (first | omega | (simp only [aU,aF,aO,aI,aM,bP,N.sizes]; done) | (simp only [aU,aF,aO,aI,aM,bP,N.sizes]; omega))
theorem Ld (pos:Int) (s:PSt):Z B l 3 (yp R pos) s N.size:=by
 unfold yp
 with_reducible repeat' (first
  | exact gq
  | exact jE
  | refine cu ?_
  | refine cm (fun _ s'=>?_) (fun _=>?_)
  | refine cC (fun s'=>?_)
  | refine du (fun x s'=>?_)
  | refine fa ?_
  | refine bu ?_
  | refine aZ ?_
  | refine bj ?_
  | refine bh ?_
  | refine bC ?_
  | refine bB ?_
  | refine bv (fun h=>?_) (fun h=>?_)
  | refine bI (fun h=>?_) (fun h=>?_)
  | refine bH ?_
  | refine aC (hR.block _) (Nat.zero_le _) (fun a s'=>?_)
  | exact bz (hR.block _) (Nat.zero_le _)
  | fail)
 all_goals (first | omega | (simp only [aU,aF,aO,aI,aM,bP,N.sizes]; done) | (simp only [aU,aF,aO,aI,aM,bP,N.sizes]; omega))
theorem Ck (s:PSt):Z B l 0 (lD R) s N.size:=by
 unfold lD
 with_reducible repeat' (first
  | refine cu ?_
  | refine dV ?_
  | refine cm (fun _ s'=>?_) (fun _=>?_)
  | refine cC (fun s'=>?_)
  | refine fa ?_
  | refine bu ?_
  | refine aZ ?_
  | refine bj ?_
  | refine bh ?_
  | refine bC ?_
  | refine bB ?_
  | refine bv (fun h=>?_) (fun h=>?_)
  | refine bI (fun h=>?_) (fun h=>?_)
  | refine bH ?_
  | refine aC (hR.block _) (Nat.zero_le _) (fun a s'=>?_)
  | refine aC (hR.branch _) (Nat.zero_le _) (fun a s'=>?_)
  | exact bz (hR.block _) (Nat.zero_le _)
  | exact bz (hR.branch _) (Nat.zero_le _)
  | refine aC (D8 hR _) ?_ (fun a s'=>?_)
  | fail)
 all_goals (first | omega | (simp only [aU,aF,aO,aI,aM,bP,N.sizes]; done) | (simp only [aU,aF,aO,aI,aM,bP,N.sizes]; omega))
theorem KE (s:PSt):Z B l 0 (tj R) s N.size:=by
 unfold tj
 with_reducible repeat' (first
  | refine cu ?_
  | refine cm (fun _ s'=>?_) (fun _=>?_)
  | refine cC (fun s'=>?_)
  | refine du (fun x s'=>?_)
  | refine fa ?_
  | refine ki (fun t=>?_)
  | refine bu ?_
  | refine aZ ?_
  | refine bj ?_
  | refine bh ?_
  | refine bC ?_
  | refine bB ?_
  | refine bv (fun h=>?_) (fun h=>?_)
  | refine bI (fun h=>?_) (fun h=>?_)
  | refine bH ?_
  | refine aC (hR.expr _) (Nat.zero_le _) (fun a s'=>?_)
  | refine aC (hR.block _) (Nat.zero_le _) (fun a s'=>?_)
  | exact bz (hR.expr _) (Nat.zero_le _)
  | exact bz (hR.block _) (Nat.zero_le _)
  | refine aC (n8 hR true _) ?_ (fun a s'=>?_)
  | refine aC (nx hR _) ?_ (fun a s'=>?_)
  | refine bz (wU hR _ _ _) ?_
  | fail)
 all_goals (first | omega | (simp only [aU,aF,aO,aI,aM,bP,N.sizes]; done) | (simp only [aU,aF,aO,aI,aM,bP,N.sizes]; omega))
theorem Ez:∀ (k:Nat) (c:Int) (n:N) (s:PSt),Z B l n.size (membersCS R k c n) s (fun p=>p.2.size):=by
 intro k
 induction k with
 | zero=>intros; exact dH
 | succ k ih =>
  intros
  rename_i n s
  have hn1:=gN n
  unfold membersCS
  with_reducible repeat' (first
   | refine dV ?_
   | refine bu ?_
   | refine aZ ?_
   | refine bj ?_
   | refine bh ?_
   | refine bC ?_
   | refine bB ?_
   | refine bv (fun h=>?_) (fun h=>?_)
   | refine bI (fun h=>?_) (fun h=>?_)
   | refine bH ?_
   | refine aC (KE hR _) ?_ (fun a s'=>?_)
   | refine bz (ih _ _ _) ?_
   | fail)
  all_goals (first | omega | (simp only [aU,aF,aO,aI,aM,bP,N.sizes]; done) | (simp only [aU,aF,aO,aI,aM,bP,N.sizes]; omega))
theorem JD (pos:Int) (s:PSt):Z B l 0 (og R pos) s N.size:=by
 unfold og
 with_reducible repeat' (first
  | exact gq
  | exact jE
  | refine cu ?_
  | refine cm (fun _ s'=>?_) (fun _=>?_)
  | refine cC (fun s'=>?_)
  | refine du (fun x s'=>?_)
  | refine fl ?_
  | refine fa ?_
  | refine bu ?_
  | refine aZ ?_
  | refine bj ?_
  | refine bh ?_
  | refine bC ?_
  | refine bB ?_
  | refine bv (fun h=>?_) (fun h=>?_)
  | refine bI (fun h=>?_) (fun h=>?_)
  | refine bH ?_
  | refine aC (wc hR _) ?_ (fun a s'=>?_)
  | refine aC (vZ hR _) ?_ (fun a s'=>?_)
  | refine aC (Ga hR _ _) ?_ (fun a s'=>?_)
  | refine aC (Ez hR _ _ _ _) ?_ (fun a s'=>?_)
  | fail)
 all_goals (first | omega | (simp only [aU,aF,aO,aI,aM,bP,N.sizes]; done) | (simp only [aU,aF,aO,aI,aM,bP,N.sizes]; omega))
theorem JH:∀ (k:Nat) (n:N) (s:PSt),Z B l n.size (oV R k n) s N.size:=by
 intro k
 induction k with
 | zero=>intros; exact dH
 | succ k ih =>
  intros
  rename_i n s
  have hn1:=gN n
  unfold oV
  with_reducible repeat' (first
   | refine cu ?_
   | refine dV ?_
   | refine cm (fun _ s'=>?_) (fun _=>?_)
   | refine cC (fun s'=>?_)
   | refine du (fun x s'=>?_)
   | refine fa ?_
   | refine bu ?_
   | refine aZ ?_
   | refine bj ?_
   | refine bh ?_
   | refine bC ?_
   | refine bB ?_
   | refine bv (fun h=>?_) (fun h=>?_)
   | refine bI (fun h=>?_) (fun h=>?_)
   | refine bH ?_
   | refine aC (hR.expr _) (Nat.zero_le _) (fun a s'=>?_)
   | exact bz (hR.expr _) (Nat.zero_le _)
   | refine bz (ih _ _) ?_
   | fail)
  all_goals (first | omega | (simp only [aU,aF,aO,aI,aM,bP,N.sizes]; done) | (simp only [aU,aF,aO,aI,aM,bP,N.sizes]; omega))
theorem JP (n pos:Int) (s:PSt):Z B l 0 (po R n pos) s N.size:=by
 unfold po
 with_reducible repeat' (first
  | refine cC (fun s'=>?_)
  | refine du (fun x s'=>?_)
  | refine bu ?_
  | refine aZ ?_
  | refine bj ?_
  | refine bh ?_
  | refine bC ?_
  | refine bB ?_
  | refine bv (fun h=>?_) (fun h=>?_)
  | refine bI (fun h=>?_) (fun h=>?_)
  | refine bH ?_
  | refine bz (JH hR _ _ _) ?_
  | fail)
 all_goals (first | omega | (simp only [aU,aF,aO,aI,aM,bP,N.sizes]; done) | (simp only [aU,aF,aO,aI,aM,bP,N.sizes]; omega))
theorem JB:∀ (k:Nat) (n:N) (s:PSt),Z B l n.size (jC R k n) s N.size:=by
 intro k
 induction k with
 | zero=>intros; exact dH
 | succ k ih =>
  intros
  rename_i n s
  have hn1:=gN n
  unfold jC
  with_reducible repeat' (first
   | exact gq
   | exact jE
   | refine cu ?_
   | refine dV ?_
   | refine cm (fun _ s'=>?_) (fun _=>?_)
   | refine cC (fun s'=>?_)
   | refine bu ?_
   | refine aZ ?_
   | refine bj ?_
   | refine bh ?_
   | refine bC ?_
   | refine bB ?_
   | refine bv (fun h=>?_) (fun h=>?_)
   | refine bI (fun h=>?_) (fun h=>?_)
   | refine bH ?_
   | refine aC (hR.statement _) (Nat.zero_le _) (fun a s'=>?_)
   | exact bz (hR.statement _) (Nat.zero_le _)
   | (refine aC (hR.declaration _ _) (Nat.zero_le _) (fun o s'=>?_); rcases o with _ | o)
   | refine bz (ih _ _) ?_
   | fail)
  all_goals (first | omega | (simp only [aU,aF,aO,aI,aM,bP,N.sizes]; done) | (simp only [aU,aF,aO,aI,aM,bP,N.sizes]; omega))
theorem Dc (pos:Int) (s:PSt):Z B l 0 (gx R pos) s N.size:=by
 unfold gx
 with_reducible repeat' (first
  | refine cC (fun s'=>?_)
  | refine du (fun x s'=>?_)
  | refine bu ?_
  | refine aZ ?_
  | refine bj ?_
  | refine bh ?_
  | refine bC ?_
  | refine bB ?_
  | refine bv (fun h=>?_) (fun h=>?_)
  | refine bI (fun h=>?_) (fun h=>?_)
  | refine bH ?_
  | refine bz (JB hR _ _ _) ?_
  | fail)
 all_goals (first | omega | (simp only [aU,aF,aO,aI,aM,bP,N.sizes]; done) | (simp only [aU,aF,aO,aI,aM,bP,N.sizes]; omega))
theorem rm (t:Tok) (s:PSt):Z B l 0 (fs R t) s (fun o=>match o with | none=>0 | some n=>n.size):=by
 unfold fs
 with_reducible repeat' (first
  | refine dV ?_
  | refine cm (fun _ s'=>?_) (fun _=>?_)
  | refine cC (fun s'=>?_)
  | refine du (fun x s'=>?_)
  | refine ki (fun t=>?_)
  | refine cd (pg (by assumption)) (fun s'=>?_)
  | refine cd (iT (by assumption) (by decide)) (fun s'=>?_)
  | refine cd (kM (by assumption) (by decide)) (fun s'=>?_)
  | refine jZ (fun s'=>?_)
  | refine bu ?_
  | refine aZ ?_
  | refine bj ?_
  | refine bh ?_
  | refine bC ?_
  | refine bB ?_
  | refine bv (fun h=>?_) (fun h=>?_)
  | refine bI (fun h=>?_) (fun h=>?_)
  | refine bH ?_
  | refine aC (hR.typed _) (Nat.zero_le _) (fun a s'=>?_)
  | exact bz (hR.typed _) (Nat.zero_le _)
  | refine aC (JP hR _ _ _) ?_ (fun a s'=>?_)
  | refine aC (v7 hR _ _ _) ?_ (fun a s'=>?_)
  | refine aC (wU hR _ _ _) ?_ (fun a s'=>?_)
  | refine aC (JD hR _ _) ?_ (fun a s'=>?_)
  | refine aC (Dc hR _ _) ?_ (fun a s'=>?_)
  | refine aC (wc hR _) ?_ (fun a s'=>?_)
  | refine aC (Ga hR _ _) ?_ (fun a s'=>?_)
  | refine aC (rE hR _) ?_ (fun a s'=>?_)
  | fail)
 all_goals (first | omega | (simp only [aU,aF,aO,aI,aM,bP,N.sizes]; done) | (simp only [aU,aF,aO,aI,aM,bP,N.sizes]; omega))
theorem CE (t:Tok) (s:PSt):Z B l 0 (fT R t) s N.size:=by
 unfold fT
 with_reducible repeat' (first
  | refine dV ?_
  | refine cm (fun _ s'=>?_) (fun _=>?_)
  | refine cC (fun s'=>?_)
  | refine bu ?_
  | refine aZ ?_
  | refine bj ?_
  | refine bh ?_
  | refine bC ?_
  | refine bB ?_
  | refine bv (fun h=>?_) (fun h=>?_)
  | refine bI (fun h=>?_) (fun h=>?_)
  | refine bH ?_
  | refine aC (hR.block _) (Nat.zero_le _) (fun a s'=>?_)
  | exact bz (hR.block _) (Nat.zero_le _)
  | refine aC (D8 hR _) ?_ (fun a s'=>?_)
  | refine bz (Ck hR _) ?_
  | refine bz (KN hR _ _) ?_
  | refine bz (Ju hR _ _ _ _) ?_
  | refine bz (Ld hR _ _) ?_
  | fail)
 all_goals (first | omega | (simp only [aU,aF,aO,aI,aM,bP,N.sizes]; done) | (simp only [aU,aF,aO,aI,aM,bP,N.sizes]; omega))
theorem CW (s:PSt):Z B l 0 (iP R) s N.size:=by
 unfold iP
 with_reducible repeat' (first
  | refine cu ?_
  | refine bu ?_
  | refine aZ ?_
  | refine bj ?_
  | refine bh ?_
  | refine bC ?_
  | refine bB ?_
  | refine bv (fun h=>?_) (fun h=>?_)
  | refine bI (fun h=>?_) (fun h=>?_)
  | refine bH ?_
  | (refine aC (rm hR _ _) (Nat.zero_le _) (fun o s'=>?_); rcases o with _ | o)
  | refine bz (CE hR _ _) ?_
  | fail)
 all_goals (first | omega | (simp only [aU,aF,aO,aI,aM,bP,N.sizes]; done) | (simp only [aU,aF,aO,aI,aM,bP,N.sizes]; omega))
theorem JW:∀ (k:Nat) (n:N) (s:PSt),Z B l n.size (sZ R k n) s N.size:=by
 intro k
 induction k with
 | zero=>intros; exact dH
 | succ k ih =>
  intros
  rename_i n s
  have hn1:=gN n
  unfold sZ
  with_reducible repeat' (first
   | refine cu ?_
   | refine bu ?_
   | refine aZ ?_
   | refine bj ?_
   | refine bh ?_
   | refine bC ?_
   | refine bB ?_
   | refine bv (fun h=>?_) (fun h=>?_)
   | refine bI (fun h=>?_) (fun h=>?_)
   | refine bH ?_
   | refine aC (hR.statement _) (Nat.zero_le _) (fun a s'=>?_)
   | exact bz (hR.statement _) (Nat.zero_le _)
   | refine bz (ih _ _) ?_
   | fail)
  all_goals (first | omega | (simp only [aU,aF,aO,aI,aM,bP,N.sizes]; done) | (simp only [aU,aF,aO,aI,aM,bP,N.sizes]; omega))
omit hR in
theorem DD:∀ k:Nat,Hz B l (de k)
 | 0=>⟨fun _=>dH,fun _=>dH,fun _=>dH,fun _=>dH,fun _=>dH,fun _=>dH,fun _ _=>dH⟩
 | k+1=>have h:=DD k; ⟨KA h (KI h),IX h,Jr h,Et h,Ck h,CW h,rm h⟩
omit hR in
theorem Lk {k:Nat} {s':PSt} {n:N} (hs:bV B l (gn l)) (e:lO (de k) 0 (gn l)=some (.ok n s')):n.size≤32 * l.length+1:=by
 have hR:Hz B l (de k):=DD k
 have h:Z B l 1 (lO (de k) 0) (gn l) N.size:=by
  unfold lO wJ
  refine aC (w:=N.size) (c1:=1) (bI (fun _=>bz (JW hR _ _ _) (by simp only [aU,N.sizes]; omega)) fun h=>by cases h) (Nat.le_refl _) fun a s'=>?_
  refine cu (bI (fun _=>jE) fun _=>bH (by omega))
 have h2:=(h hs _ _ e).2
 have hm:mu (gn l)≤4 * l.length:=by
  have:=hs.tk.len
  unfold mu gn
  show 4 * (l.length - 1 - 0)+(if false=true then _ else 3)≤_
  rw [if_neg (by decide)]
  omega
 omega
end
end Go.Proofs.YtjlgcpgjdgeejaaGreatDoor
end

section
namespace Go.Proofs.YtjlgcpgjdgeejaaGreatDoor
open Go
set_option linter.unusedSimpArgs false
set_option linter.unusedVariables false
set_option linter.constructorNameAsVariable false
set_option maxRecDepth 100000
theorem CH {x z:ByteArray} {i:Nat} (h:i < x.size):bN (x++z) i=bN x i:=by
 unfold bN
 rw [gj (x++z) i (by rw [ByteArray.size_append]; omega),gj x i h]
 rw [ByteArray.getElem_append_left h]
theorem zN {x z:ByteArray}:∀ (k i r:Nat),i+k≤x.size→e7 (x++z) k i r=e7 x k i r
 | 0,i,r,h=>rfl
 | k+1,i,r,h=>by
  unfold e7
  rw [CH (by omega),zN k (i+1) _ (by omega)]
theorem JE {x z:ByteArray} (h:(cq x 0).2.2.1=true):cq (x++z) 0=cq x 0:=by
 have h0:¬ x.size≤0:=fun h0=>by unfold cq at h; rw [if_pos h0] at h; cases h
 have h1:¬ (x++z).size≤0:=by rw [ByteArray.size_append]; omega
 have e:=CH (x:=x) (z:=z) (i:=0) (by omega)
 unfold cq at h ⊢
 rw [if_neg h0] at h ⊢
 rw [if_neg h1,e]
 by_cases h2:(ce (bN x 0)).1=0∨x.size - 0 < (ce (bN x 0)).1
 ·rw [if_pos h2] at h; cases h
 ·rw [if_neg h2,if_neg (by rw [ByteArray.size_append]; omega),zN _ _ _ (by omega)]
inductive o5:ByteArray→Prop
 | nil:o5 kE
 | app (a x:ByteArray):o5 a→(cq x 0).2.2.1=true→(cq x 0).2.1.toNat=x.size→o5 (a++x)
theorem IQ {a:ByteArray} (h:o5 a):∃ k,k≤a.size∧∀ (y:ByteArray) (f:Nat),rP (a++y) (f+k) 0=rP (a++y) f a.size:=by
 induction h with
 | nil=>exact ⟨0,Nat.zero_le _,fun y f=>rfl⟩
 | app a x _ h1 h2 ih =>
  obtain ⟨k,hk,ih⟩:=ih
  obtain ⟨n,hn1,hn4,hn⟩:=KM h1
  have hx:x.size=n:=by rw [← h2,hn]; rfl
  refine ⟨k+1,by rw [ByteArray.size_append]; omega,fun y f=>?_⟩
  rw [ByteArray.append_assoc,show f+(k+1)=(f+1)+k by omega,ih (x++y) (f+1)]
  have hsz:(a++(x++y)).size=a.size+(x.size+y.size):=by rw [ByteArray.size_append,ByteArray.size_append]
  have hw:(a++(x++y)).extract a.size (min (a.size+4) (a++(x++y)).size)=x++y.extract 0 (min 4 (x.size+y.size) - x.size):=by
   rw [hsz]
   apply ByteArray.ext
   apply Array.toList_inj.1
   simp only [ByteArray.data_extract,ByteArray.data_append,Array.toList_extract,Array.toList_append,List.extract_eq_take_drop]
   have e1:a.data.toList.length=a.size:=mq a
   have e2:x.data.toList.length=x.size:=mq x
   rw [List.drop_append,List.drop_of_length_le (by omega),e1,Nat.sub_self,List.drop_zero,List.nil_append,List.take_append,List.take_of_length_le (by omega),e2,List.drop_zero]
   congr 2
   omega
  show (if (a++(x++y)).size≤a.size then true else if (cq ((a++(x++y)).extract a.size (min (a.size+4) (a++(x++y)).size)) 0).2.2.1 then rP (a++(x++y)) f (a.size+(cq ((a++(x++y)).extract a.size (min (a.size+4) (a++(x++y)).size)) 0).2.1.toNat) else false)=_
  rw [if_neg (by omega),hw,JE h1,if_pos h1,h2,ByteArray.size_append]
theorem CG {a:ByteArray} (h:o5 a):wW a=true:=by
 obtain ⟨k,hk,h⟩:=IQ h
 have e:a++kE=a:=by apply ByteArray.ext; rw [ByteArray.data_append]; show _++#[]=_; simp
 have:=h kE (a.size+1 - k)
 rw [e,show a.size+1 - k+k=a.size+1 by omega] at this
 unfold wW
 rw [this]
 cases a.size+1 - k with
 | zero=>exact decide_eq_true (Nat.le_refl _)
 | succ f=>exact if_pos (Nat.le_refl _)
theorem DO {b:ByteArray} {c:Nat} (hb:b.size=1) (h0:bN b 0=c) (hc:c < 128):(cq b 0).2.2.1=true∧(cq b 0).2.1.toNat=1:=by
 have hw:ce c=(1,c):=if_pos hc
 unfold cq
 rw [if_neg (by omega),h0,hw,if_neg (show ¬ ((1:Nat)=0∨b.size - 0 < 1) by omega)]
 exact ⟨rfl,rfl⟩
theorem jB {n:Nat} (h:n < 256):(UInt8.ofNat n).toNat=n:=by simp; omega
theorem iL (a:Array UInt8) (i:Nat) (h:i < a.size):bN ⟨a⟩ i=a[i].toNat:=by
 unfold bN
 rw [gj ⟨a⟩ i h]
 rfl
theorem Jj {b:ByteArray} {c:Nat} (hb:b.size=2) (h0:bN b 0=0xC0+c / 64) (h1:bN b 1=0x80+c % 64) (hc:128≤c) (hc2:c < 2048):(cq b 0).2.2.1=true∧(cq b 0).2.1.toNat=2:=by
 have hw:ce (0xC0+c / 64)=(2,(0xC0+c / 64) % 32):=by unfold ce; rw [if_neg (by omega),if_pos (by omega)]
 have hv:((0xC0+c / 64) % 32) * 64+(0x80+c % 64) % 64=c:=by omega
 have hcv:e7 b 1 1 ((0xC0+c / 64) % 32)=some c:=by
  show (if bN b 1 / 64=2 then some ((0xC0+c / 64) % 32 * 64+bN b 1 % 64) else none)=_
  rw [h1,if_pos (by omega),hv]
 have hd:cq b 0=((c:Int),((2:Nat):Int),true,()):=by
  unfold cq
  rw [if_neg (by omega),h0,hw,if_neg (show ¬ ((2:Nat)=0∨b.size - 0 < 2) by omega)]
  show (match e7 b 1 1 ((0xC0+c / 64) % 32) with | none=>badV | some r=>if ib r ((2:Nat):Int) then ((r:Int),((2:Nat):Int),true,()) else badV)=_
  rw [hcv]
  exact if_pos (by unfold ib; rw [if_neg (by decide),if_pos (by decide)]; exact decide_eq_true (by omega))
 rw [hd]; exact ⟨rfl,rfl⟩
theorem Fz {b:ByteArray} {c:Nat} (hb:b.size=3) (h0:bN b 0=0xE0+c / 4096) (h1:bN b 1=0x80+c / 64 % 64) (h2:bN b 2=0x80+c % 64) (hc:2048≤c) (hc2:c < 65536) (hs:¬ (55296≤c∧c≤57343)):(cq b 0).2.2.1=true∧(cq b 0).2.1.toNat=3:=by
 have hw:ce (0xE0+c / 4096)=(3,(0xE0+c / 4096) % 16):=by unfold ce; rw [if_neg (by omega),if_neg (by omega),if_pos (by omega)]
 have hv:(((0xE0+c / 4096) % 16) * 64+(0x80+c / 64 % 64) % 64) * 64+(0x80+c % 64) % 64=c:=by omega
 have hcv:e7 b 2 1 ((0xE0+c / 4096) % 16)=some c:=by
  show (if bN b 1 / 64=2 then (if bN b 2 / 64=2 then some (((0xE0+c / 4096) % 16 * 64+bN b 1 % 64) * 64+bN b 2 % 64) else none) else none)=_
  rw [h1,h2,if_pos (by omega),if_pos (by omega),hv]
 have hd:cq b 0=((c:Int),((3:Nat):Int),true,()):=by
  unfold cq
  rw [if_neg (by omega),h0,hw,if_neg (show ¬ ((3:Nat)=0∨b.size - 0 < 3) by omega)]
  show (match e7 b 2 1 ((0xE0+c / 4096) % 16) with | none=>badV | some r=>if ib r ((3:Nat):Int) then ((r:Int),((3:Nat):Int),true,()) else badV)=_
  rw [hcv]
  refine if_pos ?_
  unfold ib
  rw [if_neg (by decide),if_neg (by decide),if_pos (by decide),decide_eq_true (show (2048:Int)≤(c:Int) by omega),Bool.true_and]
  by_cases h4:c < 55296
  ·rw [decide_eq_true (show (c:Int) < 55296 by omega)]; rfl
  ·rw [decide_eq_true (show (57343:Int) < (c:Int) by omega),Bool.or_true]
 rw [hd]; exact ⟨rfl,rfl⟩
theorem Hv {b:ByteArray} {c:Nat} (hb:b.size=4) (h0:bN b 0=0xF0+c / 262144) (h1:bN b 1=0x80+c / 4096 % 64) (h2:bN b 2=0x80+c / 64 % 64) (h3:bN b 3=0x80+c % 64) (hc:65536≤c) (hc2:c≤1114111):(cq b 0).2.2.1=true∧(cq b 0).2.1.toNat=4:=by
 have hw:ce (0xF0+c / 262144)=(4,(0xF0+c / 262144) % 8):=by unfold ce; rw [if_neg (by omega),if_neg (by omega),if_neg (by omega),if_pos (by omega)]
 have hv:((((0xF0+c / 262144) % 8) * 64+(0x80+c / 4096 % 64) % 64) * 64+(0x80+c / 64 % 64) % 64) * 64+(0x80+c % 64) % 64=c:=by omega
 have hcv:e7 b 3 1 ((0xF0+c / 262144) % 8)=some c:=by
  show (if bN b 1 / 64=2 then (if bN b 2 / 64=2 then (if bN b 3 / 64=2 then some ((((0xF0+c / 262144) % 8 * 64+bN b 1 % 64) * 64+bN b 2 % 64) * 64+bN b 3 % 64) else none) else none) else none)=_
  rw [h1,h2,h3,if_pos (by omega),if_pos (by omega),if_pos (by omega),hv]
 have hd:cq b 0=((c:Int),((4:Nat):Int),true,()):=by
  unfold cq
  rw [if_neg (by omega),h0,hw,if_neg (show ¬ ((4:Nat)=0∨b.size - 0 < 4) by omega)]
  show (match e7 b 3 1 ((0xF0+c / 262144) % 8) with | none=>badV | some r=>if ib r ((4:Nat):Int) then ((r:Int),((4:Nat):Int),true,()) else badV)=_
  rw [hcv]
  refine if_pos ?_
  unfold ib
  rw [if_neg (by decide),if_neg (by decide),if_neg (by decide),decide_eq_true (show (65536:Int)≤(c:Int) by omega),decide_eq_true (show (c:Int)≤1114111 by omega)]; rfl
 rw [hd]; exact ⟨rfl,rfl⟩
theorem DQ (r:Int):(cq (Utf8.encode r) 0).2.2.1=true∧(cq (Utf8.encode r) 0).2.1.toNat=(Utf8.encode r).size:=by
 have h:∀ c:Nat,c≤1114111→¬ (55296≤c∧c≤57343)→∀ x:ByteArray,x=(if c < 0x80 then (⟨#[UInt8.ofNat c]⟩:ByteArray) else if c < 0x800 then ⟨#[UInt8.ofNat (0xC0+c / 64),UInt8.ofNat (0x80+c % 64)]⟩ else if c < 0x10000 then ⟨#[UInt8.ofNat (0xE0+c / 4096),UInt8.ofNat (0x80+c / 64 % 64),UInt8.ofNat (0x80+c % 64)]⟩
   else ⟨#[UInt8.ofNat (0xF0+c / 262144),UInt8.ofNat (0x80+c / 4096 % 64),UInt8.ofNat (0x80+c / 64 % 64),UInt8.ofNat (0x80+c % 64)]⟩)→(cq x 0).2.2.1=true∧(cq x 0).2.1.toNat=x.size:=by
  intro c hc hs x hx
  split at hx
  ·rename_i h1
   have hsz:x.size=1:=by rw [hx]; rfl
   have e0:bN x 0=c:=by rw [hx,iL _ 0 (by show 0 < 1; decide)]; exact jB (by omega)
   rw [hsz]; exact DO hsz e0 h1
  split at hx
  ·rename_i h1 h2
   have hsz:x.size=2:=by rw [hx]; rfl
   have e0:bN x 0=0xC0+c / 64:=by rw [hx,iL _ 0 (by show 0 < 2; decide)]; exact jB (by omega)
   have e1:bN x 1=0x80+c % 64:=by rw [hx,iL _ 1 (by show 1 < 2; decide)]; exact jB (by omega)
   rw [hsz]; exact Jj hsz e0 e1 (by omega) (by omega)
  split at hx
  ·rename_i h1 h2 h3
   have hsz:x.size=3:=by rw [hx]; rfl
   have e0:bN x 0=0xE0+c / 4096:=by rw [hx,iL _ 0 (by show 0 < 3; decide)]; exact jB (by omega)
   have e1:bN x 1=0x80+c / 64 % 64:=by rw [hx,iL _ 1 (by show 1 < 3; decide)]; exact jB (by omega)
   have e2:bN x 2=0x80+c % 64:=by rw [hx,iL _ 2 (by show 2 < 3; decide)]; exact jB (by omega)
   rw [hsz]; exact Fz hsz e0 e1 e2 (by omega) (by omega) hs
  ·rename_i h1 h2 h3
   have hsz:x.size=4:=by rw [hx]; rfl
   have e0:bN x 0=0xF0+c / 262144:=by rw [hx,iL _ 0 (by show 0 < 4; decide)]; exact jB (by omega)
   have e1:bN x 1=0x80+c / 4096 % 64:=by rw [hx,iL _ 1 (by show 1 < 4; decide)]; exact jB (by omega)
   have e2:bN x 2=0x80+c / 64 % 64:=by rw [hx,iL _ 2 (by show 2 < 4; decide)]; exact jB (by omega)
   have e3:bN x 3=0x80+c % 64:=by rw [hx,iL _ 3 (by show 3 < 4; decide)]; exact jB (by omega)
   rw [hsz]; exact Hv hsz e0 e1 e2 e3 (by omega) hc
 have hc:(if Utf8.valid r then r.toNat else Utf8.runeError)≤1114111∧¬ (55296≤(if Utf8.valid r then r.toNat else Utf8.runeError)∧(if Utf8.valid r then r.toNat else Utf8.runeError)≤57343):=by
  cases hv:Utf8.valid r with
  | false=>rw [if_neg (by decide)]; decide
  | true =>
   rw [if_pos rfl]
   unfold Utf8.valid at hv
   simp only [Bool.or_eq_true,Bool.and_eq_true,decide_eq_true_eq] at hv
   omega
 exact h _ hc.1 hc.2 _ rfl
theorem Id {a:ByteArray} (h:o5 a) (r:Int):o5 (a++Utf8.encode r):=.app a _ h (DQ r).1 (DQ r).2
theorem rL {a:ByteArray} (h:o5 a) {c:Int} (h0:0≤c) (hc:c < 128):o5 (a++gC c):=by
 have e:bN (gC c) 0=c.toNat:=by
  unfold gC; rw [iL _ 0 (by show 0 < 1; decide)]; show c.toNat.toUInt8.toNat=_; simp; omega
 have:=DO (b:=gC c) rfl e (by omega)
 exact .app a _ h this.1 this.2
theorem FJ {b:ByteArray} {i:Nat} {out:ByteArray} (h:o5 out):o5 (cN b i out).2.1:=by
 unfold cN
 split
 ·exact Id h _
 split
 ·exact h
 unfold xM
 have hbr:=mj b (i+1)
 split; · exact rL h (by decide) (by decide)
 split; · exact rL h (by decide) (by decide)
 split; · exact rL h (by decide) (by decide)
 split; · exact rL h (by decide) (by decide)
 split
 ·rename_i h5
  refine rL h hbr.1 ?_
  simp only [Bool.or_eq_true,beq_iff_eq] at h5
  omega
 split
 ·unfold lT
  split
  ·unfold oL
   split
   ·exact h
   ·exact Id h _
  ·exact h
 ·exact h
structure wQ (b:ByteArray) (i:Nat) (t:Tok):Prop where
 pos:t.pos=(i:Int)
 fin:(i:Int) < t.fin∧t.fin≤b.size
 good:wW t.text=true
 size:t.text.size≤4 * b.size
theorem tZ (b:ByteArray) (e:Int):∀ (f i:Nat) (out:ByteArray) (j:Nat) (o:ByteArray),o5 out→out.size≤4 * i→gL b e f i out=some (j,o)→i≤j∧j < b.size∧o5 o∧o.size≤4 * j
 | 0,i,out,j,o,hu,hz,h=>by cases h
 | f+1,i,out,j,o,hu,hz,h=>by
  unfold gL at h
  by_cases h1:i < b.size
  ·rw [if_pos h1] at h
   split at h
   ·cases h; exact ⟨Nat.le_refl _,h1,hu,hz⟩
   split at h
   ·cases h
   split at h
   ·rename_i h4
    have hs:=pj h1 h4
    obtain ⟨g1,g2,g3,g4⟩:=tZ b e f _ _ j o (FJ hu) (by omega) h
    exact ⟨by omega,g2,g3,g4⟩
   ·cases h
  ·rw [if_neg h1] at h; cases h
theorem EB (b:ByteArray) (e:Int) (i:Nat):gZ b e i=bt∨((gZ b e i).kind=4∧wQ b i (gZ b e i)):=by
 unfold gZ
 cases h:gL b e (b.size+1) (i+1) kE with
 | none=>exact .inl rfl
 | some x =>
  obtain ⟨j,o⟩:=x
  obtain ⟨g1,g2,g3,g4⟩:=tZ b e _ _ _ j o .nil (Nat.zero_le _) h
  exact .inr ⟨rfl,rfl,⟨by show (i:Int) < (j:Int)+1; omega,by show (j:Int)+1≤b.size; omega⟩,CG g3,by show o.size≤_; omega⟩
theorem wo (b:ByteArray) (p:Nat) (ends goes:Int):∀ (f i:Nat) (out:ByteArray),o5 out→out.size≤4 * i→p < i→gh b p ends goes f i out=bt∨(((gh b p ends goes f i out).kind=ends∨(gh b p ends goes f i out).kind=goes)∧wQ b p (gh b p ends goes f i out))
 | 0,i,out,hu,hz,hp=>.inl rfl
 | f+1,i,out,hu,hz,hp=>by
  unfold gh
  by_cases h1:i < b.size
  ·rw [if_pos h1]
   split
   ·exact .inr ⟨.inl rfl,rfl,⟨by show (p:Int) < (i:Int)+1; omega,by show (i:Int)+1≤b.size; omega⟩,CG hu,by show out.size≤_; omega⟩
   split
   ·rename_i h3
    have:=tg h3
    have h2:k_dol_lc.size=2:=by kernel_rfl
    exact .inr ⟨.inr rfl,rfl,⟨by show (p:Int) < (i:Int)+2; omega,by show (i:Int)+2≤b.size; omega⟩,CG hu,by show out.size≤_; omega⟩
   split
   ·rename_i h4
    have hs:=pj h1 h4
    exact wo b p ends goes f _ _ (FJ hu) (by omega) (by omega)
   ·exact .inl rfl
  ·rw [if_neg h1]; exact .inl rfl
theorem zO (b:ByteArray) (ends goes:Int) (i:Nat):dq b ends goes i=bt∨(((dq b ends goes i).kind=ends∨(dq b ends goes i).kind=goes)∧wQ b i (dq b ends goes i)) :=
 wo b i ends goes _ _ _ .nil (Nat.zero_le _) (by omega)
end Go.Proofs.YtjlgcpgjdgeejaaGreatDoor
end
