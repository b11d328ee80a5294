/- A part of the claim: general tools, trees of the program, and what its functions come to (PExprs to PLaid). Conditions: as its theorems say. -/
import Derived.Test.YtjlgcpgjdgeejaaGreatDoorClB
import Derived.Laws.Slices
import Derived.Test.YtjlgcpgjdgeejaaGreatDoorProg

section
namespace Go.Proofs.YtjlgcpgjdgeejaaGreatDoor
open Go
set_option linter.unusedSimpArgs false
set_option linter.unusedVariables false
set_option linter.constructorNameAsVariable false
set_option maxRecDepth 100000
theorem DO {ε σ:Type} (I:av ε σ) (s:ByteArray):Meets PG I (aa iw #[.string s]) tI (Pure.pure (gY s)) aJ []:=by
 refine wC s ?_
 unfold k4
 have fin:∀ (c:Int),c=gY s→Sim PG I tI (pl aJ) noLabel none (.ret #[.v (.int .i64 c)]) (Pure.pure (gY s)) [] []:=fun c hc=>ay (t:=tI) c rfl (fun F _=>hc)
 refine qE (fun h1=>fin _ (by unfold gY; rw [h1]; rfl)) fun h1=>?_
 refine qE (fun h2=>fin _ (by unfold gY; rw [h1,h2]; rfl)) fun h2=>?_
 refine qE (fun h3=>fin _ (by unfold gY; rw [h1,h2,h3]; rfl)) fun h3=>?_
 refine qE (fun h4=>fin _ (by unfold gY; rw [h1,h2,h3,h4]; rfl)) fun h4=>?_
 refine qE (fun h5=>fin _ (by unfold gY; rw [h1,h2,h3,h4,h5]; rfl)) fun h5=>?_
 exact fin _ (by unfold gY; rw [h1,h2,h3,h4,h5]; rfl)
theorem Ef (pb:Nat):Meets PG (PI pb) (aa kS #[.pointer (some (aL pb))]) tB Bo aJ []:=by
 refine xM (aL pb) ?_
 unfold kA Bo
 (with_reducible repeat (first | refine sA ?_ | refine sB ?_ | refine sC ?_ | refine sD ?_ | refine sE ?_ | refine sF ?_))
 first | refine ag (aZ _) (fun _ h=>nomatch h) fun r1 b=>Sim.prop fun h=>?_ | refine af (aZ _) (fun _ h=>nomatch h) fun r1 b=>Sim.prop fun h=>?_
 subst h
 (with_reducible repeat (first | refine sA ?_ | refine sB ?_ | refine sC ?_ | refine sD ?_ | refine sE ?_ | refine sF ?_))
 (first | refine qA (fun h=>?_) fun h=>?_ | refine qB (fun h=>?_) fun h=>?_ | refine qC (fun h=>?_) fun h=>?_ | refine qD (fun h=>?_) fun h=>?_ | refine qE (fun h=>?_) fun h=>?_) -- ((r1.1:Int)==1)
 ·skip
  (with_reducible repeat (first | refine sA ?_ | refine sB ?_ | refine sC ?_ | refine sD ?_ | refine sE ?_ | refine sF ?_))
  first | refine ag (eE _ _ (by decide) (by decide)) (fun _ h=>nomatch h) fun r2 b=>Sim.prop fun h=>?_ | refine af (eE _ _ (by decide) (by decide)) (fun _ h=>nomatch h) fun r2 b=>Sim.prop fun h=>?_
  subst h
  refine fp (i5 _ _ _) (fun _ h=>nomatch h) ?_
  exact ay (t:=tB) _ rfl (fun F _=>rfl)
 ·skip
  (with_reducible repeat (first | refine sA ?_ | refine sB ?_ | refine sC ?_ | refine sD ?_ | refine sE ?_ | refine sF ?_))
  first | refine ag (cc _ _) (fun _ h=>nomatch h) fun r4 b=>Sim.prop fun h=>?_ | refine af (cc _ _) (fun _ h=>nomatch h) fun r4 b=>Sim.prop fun h=>?_
  subst h
  (with_reducible repeat (first | refine sA ?_ | refine sB ?_ | refine sC ?_ | refine sD ?_ | refine sE ?_ | refine sF ?_))
  (first | refine qA (fun h=>?_) fun h=>?_ | refine qB (fun h=>?_) fun h=>?_ | refine qC (fun h=>?_) fun h=>?_ | refine qD (fun h=>?_) fun h=>?_ | refine qE (fun h=>?_) fun h=>?_) -- r4
  ·skip
   (with_reducible repeat (first | refine sA ?_ | refine sB ?_ | refine sC ?_ | refine sD ?_ | refine sE ?_ | refine sF ?_))
   first | refine ag (qS _) (fun _ h=>nomatch h) fun r5 b=>Sim.prop fun h=>?_ | refine af (qS _) (fun _ h=>nomatch h) fun r5 b=>Sim.prop fun h=>?_
   subst h
   refine fp (i5 _ _ _) (fun _ h=>nomatch h) ?_
   exact ay (t:=tB) _ rfl (fun F _=>rfl)
  ·skip
   (with_reducible repeat (first | refine sA ?_ | refine sB ?_ | refine sC ?_ | refine sD ?_ | refine sE ?_ | refine sF ?_))
   first | refine ag (cc _ _) (fun _ h=>nomatch h) fun r7 b=>Sim.prop fun h=>?_ | refine af (cc _ _) (fun _ h=>nomatch h) fun r7 b=>Sim.prop fun h=>?_
   subst h
   exact ay (t:=tB) _ rfl (fun F _=>rfl)
theorem m7 {R:aY} (hR:cm R) (pb:Nat):Meets PG (PI pb) (aa f7 #[.pointer (some (aL pb))]) tP (pA R) NodeF []:=by
 refine ye (aL pb) ?_
 unfold kV pA
 (with_reducible repeat (first | refine sA ?_ | refine sB ?_ | refine sC ?_ | refine sD ?_ | refine sE ?_ | refine sF ?_))
 first | refine ag (aG _ _) (fun _ h=>nomatch h) fun x b=>?_ | refine af (aG _ _) (fun _ h=>nomatch h) fun x b=>?_
 (with_reducible repeat (first | refine sA ?_ | refine sB ?_ | refine sC ?_ | refine sD ?_ | refine sE ?_ | refine sF ?_))
 first | refine ag (eX _) (fun _ h=>nomatch h) fun r2 nr2=>?_ | refine af (eX _) (fun _ h=>nomatch h) fun r2 nr2=>?_
 (with_reducible repeat (first | refine sA ?_ | refine sB ?_ | refine sC ?_ | refine sD ?_ | refine sE ?_ | refine sF ?_))
 first | refine ag (cc _ _) (fun _ h=>nomatch h) fun r3 b=>Sim.prop fun h=>?_ | refine af (cc _ _) (fun _ h=>nomatch h) fun r3 b=>Sim.prop fun h=>?_
 subst h
 (with_reducible repeat (first | refine sA ?_ | refine sB ?_ | refine sC ?_ | refine sD ?_ | refine sE ?_ | refine sF ?_))
 (first | refine qA (fun h=>?_) fun h=>?_ | refine qB (fun h=>?_) fun h=>?_ | refine qC (fun h=>?_) fun h=>?_ | refine qD (fun h=>?_) fun h=>?_ | refine qE (fun h=>?_) fun h=>?_) -- (!r3)
 ·skip
  (with_reducible repeat (first | refine sA ?_ | refine sB ?_ | refine sC ?_ | refine sD ?_ | refine sE ?_ | refine sF ?_))
  first | refine iC (gG pb _ _ R.fuel (Nat.le_trans hR.fuel (by decide)) (MeetsO.congr (fA _ _) (hR.expr _))) (fun _ h=>nomatch h) fun r4 nr4 Kr4=>?_ | refine k7 (gG pb _ _ R.fuel (Nat.le_trans hR.fuel (by decide)) (MeetsO.congr (fA _ _) (hR.expr _))) (fun _ h=>nomatch h) fun r4 nr4 Kr4=>?_
  refine c7 (by repeat (first | exact mz | apply ms)) ?_
  (with_reducible repeat (first | refine sA ?_ | refine sB ?_ | refine sC ?_ | refine sD ?_ | refine sE ?_ | refine sF ?_))
  first | refine ag (aG _ _) (fun _ h=>nomatch h) fun x b=>?_ | refine af (aG _ _) (fun _ h=>nomatch h) fun x b=>?_
  (with_reducible repeat (first | refine sA ?_ | refine sB ?_ | refine sC ?_ | refine sD ?_ | refine sE ?_ | refine sF ?_))
  exact ay (t:=tP) _ rfl (fun F hF=>hF _ (by repeat (first | exact mz | apply ms)))
 ·skip
  (with_reducible repeat (first | refine sA ?_ | refine sB ?_ | refine sC ?_ | refine sD ?_ | refine sE ?_ | refine sF ?_))
  first | refine ag (aG _ _) (fun _ h=>nomatch h) fun x b=>?_ | refine af (aG _ _) (fun _ h=>nomatch h) fun x b=>?_
  (with_reducible repeat (first | refine sA ?_ | refine sB ?_ | refine sC ?_ | refine sD ?_ | refine sE ?_ | refine sF ?_))
  exact ay (t:=tP) _ rfl (fun F hF=>hF _ (by repeat (first | exact mz | apply ms)))
theorem wt {R:aY} (hR:cm R) (pb:Nat):Meets PG (PI pb) (aa iR #[.pointer (some (aL pb))]) tP (rE R) NodeF []:=by
 refine tf (aL pb) ?_
 unfold iS rE
 refine ag (cZ _) (fun _ h=>nomatch h) fun r1 b=>Sim.prop fun h=>?_
 subst h
 refine aQ (bF (z:=[.int .i64 0,.string kE,.int .i64 0,.int .i64 0]) (by kernel_rfl)) ?_
 rintro _ _ _ ⟨b2,rfl,rfl,rfl⟩
 refine aQ (a6 (L1:=[]) (T:=ae) (c:=true) rfl (by kernel_rfl) rfl (Nat.le_of_ble_eq_true rfl) (by simp [Value.cells,Value.oneCell'])) ?_
 rintro _ _ _ ⟨rfl,rfl⟩
 show Sim PG (PI pb) tP (pl NodeF) noLabel none _ _ [(b2,aq ae (aO r1))] _
 refine c8 [(b2,aq ae (aO r1))] (fun p hp=>hp) ?_
 refine cX (t1:=tI) (Tok.pos r1) (bR (QRd.own (List.mem_cons_self ..)) (by kernel_rfl) rfl rfl) ?_
 refine cX (t1:=tS) (Tok.text r1) (bR (QRd.own (List.mem_cons_self ..)) (by kernel_rfl) rfl rfl) ?_
 refine cX (t1:=tI) (Tok.pos r1) (bR (QRd.own (List.mem_cons_self ..)) (by kernel_rfl) rfl rfl) ?_
 refine gq fun r7=>?_
 refine dP (rK [r7] rfl (by decide) (by decide) (by kernel_rfl)) ?_
 rintro x _ _ ⟨K2,rfl,rfl,hb⟩
 refine ⟨fun p hp=>List.mem_append_right _ hp,?_⟩
 refine dP (uG _ _ _ _ x) ?_
 rintro _ _ _ ⟨bx,rfl,rfl,rfl⟩
 refine ⟨fun p hp=>List.mem_cons_of_mem _ (List.mem_append_right _ hp),?_⟩
 refine Sim.know (A:=cR (bw 12 kE 0 (Tok.pos r1) [bw 11 (Tok.text r1) 0 (Tok.pos r1) []]) (some ⟨bx,0,none⟩) (cb bx (bw 12 kE 0 (Tok.pos r1) [bw 11 (Tok.text r1) 0 (Tok.pos r1) []]) x::K2)) (fun F hF=>⟨bx,x,[r7],K2,⟨rfl,rfl,hb⟩,NodesAt.one (hF _ (by repeat (first | exact mz | apply ms)))⟩) ?_
 refine nw (δ:=Tok × N) (fun k d=>no R k d.1 d.2) (fun k d vs L'=>Fact.ex fun K:al=>(Fact.prop (vs=[]∧L'=K++[(b2,aq ae (aO d.1))]∧d.2.kids.length+2 * k≤2199023255552)).both (cR d.2 (some ⟨bx,0,none⟩) K)) R.fuel (r1,_) (fun _=>rfl) rfl
  (fun F hF=>⟨cb bx _ x::K2,⟨rfl,rfl,by have:=hR.fuel; show 1+2 * R.fuel≤_; omega⟩,hF _ (List.mem_cons_self ..)⟩) (by rintro k d vs L' F ⟨K,⟨rfl,_⟩,_⟩; exact ⟨(),rfl⟩) ?_
 rintro k ⟨t,n⟩ L' ⟨⟩
 refine Sim.ex fun K=>Sim.both (Sim.prop fun ⟨_,hL,hn⟩=>?_)
 subst hL
 simp only at hn
 have hm:(b2,aq ae (aO t))∈K++[(b2,aq ae (aO t))]:=List.mem_append_right _ (List.mem_cons_self ..)
 refine jA (s':=fun c=>cond c (do
   let x ← R.expr
   let u ← cg
   cond (u.kind != 7&&u.kind != 8) cD do
    let v ← d2
    no R k v ((n.push x).push (bw 11 v.text 0 v.pos []))) (pure n)) ?_ fun x13=>?_
 ·refine aQ (cN (b1:=.int .i64) (x:=Tok.kind t) (Rd.own hm) (by kernel_rfl) rfl rfl) ?_
  rintro _ _ _ ⟨rfl,rfl,rfl⟩
  refine qE (fun h=>?_) (fun h=>?_)
  ·refine aQ (cN (b1:=.int .i64) (x:=Tok.kind t) (Rd.own hm) (by kernel_rfl) rfl rfl) ?_
   rintro _ _ _ ⟨rfl,rfl,rfl⟩
   exact aV _ rfl (by show cond (Tok.kind t != 5&&Tok.kind t != 8) _ _=_; rw [show (Tok.kind t != 5)=true from h,Bool.true_and])
  ·exact aV _ rfl (by show cond (Tok.kind t != 5&&Tok.kind t != 8) _ _=_; rw [show (Tok.kind t != 5)=false from h,Bool.false_and])
 ·refine qA (fun h=>?_) (fun h=>?_)
  ·refine ws [(b2,aq ae (aO t))] (fun p hp=>hp) (by repeat (first | exact mz | apply ms)) fun b sl ps K2 hx hb=>?_
   refine dT (hR.expr _) (fun _ h=>nomatch h) fun r16 nr16=>?_
   obtain rfl:bx=b:=by cases hx; rfl
   refine yI (fun p hp=>hp) hb (by repeat (first | exact mz | apply ms)) (by repeat (first | exact mz | apply ms)) (by omega) fun K=>?_
   refine ag (aZ _) (fun _ h=>nomatch h) fun r21 b=>Sim.prop fun h=>?_
   subst h
   refine jA (s':=fun c=>cond c cD do
    let v ← d2
    no R k v ((n.push nr16).push (bw 11 v.text 0 v.pos []))) ?_ fun x22=>?_
   ·refine qE (fun h=>?_) (fun h=>?_)
    ·exact aV _ rfl (by rw [show (Tok.kind r21 != 7)=true from h,Bool.true_and]; rfl)
    ·exact aV _ rfl (by rw [show (Tok.kind r21 != 7)=false from h,Bool.false_and])
   ·first | refine jK ?_ ?_ | refine fB cD ?_ ?_
    ·refine qA (fun h=>?_) (fun h=>?_)
     ·exact dV (β1:=Unit) (Rel1:=fun _ _ _=>Fact.prop True) (fS _) (fun _ h=>nomatch h) (by first | exact dW | exact ed _)
     ·exact gc rfl rfl
    ·refine ag (cZ _) (fun _ h=>nomatch h) fun r25 b=>Sim.prop fun h=>?_
     subst h
     refine aQ (a6 (L1:=K) (L2:=[]) (T:=ae) (c:=true) rfl (by kernel_rfl) rfl (Nat.le_of_ble_eq_true rfl) (by simp [Value.cells,Value.oneCell'])) ?_
     rintro _ _ _ ⟨rfl,rfl⟩
     show Sim PG (PI pb) tP (pl NodeF) _ none _ _ (K++[(b2,aq ae (aO r25))]) _
     refine ws [(b2,aq ae (aO r25))] (fun p hp=>hp) (by repeat (first | exact mz | apply ms)) fun b sl ps K2 hx hb=>?_
     refine cX (t1:=tS) (Tok.text r25) (bR (QRd.own (List.mem_cons_of_mem _ (List.mem_cons_self ..))) (by kernel_rfl) rfl rfl) ?_
     refine cX (t1:=tI) (Tok.pos r25) (bR (QRd.own (List.mem_cons_of_mem _ (List.mem_cons_self ..))) (by kernel_rfl) rfl rfl) ?_
     refine gq fun r31=>?_
     obtain rfl:bx=b:=by cases hx; rfl
     refine yI (fun p hp=>hp) hb (by repeat (first | exact mz | apply ms)) (by repeat (first | exact mz | apply ms)) (by rw [N.push_len]; omega) fun K=>?_
     refine ct rfl ⟨(k,(r25,(n.push nr16).push (bw 11 (Tok.text r25) 0 (Tok.pos r25) []))),Nat.lt_succ_self k⟩ rfl fun F hF=>⟨K,⟨rfl,rfl,?_⟩,hF _ (List.mem_cons_self ..)⟩
     simp only [N.push_len]; omega
  ·refine c7 (n:=n) (by repeat (first | exact mz | apply ms)) ?_
   exact ay (t:=tP) _ rfl (fun F hF=>hF _ (by repeat (first | exact mz | apply ms)))
theorem Cy {R:aY} (hR:cm R) (pb:Nat):Meets PG (PI pb) (aa j6 #[.pointer (some (aL pb))]) tP (xE R) NodeF []:=by
 refine vu (aL pb) ?_
 unfold jL xE
 (with_reducible repeat (first | refine sA ?_ | refine sB ?_ | refine sC ?_ | refine sD ?_ | refine sE ?_ | refine sF ?_))
 first | refine ag (aZ _) (fun _ h=>nomatch h) fun r1 b=>Sim.prop fun h=>?_ | refine af (aZ _) (fun _ h=>nomatch h) fun r1 b=>Sim.prop fun h=>?_
 subst h
 refine gb fun r2 Kr2=>?_
 (with_reducible repeat (first | refine sA ?_ | refine sB ?_ | refine sC ?_ | refine sD ?_ | refine sE ?_ | refine sF ?_))
 first | refine ag (aG _ _) (fun _ h=>nomatch h) fun x b=>?_ | refine af (aG _ _) (fun _ h=>nomatch h) fun x b=>?_
 refine lI (fun n=>do bC k_rc; pure n) r2 [] ?_ fun n K=>?_
 ·skip
  refine gX (CA R) R.fuel _ (fun _=>rfl) rfl (by have:=hR.fuel; simp [bw,N.kids]; omega) (by repeat (first | exact mz | apply ms)) fun k n K hn=>?_
  (with_reducible repeat (first | refine sA ?_ | refine sB ?_ | refine sC ?_ | refine sD ?_ | refine sE ?_ | refine sF ?_))
  first | refine ag (cc _ _) (fun _ h=>nomatch h) fun r5 b=>Sim.prop fun h=>?_ | refine af (cc _ _) (fun _ h=>nomatch h) fun r5 b=>Sim.prop fun h=>?_
  subst h
  (with_reducible repeat (first | refine sA ?_ | refine sB ?_ | refine sC ?_ | refine sD ?_ | refine sE ?_ | refine sF ?_))
  (first | refine qA (fun h=>?_) fun h=>?_ | refine qB (fun h=>?_) fun h=>?_ | refine qC (fun h=>?_) fun h=>?_ | refine qD (fun h=>?_) fun h=>?_ | refine qE (fun h=>?_) fun h=>?_) -- (!r5)
  ·skip
   (with_reducible repeat (first | refine sA ?_ | refine sB ?_ | refine sC ?_ | refine sD ?_ | refine sE ?_ | refine sF ?_))
   first | refine ag (aZ _) (fun _ h=>nomatch h) fun r6 b=>Sim.prop fun h=>?_ | refine af (aZ _) (fun _ h=>nomatch h) fun r6 b=>Sim.prop fun h=>?_
   subst h
   (with_reducible repeat (first | refine sA ?_ | refine sB ?_ | refine sC ?_ | refine sD ?_ | refine sE ?_ | refine sF ?_))
   first | refine ag (bU _) (fun _ h=>nomatch h) fun r7 b=>Sim.prop fun h=>?_ | refine af (bU _) (fun _ h=>nomatch h) fun r7 b=>Sim.prop fun h=>?_
   subst h
   refine fH fun r8=>?_
   (with_reducible repeat (first | refine sA ?_ | refine sB ?_ | refine sC ?_ | refine sD ?_ | refine sE ?_ | refine sF ?_))
   first | refine ag (aA _ _) (fun _ h=>nomatch h) fun r9 b=>Sim.prop fun h=>?_ | refine af (aA _ _) (fun _ h=>nomatch h) fun r9 b=>Sim.prop fun h=>?_
   subst h
   refine gi NodeF ?_ fun nx11 x11=>?_
   ·skip
    (with_reducible repeat (first | refine sA ?_ | refine sB ?_ | refine sC ?_ | refine sD ?_ | refine sE ?_ | refine sF ?_))
    (first | refine qA (fun h=>?_) fun h=>?_ | refine qB (fun h=>?_) fun h=>?_ | refine qC (fun h=>?_) fun h=>?_ | refine qD (fun h=>?_) fun h=>?_ | refine qE (fun h=>?_) fun h=>?_) -- r9
    ·skip
     (with_reducible repeat (first | refine sA ?_ | refine sB ?_ | refine sC ?_ | refine sD ?_ | refine sE ?_ | refine sF ?_))
     first | refine ag (hR.expr _) (fun _ h=>nomatch h) fun r10 nr10=>?_ | refine af (hR.expr _) (fun _ h=>nomatch h) fun r10 nr10=>?_
     exact dF _ rfl rfl (fun F hF=>hF _ (by repeat (first | exact mz | apply ms)))
    ·skip
     exact dF _ rfl rfl (fun F hF=>hF _ (by repeat (first | exact mz | apply ms)))
   ·skip
    refine f9 (by repeat (first | exact mz | apply ms)) fun b sl ps K2 hx hb=>?_
    refine eU [_] [_] rfl (by decide) (by decide) (by kernel_rfl) (fun F hF=>(.cons _ _ _ _ (hF (NodeF _ _) (by repeat (first | exact mz | apply ms))) .nil)) (fun p hp=>by first | exact absurd hp List.not_mem_nil | (simp at hp; simp [hp])) fun r15=>?_
    subst hx
    refine ga hb (by repeat (first | exact mz | apply ms)) (by repeat (first | exact mz | apply ms)) (by omega) fun K=>?_
    (with_reducible repeat (first | refine sA ?_ | refine sB ?_ | refine sC ?_ | refine sD ?_ | refine sE ?_ | refine sF ?_))
    first | refine ag (aA _ _) (fun _ h=>nomatch h) fun r20 b=>Sim.prop fun h=>?_ | refine af (aA _ _) (fun _ h=>nomatch h) fun r20 b=>Sim.prop fun h=>?_
    subst h
    (with_reducible repeat (first | refine sA ?_ | refine sB ?_ | refine sC ?_ | refine sD ?_ | refine sE ?_ | refine sF ?_))
    (first | refine qA (fun h=>?_) fun h=>?_ | refine qB (fun h=>?_) fun h=>?_ | refine qC (fun h=>?_) fun h=>?_ | refine qD (fun h=>?_) fun h=>?_ | refine qE (fun h=>?_) fun h=>?_) -- (!r20)
    ·skip
     exact f8 _ rfl rfl (by repeat (first | exact mz | apply ms))
    ·skip
     (first | refine jy _ rfl (by simp [N.push_len] at hn ⊢; omega) (by repeat (first | exact mz | apply ms)) | refine jz _ (by decide) rfl (by simp [N.push_len] at hn ⊢; omega) (by repeat (first | exact mz | apply ms)))
  ·skip
   exact f8 _ rfl rfl (by repeat (first | exact mz | apply ms))
 ·skip
  (with_reducible repeat (first | refine sA ?_ | refine sB ?_ | refine sC ?_ | refine sD ?_ | refine sE ?_ | refine sF ?_))
  first | refine ag (aG _ _) (fun _ h=>nomatch h) fun x b=>?_ | refine af (aG _ _) (fun _ h=>nomatch h) fun x b=>?_
  refine c7 (n:=_) (x:=r2) (by repeat (first | exact mz | apply ms)) ?_
  (with_reducible repeat (first | refine sA ?_ | refine sB ?_ | refine sC ?_ | refine sD ?_ | refine sE ?_ | refine sF ?_))
  exact ay (t:=tP) _ rfl (fun F hF=>hF _ (by repeat (first | exact mz | apply ms)))
theorem Cp {R:aY} (hR:cm R) (pb:Nat) (a1:Tok):Meets PG (PI pb) (aa kf #[.pointer (some (aL pb)),.agg #[.int .i64 a1.1,.string a1.2.1,.int .i64 a1.2.2.1,.int .i64 a1.2.2.2.1]]) tP (xp R a1) NodeF []:=by
 refine wy (aL pb) a1 ?_
 unfold kb xp
 refine jj fun br1=>?_
 first | refine jK ?_ ?_ | refine fB cD ?_ ?_
 ·skip
  refine aN (b1:=.str) _ (by repeat (first | exact mz | apply ms)) (by kernel_rfl) rfl rfl ?_
  refine fp (DO _ _) (fun _ h=>nomatch h) ?_
  (with_reducible repeat (first | refine sA ?_ | refine sB ?_ | refine sC ?_ | refine sD ?_ | refine sE ?_ | refine sF ?_))
  (first | refine qA (fun h=>?_) fun h=>?_ | refine qB (fun h=>?_) fun h=>?_ | refine qC (fun h=>?_) fun h=>?_ | refine qD (fun h=>?_) fun h=>?_ | refine qE (fun h=>?_) fun h=>?_) -- ((r3:Int) != 0)
  ·skip
   (with_reducible repeat (first | refine sA ?_ | refine sB ?_ | refine sC ?_ | refine sD ?_ | refine sE ?_ | refine sF ?_))
   first | refine ag (cZ _) (fun _ h=>nomatch h) fun r4 b=>Sim.prop fun h=>?_ | refine af (cZ _) (fun _ h=>nomatch h) fun r4 b=>Sim.prop fun h=>?_
   subst h
   refine c8 [] (fun _ h=>nomatch h) ?_
   refine cL (b1:=.str) _ (by repeat (first | exact mz | apply ms)) (by kernel_rfl) rfl rfl ?_
   refine cL (b1:=.int .i64) _ (by repeat (first | exact mz | apply ms)) (by kernel_rfl) rfl rfl ?_
   refine qV (DO _ _) (fun _ h=>nomatch h) ?_
   refine gq fun r8=>?_
   (with_reducible repeat (first | refine sA ?_ | refine sB ?_ | refine sC ?_ | refine sD ?_ | refine sE ?_ | refine sF ?_))
   exact ay (t:=tP) _ rfl (fun F hF=>hF _ (by repeat (first | exact mz | apply ms)))
  ·skip
   (with_reducible repeat (first | refine sA ?_ | refine sB ?_ | refine sC ?_ | refine sD ?_ | refine sE ?_ | refine sF ?_))
   first | refine ag (aA _ _) (fun _ h=>nomatch h) fun r9 b=>Sim.prop fun h=>?_ | refine af (aA _ _) (fun _ h=>nomatch h) fun r9 b=>Sim.prop fun h=>?_
   subst h
   (with_reducible repeat (first | refine sA ?_ | refine sB ?_ | refine sC ?_ | refine sD ?_ | refine sE ?_ | refine sF ?_))
   (first | refine qA (fun h=>?_) fun h=>?_ | refine qB (fun h=>?_) fun h=>?_ | refine qC (fun h=>?_) fun h=>?_ | refine qD (fun h=>?_) fun h=>?_ | refine qE (fun h=>?_) fun h=>?_) -- r9
   ·skip
    (with_reducible repeat (first | refine sA ?_ | refine sB ?_ | refine sC ?_ | refine sD ?_ | refine sE ?_ | refine sF ?_))
    first | refine ag (aZ _) (fun _ h=>nomatch h) fun r10 b=>Sim.prop fun h=>?_ | refine af (aZ _) (fun _ h=>nomatch h) fun r10 b=>Sim.prop fun h=>?_
    subst h
    (with_reducible repeat (first | refine sA ?_ | refine sB ?_ | refine sC ?_ | refine sD ?_ | refine sE ?_ | refine sF ?_))
    first | refine ag (bU _) (fun _ h=>nomatch h) fun r11 b=>Sim.prop fun h=>?_ | refine af (bU _) (fun _ h=>nomatch h) fun r11 b=>Sim.prop fun h=>?_
    subst h
    refine fH fun r12=>?_
    refine gi NodeF ?_ fun nx18 x18=>?_
    ·skip
     refine rY (fun k x=>membersS (Tok.pos r10) k x>>=fun x=>gT R>>=fun a=>pA R>>=fun g=>pure (bw 28 kE 0 (Tok.pos a1) [x,a,g])) R.fuel _ (fun _=>rfl) rfl (by repeat (first | exact mz | apply ms)) fun k n x13=>?_
     rw [membersS.eq_2]
     (with_reducible repeat (first | refine sA ?_ | refine sB ?_ | refine sC ?_ | refine sD ?_ | refine sE ?_ | refine sF ?_))
     first | refine ag (aA _ _) (fun _ h=>nomatch h) fun r14 b=>Sim.prop fun h=>?_ | refine af (aA _ _) (fun _ h=>nomatch h) fun r14 b=>Sim.prop fun h=>?_
     subst h
     (with_reducible repeat (first | refine sA ?_ | refine sB ?_ | refine sC ?_ | refine sD ?_ | refine sE ?_ | refine sF ?_))
     (first | refine qA (fun h=>?_) fun h=>?_ | refine qB (fun h=>?_) fun h=>?_ | refine qC (fun h=>?_) fun h=>?_ | refine qD (fun h=>?_) fun h=>?_ | refine qE (fun h=>?_) fun h=>?_) -- r14
     ·skip
      (with_reducible repeat (first | refine sA ?_ | refine sB ?_ | refine sC ?_ | refine sD ?_ | refine sE ?_ | refine sF ?_))
      first | refine ag (bU _) (fun _ h=>nomatch h) fun r15 b=>Sim.prop fun h=>?_ | refine af (bU _) (fun _ h=>nomatch h) fun r15 b=>Sim.prop fun h=>?_
      subst h
      refine bP [x13] [n] rfl (by decide) (by decide) (by kernel_rfl) (fun F hF=>(.cons _ _ _ _ (hF (NodeF n x13) (by repeat (first | exact mz | apply ms))) .nil)) fun r17=>?_
      (first | refine lA _ rfl (by repeat (first | exact mz | apply ms)) | refine lF _ (by decide) rfl (by repeat (first | exact mz | apply ms)))
     ·skip
      exact dF _ rfl rfl (fun F hF=>hF _ (by repeat (first | exact mz | apply ms)))
    ·skip
     (with_reducible repeat (first | refine sA ?_ | refine sB ?_ | refine sC ?_ | refine sD ?_ | refine sE ?_ | refine sF ?_))
     first | refine ag (lC hR _) (fun _ h=>nomatch h) fun r19 nr19=>?_ | refine af (lC hR _) (fun _ h=>nomatch h) fun r19 nr19=>?_
     refine c8 [] (fun _ h=>nomatch h) ?_
     refine cL (b1:=.int .i64) _ (by repeat (first | exact mz | apply ms)) (by kernel_rfl) rfl rfl ?_
     (with_reducible repeat (first | refine sA ?_ | refine sB ?_ | refine sC ?_ | refine sD ?_ | refine sE ?_ | refine sF ?_))
     first | refine dT (m7 hR _) (fun _ h=>nomatch h) fun r21 nr21=>?_ | refine im (m7 hR _) (fun _ h=>nomatch h) fun r21 nr21=>?_
     refine eU [x18,r19,r21] [nx18,nr19,nr21] rfl (by decide) (by decide) (by kernel_rfl) (fun F hF=>(.cons _ _ _ _ (hF (NodeF nx18 x18) (by repeat (first | exact mz | apply ms))) (.cons _ _ _ _ (hF (NodeF nr19 r19) (by repeat (first | exact mz | apply ms))) (.cons _ _ _ _ (hF (NodeF nr21 r21) (by repeat (first | exact mz | apply ms))) .nil)))) (fun p hp=>by first | exact absurd hp List.not_mem_nil | (simp at hp; simp [hp])) fun r23=>?_
     (with_reducible repeat (first | refine sA ?_ | refine sB ?_ | refine sC ?_ | refine sD ?_ | refine sE ?_ | refine sF ?_))
     exact ay (t:=tP) _ rfl (fun F hF=>hF _ (by repeat (first | exact mz | apply ms)))
   ·skip
    (with_reducible repeat (first | refine sA ?_ | refine sB ?_ | refine sC ?_ | refine sD ?_ | refine sE ?_ | refine sF ?_))
    first | refine ag (aA _ _) (fun _ h=>nomatch h) fun r24 b=>Sim.prop fun h=>?_ | refine af (aA _ _) (fun _ h=>nomatch h) fun r24 b=>Sim.prop fun h=>?_
    subst h
    (with_reducible repeat (first | refine sA ?_ | refine sB ?_ | refine sC ?_ | refine sD ?_ | refine sE ?_ | refine sF ?_))
    (first | refine qA (fun h=>?_) fun h=>?_ | refine qB (fun h=>?_) fun h=>?_ | refine qC (fun h=>?_) fun h=>?_ | refine qD (fun h=>?_) fun h=>?_ | refine qE (fun h=>?_) fun h=>?_) -- r24
    ·skip
     (with_reducible repeat (first | refine sA ?_ | refine sB ?_ | refine sC ?_ | refine sD ?_ | refine sE ?_ | refine sF ?_))
     first | refine ag (aA _ _) (fun _ h=>nomatch h) fun r25 b=>Sim.prop fun h=>?_ | refine af (aA _ _) (fun _ h=>nomatch h) fun r25 b=>Sim.prop fun h=>?_
     subst h
     (with_reducible repeat (first | refine sA ?_ | refine sB ?_ | refine sC ?_ | refine sD ?_ | refine sE ?_ | refine sF ?_))
     (first | refine qA (fun h=>?_) fun h=>?_ | refine qB (fun h=>?_) fun h=>?_ | refine qC (fun h=>?_) fun h=>?_ | refine qD (fun h=>?_) fun h=>?_ | refine qE (fun h=>?_) fun h=>?_) -- r25
     ·skip
      refine c8 [] (fun _ h=>nomatch h) ?_
      refine cL (b1:=.int .i64) _ (by repeat (first | exact mz | apply ms)) (by kernel_rfl) rfl rfl ?_
      (with_reducible repeat (first | refine sA ?_ | refine sB ?_ | refine sC ?_ | refine sD ?_ | refine sE ?_ | refine sF ?_))
      first | refine dT (bU _) (fun _ h=>nomatch h) fun r27 b=>Sim.prop fun h=>?_ | refine im (bU _) (fun _ h=>nomatch h) fun r27 b=>Sim.prop fun h=>?_
      subst h
      refine gq fun r28=>?_
      (with_reducible repeat (first | refine sA ?_ | refine sB ?_ | refine sC ?_ | refine sD ?_ | refine sE ?_ | refine sF ?_))
      exact ay (t:=tP) _ rfl (fun F hF=>hF _ (by repeat (first | exact mz | apply ms)))
     ·skip
      refine c8 [] (fun _ h=>nomatch h) ?_
      refine cL (b1:=.int .i64) _ (by repeat (first | exact mz | apply ms)) (by kernel_rfl) rfl rfl ?_
      (with_reducible repeat (first | refine sA ?_ | refine sB ?_ | refine sC ?_ | refine sD ?_ | refine sE ?_ | refine sF ?_))
      first | refine dT (m7 hR _) (fun _ h=>nomatch h) fun r30 nr30=>?_ | refine im (m7 hR _) (fun _ h=>nomatch h) fun r30 nr30=>?_
      refine eU [r30] [nr30] rfl (by decide) (by decide) (by kernel_rfl) (fun F hF=>(.cons _ _ _ _ (hF (NodeF nr30 r30) (by repeat (first | exact mz | apply ms))) .nil)) (fun p hp=>by first | exact absurd hp List.not_mem_nil | (simp at hp; simp [hp])) fun r32=>?_
      (with_reducible repeat (first | refine sA ?_ | refine sB ?_ | refine sC ?_ | refine sD ?_ | refine sE ?_ | refine sF ?_))
      exact ay (t:=tP) _ rfl (fun F hF=>hF _ (by repeat (first | exact mz | apply ms)))
    ·skip
     exact gc rfl rfl
 ·skip
  exact dV (β1:=Unit) (Rel1:=fun _ _ _=>Fact.prop True) (fS _) (fun _ h=>nomatch h) (by first | exact dW | exact ed _)
theorem y9 {R:aY} (hR:cm R) (pb:Nat):Meets PG (PI pb) (aa jk #[.pointer (some (aL pb))]) tP (uz R) NodeF []:=by
 refine tZ (aL pb) ?_
 unfold jv uz
 (with_reducible repeat (first | refine sA ?_ | refine sB ?_ | refine sC ?_ | refine sD ?_ | refine sE ?_ | refine sF ?_))
 refine ag (wx _) (fun _ h=>nomatch h) fun r1 b=>Sim.both (Sim.prop fun hnum=>Sim.prop fun h=>?_)
 subst h
 refine gd (c:=true) (z:=[.int .i64 0,.string kE,.int .i64 0,.int .i64 0]) (by kernel_rfl) (by kernel_rfl) rfl (by simp [Value.cells,Value.oneCell']) fun br2=>?_
 refine aN (b1:=.int .i64) _ (by repeat (first | exact mz | apply ms)) (by kernel_rfl) rfl rfl ?_
 (with_reducible repeat (first | refine sA ?_ | refine sB ?_ | refine sC ?_ | refine sD ?_ | refine sE ?_ | refine sF ?_))
 (first | refine qA (fun h=>?_) fun h=>?_ | refine qB (fun h=>?_) fun h=>?_ | refine qC (fun h=>?_) fun h=>?_ | refine qD (fun h=>?_) fun h=>?_ | refine qE (fun h=>?_) fun h=>?_) -- ((r4:Int)==3)
 ·have hk:Tok.kind r1=3:=by simpa [Tok.kind] using h
  (with_reducible repeat (first | refine sA ?_ | refine sB ?_ | refine sC ?_ | refine sD ?_ | refine sE ?_ | refine sF ?_))
  first | refine ag (cZ _) (fun _ h=>nomatch h) fun r5 b=>Sim.prop fun h=>?_ | refine af (cZ _) (fun _ h=>nomatch h) fun r5 b=>Sim.prop fun h=>?_
  subst h
  refine c8 [] (fun _ h=>nomatch h) ?_
  refine cL (b1:=.str) _ (by repeat (first | exact mz | apply ms)) (by kernel_rfl) rfl rfl ?_
  refine cL (b1:=.int .i64) _ (by repeat (first | exact mz | apply ms)) (by kernel_rfl) rfl rfl ?_
  refine qV (hR.num _ _ (hnum.1 hk).1 (hnum.1 hk).2) (fun _ h=>nomatch h) ?_
  refine gq fun r9=>?_
  (with_reducible repeat (first | refine sA ?_ | refine sB ?_ | refine sC ?_ | refine sD ?_ | refine sE ?_ | refine sF ?_))
  exact ay (t:=tP) _ rfl (fun F hF=>hF _ (by repeat (first | exact mz | apply ms)))
 ·skip
  (with_reducible repeat (first | refine sA ?_ | refine sB ?_ | refine sC ?_ | refine sD ?_ | refine sE ?_ | refine sF ?_))
  (first | refine qA (fun h=>?_) fun h=>?_ | refine qB (fun h=>?_) fun h=>?_ | refine qC (fun h=>?_) fun h=>?_ | refine qD (fun h=>?_) fun h=>?_ | refine qE (fun h=>?_) fun h=>?_) -- ((r4:Int)==4)
  ·skip
   (with_reducible repeat (first | refine sA ?_ | refine sB ?_ | refine sC ?_ | refine sD ?_ | refine sE ?_ | refine sF ?_))
   first | refine ag (cZ _) (fun _ h=>nomatch h) fun r10 b=>Sim.prop fun h=>?_ | refine af (cZ _) (fun _ h=>nomatch h) fun r10 b=>Sim.prop fun h=>?_
   subst h
   refine aN (b1:=.str) _ (by repeat (first | exact mz | apply ms)) (by kernel_rfl) rfl rfl ?_
   refine aN (b1:=.int .i64) _ (by repeat (first | exact mz | apply ms)) (by kernel_rfl) rfl rfl ?_
   refine fH fun r13=>?_
   (with_reducible repeat (first | refine sA ?_ | refine sB ?_ | refine sC ?_ | refine sD ?_ | refine sE ?_ | refine sF ?_))
   exact ay (t:=tP) _ rfl (fun F hF=>hF _ (by repeat (first | exact mz | apply ms)))
  ·skip
   first | refine cP ?_ fun x14=>?_ | refine dB ?_ fun x14=>?_
   ·skip
    (with_reducible repeat (first | refine sA ?_ | refine sB ?_ | refine sC ?_ | refine sD ?_ | refine sE ?_ | refine sF ?_))
    (first | refine qA (fun h=>?_) fun h=>?_ | refine qB (fun h=>?_) fun h=>?_ | refine qC (fun h=>?_) fun h=>?_ | refine qD (fun h=>?_) fun h=>?_ | refine qE (fun h=>?_) fun h=>?_) -- ((r4:Int)==5)
    ·skip
     exact aV _ rfl (by first | rfl | (simp only [Tok.kind] at *; simp_all))
    ·skip
     exact aV _ rfl (by show cond (Tok.kind r1==5||Tok.kind r1==6) _ _=_; rw [show (Tok.kind r1==5)=false from h]; rfl)
   ·skip
    (with_reducible repeat (first | refine sA ?_ | refine sB ?_ | refine sC ?_ | refine sD ?_ | refine sE ?_ | refine sF ?_))
    (first | refine qA (fun h=>?_) fun h=>?_ | refine qB (fun h=>?_) fun h=>?_ | refine qC (fun h=>?_) fun h=>?_ | refine qD (fun h=>?_) fun h=>?_ | refine qE (fun h=>?_) fun h=>?_) -- x14.1
    ·skip
     (with_reducible repeat (first | refine sA ?_ | refine sB ?_ | refine sC ?_ | refine sD ?_ | refine sE ?_ | refine sF ?_))
     first | refine ag (wt hR _) (fun _ h=>nomatch h) fun r15 nr15=>?_ | refine af (wt hR _) (fun _ h=>nomatch h) fun r15 nr15=>?_
     (with_reducible repeat (first | refine sA ?_ | refine sB ?_ | refine sC ?_ | refine sD ?_ | refine sE ?_ | refine sF ?_))
     exact ay (t:=tP) _ rfl (fun F hF=>hF _ (by repeat (first | exact mz | apply ms)))
    ·skip
     (with_reducible repeat (first | refine sA ?_ | refine sB ?_ | refine sC ?_ | refine sD ?_ | refine sE ?_ | refine sF ?_))
     (first | refine qA (fun h=>?_) fun h=>?_ | refine qB (fun h=>?_) fun h=>?_ | refine qC (fun h=>?_) fun h=>?_ | refine qD (fun h=>?_) fun h=>?_ | refine qE (fun h=>?_) fun h=>?_) -- ((r4:Int)==1)
     ·skip
      (with_reducible repeat (first | refine sA ?_ | refine sB ?_ | refine sC ?_ | refine sD ?_ | refine sE ?_ | refine sF ?_))
      first | refine ag (cZ _) (fun _ h=>nomatch h) fun r16 b=>Sim.prop fun h=>?_ | refine af (cZ _) (fun _ h=>nomatch h) fun r16 b=>Sim.prop fun h=>?_
      subst h
      refine aN (b1:=.str) _ (by repeat (first | exact mz | apply ms)) (by kernel_rfl) rfl rfl ?_
      refine aN (b1:=.int .i64) _ (by repeat (first | exact mz | apply ms)) (by kernel_rfl) rfl rfl ?_
      refine fH fun r19=>?_
      (with_reducible repeat (first | refine sA ?_ | refine sB ?_ | refine sC ?_ | refine sD ?_ | refine sE ?_ | refine sF ?_))
      exact ay (t:=tP) _ rfl (fun F hF=>hF _ (by repeat (first | exact mz | apply ms)))
     ·skip
      (with_reducible repeat (first | refine sA ?_ | refine sB ?_ | refine sC ?_ | refine sD ?_ | refine sE ?_ | refine sF ?_))
      (first | refine qA (fun h=>?_) fun h=>?_ | refine qB (fun h=>?_) fun h=>?_ | refine qC (fun h=>?_) fun h=>?_ | refine qD (fun h=>?_) fun h=>?_ | refine qE (fun h=>?_) fun h=>?_) -- ((r4:Int)==2)
      ·skip
       refine nS (bs:=d3) (_,_,_,_,()) (by repeat (first | exact mz | apply ms)) (by kernel_rfl) rfl rfl ?_
       (with_reducible repeat (first | refine sA ?_ | refine sB ?_ | refine sC ?_ | refine sD ?_ | refine sE ?_ | refine sF ?_))
       first | refine ag (Cp hR _ _) (fun _ h=>nomatch h) fun r21 nr21=>?_ | refine af (Cp hR _ _) (fun _ h=>nomatch h) fun r21 nr21=>?_
       (with_reducible repeat (first | refine sA ?_ | refine sB ?_ | refine sC ?_ | refine sD ?_ | refine sE ?_ | refine sF ?_))
       exact ay (t:=tP) _ rfl (fun F hF=>hF _ (by repeat (first | exact mz | apply ms)))
      ·skip
       (with_reducible repeat (first | refine sA ?_ | refine sB ?_ | refine sC ?_ | refine sD ?_ | refine sE ?_ | refine sF ?_))
       first | refine ag (aA _ _) (fun _ h=>nomatch h) fun r22 b=>Sim.prop fun h=>?_ | refine af (aA _ _) (fun _ h=>nomatch h) fun r22 b=>Sim.prop fun h=>?_
       subst h
       (with_reducible repeat (first | refine sA ?_ | refine sB ?_ | refine sC ?_ | refine sD ?_ | refine sE ?_ | refine sF ?_))
       (first | refine qA (fun h=>?_) fun h=>?_ | refine qB (fun h=>?_) fun h=>?_ | refine qC (fun h=>?_) fun h=>?_ | refine qD (fun h=>?_) fun h=>?_ | refine qE (fun h=>?_) fun h=>?_) -- r22
       ·skip
        (with_reducible repeat (first | refine sA ?_ | refine sB ?_ | refine sC ?_ | refine sD ?_ | refine sE ?_ | refine sF ?_))
        first | refine ag (hR.expr _) (fun _ h=>nomatch h) fun r23 nr23=>?_ | refine af (hR.expr _) (fun _ h=>nomatch h) fun r23 nr23=>?_
        (with_reducible repeat (first | refine sA ?_ | refine sB ?_ | refine sC ?_ | refine sD ?_ | refine sE ?_ | refine sF ?_))
        first | refine ag (aG _ _) (fun _ h=>nomatch h) fun x b=>?_ | refine af (aG _ _) (fun _ h=>nomatch h) fun x b=>?_
        (with_reducible repeat (first | refine sA ?_ | refine sB ?_ | refine sC ?_ | refine sD ?_ | refine sE ?_ | refine sF ?_))
        exact ay (t:=tP) _ rfl (fun F hF=>hF _ (by repeat (first | exact mz | apply ms)))
       ·skip
        (with_reducible repeat (first | refine sA ?_ | refine sB ?_ | refine sC ?_ | refine sD ?_ | refine sE ?_ | refine sF ?_))
        first | refine ag (aA _ _) (fun _ h=>nomatch h) fun r25 b=>Sim.prop fun h=>?_ | refine af (aA _ _) (fun _ h=>nomatch h) fun r25 b=>Sim.prop fun h=>?_
        subst h
        (with_reducible repeat (first | refine sA ?_ | refine sB ?_ | refine sC ?_ | refine sD ?_ | refine sE ?_ | refine sF ?_))
        (first | refine qA (fun h=>?_) fun h=>?_ | refine qB (fun h=>?_) fun h=>?_ | refine qC (fun h=>?_) fun h=>?_ | refine qD (fun h=>?_) fun h=>?_ | refine qE (fun h=>?_) fun h=>?_) -- r25
        ·skip
         refine aN (b1:=.int .i64) _ (by repeat (first | exact mz | apply ms)) (by kernel_rfl) rfl rfl ?_
         refine gb fun r27 Kr27=>?_
         (with_reducible repeat (first | refine sA ?_ | refine sB ?_ | refine sC ?_ | refine sD ?_ | refine sE ?_ | refine sF ?_))
         first | refine ag (cc _ _) (fun _ h=>nomatch h) fun r28 b=>Sim.prop fun h=>?_ | refine af (cc _ _) (fun _ h=>nomatch h) fun r28 b=>Sim.prop fun h=>?_
         subst h
         (with_reducible repeat (first | refine sA ?_ | refine sB ?_ | refine sC ?_ | refine sD ?_ | refine sE ?_ | refine sF ?_))
         (first | refine qA (fun h=>?_) fun h=>?_ | refine qB (fun h=>?_) fun h=>?_ | refine qC (fun h=>?_) fun h=>?_ | refine qD (fun h=>?_) fun h=>?_ | refine qE (fun h=>?_) fun h=>?_) -- (!r28)
         ·skip
          (with_reducible repeat (first | refine sA ?_ | refine sB ?_ | refine sC ?_ | refine sD ?_ | refine sE ?_ | refine sF ?_))
          first | refine iC (gG pb _ _ R.fuel (Nat.le_trans hR.fuel (by decide)) (MeetsO.congr (fA _ _) (hR.expr _))) (fun _ h=>nomatch h) fun r29 nr29 Kr29=>?_ | refine k7 (gG pb _ _ R.fuel (Nat.le_trans hR.fuel (by decide)) (MeetsO.congr (fA _ _) (hR.expr _))) (fun _ h=>nomatch h) fun r29 nr29 Kr29=>?_
          refine c7 (by repeat (first | exact mz | apply ms)) ?_
          refine Ct (n:=bw 19 kE 0 (Tok.pos r1) []) (by repeat (first | exact mz | apply ms)) (by repeat (first | exact mz | apply ms)) ?_
          (with_reducible repeat (first | refine sA ?_ | refine sB ?_ | refine sC ?_ | refine sD ?_ | refine sE ?_ | refine sF ?_))
          first | refine ag (aG _ _) (fun _ h=>nomatch h) fun x b=>?_ | refine af (aG _ _) (fun _ h=>nomatch h) fun x b=>?_
          skip
          (with_reducible repeat (first | refine sA ?_ | refine sB ?_ | refine sC ?_ | refine sD ?_ | refine sE ?_ | refine sF ?_))
          exact ay (t:=tP) _ rfl (fun F hF=>hF _ (by repeat (first | exact mz | apply ms)))
         ·skip
          (with_reducible repeat (first | refine sA ?_ | refine sB ?_ | refine sC ?_ | refine sD ?_ | refine sE ?_ | refine sF ?_))
          first | refine ag (aG _ _) (fun _ h=>nomatch h) fun x b=>?_ | refine af (aG _ _) (fun _ h=>nomatch h) fun x b=>?_
          refine c7 (n:=_) (x:=r27) (by repeat (first | exact mz | apply ms)) ?_
          (with_reducible repeat (first | refine sA ?_ | refine sB ?_ | refine sC ?_ | refine sD ?_ | refine sE ?_ | refine sF ?_))
          exact ay (t:=tP) _ rfl (fun F hF=>hF _ (by repeat (first | exact mz | apply ms)))
        ·skip
         (with_reducible repeat (first | refine sA ?_ | refine sB ?_ | refine sC ?_ | refine sD ?_ | refine sE ?_ | refine sF ?_))
         first | refine ag (Cy hR _) (fun _ h=>nomatch h) fun r36 nr36=>?_ | refine af (Cy hR _) (fun _ h=>nomatch h) fun r36 nr36=>?_
         (with_reducible repeat (first | refine sA ?_ | refine sB ?_ | refine sC ?_ | refine sD ?_ | refine sE ?_ | refine sF ?_))
         exact ay (t:=tP) _ rfl (fun F hF=>hF _ (by repeat (first | exact mz | apply ms)))
theorem yQ {R:aY} (hR:cm R) (pb:Nat):Meets PG (PI pb) (aa jp #[.pointer (some (aL pb))]) tP (uF R) NodeF []:=by
 refine uf (aL pb) ?_
 unfold jq uF
 (with_reducible repeat (first | refine sA ?_ | refine sB ?_ | refine sC ?_ | refine sD ?_ | refine sE ?_ | refine sF ?_))
 first | refine ag (aZ _) (fun _ h=>nomatch h) fun r1 b=>Sim.prop fun h=>?_ | refine af (aZ _) (fun _ h=>nomatch h) fun r1 b=>Sim.prop fun h=>?_
 subst h
 (with_reducible repeat (first | refine sA ?_ | refine sB ?_ | refine sC ?_ | refine sD ?_ | refine sE ?_ | refine sF ?_))
 first | refine ag (y9 hR _) (fun _ h=>nomatch h) fun r2 nr2=>?_ | refine af (y9 hR _) (fun _ h=>nomatch h) fun r2 nr2=>?_
 refine rY (pI R (Tok.pos r1)) R.fuel _ (fun _=>rfl) rfl (by repeat (first | exact mz | apply ms)) fun k n x3=>?_
 (with_reducible repeat (first | refine sA ?_ | refine sB ?_ | refine sC ?_ | refine sD ?_ | refine sE ?_ | refine sF ?_))
 first | refine ag (aA _ _) (fun _ h=>nomatch h) fun r4 b=>Sim.prop fun h=>?_ | refine af (aA _ _) (fun _ h=>nomatch h) fun r4 b=>Sim.prop fun h=>?_
 subst h
 (with_reducible repeat (first | refine sA ?_ | refine sB ?_ | refine sC ?_ | refine sD ?_ | refine sE ?_ | refine sF ?_))
 (first | refine qA (fun h=>?_) fun h=>?_ | refine qB (fun h=>?_) fun h=>?_ | refine qC (fun h=>?_) fun h=>?_ | refine qD (fun h=>?_) fun h=>?_ | refine qE (fun h=>?_) fun h=>?_) -- r4
 ·skip
  (with_reducible repeat (first | refine sA ?_ | refine sB ?_ | refine sC ?_ | refine sD ?_ | refine sE ?_ | refine sF ?_))
  first | refine ag (bU _) (fun _ h=>nomatch h) fun r5 b=>Sim.prop fun h=>?_ | refine af (bU _) (fun _ h=>nomatch h) fun r5 b=>Sim.prop fun h=>?_
  subst h
  refine bP [x3] [n] rfl (by decide) (by decide) (by kernel_rfl) (fun F hF=>(.cons _ _ _ _ (hF (NodeF n x3) (by repeat (first | exact mz | apply ms))) .nil)) fun r7=>?_
  (first | refine lA _ rfl (by repeat (first | exact mz | apply ms)) | refine lF _ (by decide) rfl (by repeat (first | exact mz | apply ms)))
 ·skip
  (with_reducible repeat (first | refine sA ?_ | refine sB ?_ | refine sC ?_ | refine sD ?_ | refine sE ?_ | refine sF ?_))
  first | refine ag (aA _ _) (fun _ h=>nomatch h) fun r8 b=>Sim.prop fun h=>?_ | refine af (aA _ _) (fun _ h=>nomatch h) fun r8 b=>Sim.prop fun h=>?_
  subst h
  (with_reducible repeat (first | refine sA ?_ | refine sB ?_ | refine sC ?_ | refine sD ?_ | refine sE ?_ | refine sF ?_))
  (first | refine qA (fun h=>?_) fun h=>?_ | refine qB (fun h=>?_) fun h=>?_ | refine qC (fun h=>?_) fun h=>?_ | refine qD (fun h=>?_) fun h=>?_ | refine qE (fun h=>?_) fun h=>?_) -- r8
  ·skip
   (with_reducible repeat (first | refine sA ?_ | refine sB ?_ | refine sC ?_ | refine sD ?_ | refine sE ?_ | refine sF ?_))
   first | refine ag (hR.expr _) (fun _ h=>nomatch h) fun r9 nr9=>?_ | refine af (hR.expr _) (fun _ h=>nomatch h) fun r9 nr9=>?_
   (with_reducible repeat (first | refine sA ?_ | refine sB ?_ | refine sC ?_ | refine sD ?_ | refine sE ?_ | refine sF ?_))
   first | refine ag (aG _ _) (fun _ h=>nomatch h) fun x b=>?_ | refine af (aG _ _) (fun _ h=>nomatch h) fun x b=>?_
   refine bP [x3,r9] [n,nr9] rfl (by decide) (by decide) (by kernel_rfl) (fun F hF=>(.cons _ _ _ _ (hF (NodeF n x3) (by repeat (first | exact mz | apply ms))) (.cons _ _ _ _ (hF (NodeF nr9 r9) (by repeat (first | exact mz | apply ms))) .nil))) fun r12=>?_
   (first | refine lA _ rfl (by repeat (first | exact mz | apply ms)) | refine lF _ (by decide) rfl (by repeat (first | exact mz | apply ms)))
  ·skip
   (with_reducible repeat (first | refine sA ?_ | refine sB ?_ | refine sC ?_ | refine sD ?_ | refine sE ?_ | refine sF ?_))
   first | refine ag (cc _ _) (fun _ h=>nomatch h) fun r13 b=>Sim.prop fun h=>?_ | refine af (cc _ _) (fun _ h=>nomatch h) fun r13 b=>Sim.prop fun h=>?_
   subst h
   first | refine cP ?_ fun x16=>?_ | refine dB ?_ fun x16=>?_
   ·skip
    (with_reducible repeat (first | refine sA ?_ | refine sB ?_ | refine sC ?_ | refine sD ?_ | refine sE ?_ | refine sF ?_))
    (first | refine qA (fun h=>?_) fun h=>?_ | refine qB (fun h=>?_) fun h=>?_ | refine qC (fun h=>?_) fun h=>?_ | refine qD (fun h=>?_) fun h=>?_ | refine qE (fun h=>?_) fun h=>?_) -- r13
    ·skip
     exact aV _ rfl (by first | rfl | (simp only [Tok.kind] at *; simp_all))
    ·skip
     (with_reducible repeat (first | refine sA ?_ | refine sB ?_ | refine sC ?_ | refine sD ?_ | refine sE ?_ | refine sF ?_))
     first | refine ag (cc _ _) (fun _ h=>nomatch h) fun r14 b=>Sim.prop fun h=>?_ | refine af (cc _ _) (fun _ h=>nomatch h) fun r14 b=>Sim.prop fun h=>?_
     subst h
     (with_reducible repeat (first | refine sA ?_ | refine sB ?_ | refine sC ?_ | refine sD ?_ | refine sE ?_ | refine sF ?_))
     (first | refine qA (fun h=>?_) fun h=>?_ | refine qB (fun h=>?_) fun h=>?_ | refine qC (fun h=>?_) fun h=>?_ | refine qD (fun h=>?_) fun h=>?_ | refine qE (fun h=>?_) fun h=>?_) -- r14
     ·skip
      (with_reducible repeat (first | refine sA ?_ | refine sB ?_ | refine sC ?_ | refine sD ?_ | refine sE ?_ | refine sF ?_))
      first | refine ag (Ei hR _) (fun _ h=>nomatch h) fun r15 b=>Sim.prop fun h=>?_ | refine af (Ei hR _) (fun _ h=>nomatch h) fun r15 b=>Sim.prop fun h=>?_
      subst h
      exact aV _ rfl (by first | rfl | (simp only [Tok.kind] at *; simp_all))
     ·skip
      exact aV _ rfl (by first | rfl | (simp only [Tok.kind] at *; simp_all))
   ·skip
    (with_reducible repeat (first | refine sA ?_ | refine sB ?_ | refine sC ?_ | refine sD ?_ | refine sE ?_ | refine sF ?_))
    (first | refine qA (fun h=>?_) fun h=>?_ | refine qB (fun h=>?_) fun h=>?_ | refine qC (fun h=>?_) fun h=>?_ | refine qD (fun h=>?_) fun h=>?_ | refine qE (fun h=>?_) fun h=>?_) -- x16.1
    ·skip
     (with_reducible repeat (first | refine sA ?_ | refine sB ?_ | refine sC ?_ | refine sD ?_ | refine sE ?_ | refine sF ?_))
     first | refine ag (lC hR _) (fun _ h=>nomatch h) fun r17 nr17=>?_ | refine af (lC hR _) (fun _ h=>nomatch h) fun r17 nr17=>?_
     (with_reducible repeat (first | refine sA ?_ | refine sB ?_ | refine sC ?_ | refine sD ?_ | refine sE ?_ | refine sF ?_))
     first | refine ag (m7 hR _) (fun _ h=>nomatch h) fun r18 nr18=>?_ | refine af (m7 hR _) (fun _ h=>nomatch h) fun r18 nr18=>?_
     refine bP [x3,r17,r18] [n,nr17,nr18] rfl (by decide) (by decide) (by kernel_rfl) (fun F hF=>(.cons _ _ _ _ (hF (NodeF n x3) (by repeat (first | exact mz | apply ms))) (.cons _ _ _ _ (hF (NodeF nr17 r17) (by repeat (first | exact mz | apply ms))) (.cons _ _ _ _ (hF (NodeF nr18 r18) (by repeat (first | exact mz | apply ms))) .nil)))) fun r20=>?_
     (first | refine lA _ rfl (by repeat (first | exact mz | apply ms)) | refine lF _ (by decide) rfl (by repeat (first | exact mz | apply ms)))
    ·skip
     (with_reducible repeat (first | refine sA ?_ | refine sB ?_ | refine sC ?_ | refine sD ?_ | refine sE ?_ | refine sF ?_))
     first | refine ag (aA _ _) (fun _ h=>nomatch h) fun r21 b=>Sim.prop fun h=>?_ | refine af (aA _ _) (fun _ h=>nomatch h) fun r21 b=>Sim.prop fun h=>?_
     subst h
     (with_reducible repeat (first | refine sA ?_ | refine sB ?_ | refine sC ?_ | refine sD ?_ | refine sE ?_ | refine sF ?_))
     (first | refine qA (fun h=>?_) fun h=>?_ | refine qB (fun h=>?_) fun h=>?_ | refine qC (fun h=>?_) fun h=>?_ | refine qD (fun h=>?_) fun h=>?_ | refine qE (fun h=>?_) fun h=>?_) -- r21
     ·skip
      refine bP [x3] [n] rfl (by decide) (by decide) (by kernel_rfl) (fun F hF=>(.cons _ _ _ _ (hF (NodeF n x3) (by repeat (first | exact mz | apply ms))) .nil)) fun r23=>?_
      (first | refine lA _ rfl (by repeat (first | exact mz | apply ms)) | refine lF _ (by decide) rfl (by repeat (first | exact mz | apply ms)))
     ·skip
      (with_reducible repeat (first | refine sA ?_ | refine sB ?_ | refine sC ?_ | refine sD ?_ | refine sE ?_ | refine sF ?_))
      exact ay (t:=tP) _ rfl (fun F hF=>hF _ (by repeat (first | exact mz | apply ms)))
theorem El {R:aY} (hR:cm R) (pb:Nat):Meets PG (PI pb) (aa fW #[.pointer (some (aL pb))]) tP (wo R) NodeF []:=by
 refine xx (aL pb) ?_
 unfold lh wo
 (with_reducible repeat (first | refine sA ?_ | refine sB ?_ | refine sC ?_ | refine sD ?_ | refine sE ?_ | refine sF ?_))
 first | refine ag (aZ _) (fun _ h=>nomatch h) fun r1 b=>Sim.prop fun h=>?_ | refine af (aZ _) (fun _ h=>nomatch h) fun r1 b=>Sim.prop fun h=>?_
 subst h
 refine gd (c:=true) (z:=[.int .i64 0,.string kE,.int .i64 0,.int .i64 0]) (by kernel_rfl) (by kernel_rfl) rfl (by simp [Value.cells,Value.oneCell']) fun br2=>?_
 (with_reducible repeat (first | refine sA ?_ | refine sB ?_ | refine sC ?_ | refine sD ?_ | refine sE ?_ | refine sF ?_))
 first | refine ag (aA _ _) (fun _ h=>nomatch h) fun r4 b=>Sim.prop fun h=>?_ | refine af (aA _ _) (fun _ h=>nomatch h) fun r4 b=>Sim.prop fun h=>?_
 subst h
 first | refine cP ?_ fun x8=>?_ | refine dB ?_ fun x8=>?_
 ·skip
  (with_reducible repeat (first | refine sA ?_ | refine sB ?_ | refine sC ?_ | refine sD ?_ | refine sE ?_ | refine sF ?_))
  (first | refine qA (fun h=>?_) fun h=>?_ | refine qB (fun h=>?_) fun h=>?_ | refine qC (fun h=>?_) fun h=>?_ | refine qD (fun h=>?_) fun h=>?_ | refine qE (fun h=>?_) fun h=>?_) -- r4
  ·skip
   exact aV _ rfl (by first | rfl | (simp only [Tok.kind] at *; simp_all))
  ·skip
   (with_reducible repeat (first | refine sA ?_ | refine sB ?_ | refine sC ?_ | refine sD ?_ | refine sE ?_ | refine sF ?_))
   first | refine ag (aA _ _) (fun _ h=>nomatch h) fun r5 b=>Sim.prop fun h=>?_ | refine af (aA _ _) (fun _ h=>nomatch h) fun r5 b=>Sim.prop fun h=>?_
   subst h
   (with_reducible repeat (first | refine sA ?_ | refine sB ?_ | refine sC ?_ | refine sD ?_ | refine sE ?_ | refine sF ?_))
   (first | refine qA (fun h=>?_) fun h=>?_ | refine qB (fun h=>?_) fun h=>?_ | refine qC (fun h=>?_) fun h=>?_ | refine qD (fun h=>?_) fun h=>?_ | refine qE (fun h=>?_) fun h=>?_) -- r5
   ·skip
    exact aV _ rfl (by first | rfl | (simp only [Tok.kind] at *; simp_all))
   ·skip
    (with_reducible repeat (first | refine sA ?_ | refine sB ?_ | refine sC ?_ | refine sD ?_ | refine sE ?_ | refine sF ?_))
    first | refine ag (aA _ _) (fun _ h=>nomatch h) fun r6 b=>Sim.prop fun h=>?_ | refine af (aA _ _) (fun _ h=>nomatch h) fun r6 b=>Sim.prop fun h=>?_
    subst h
    (with_reducible repeat (first | refine sA ?_ | refine sB ?_ | refine sC ?_ | refine sD ?_ | refine sE ?_ | refine sF ?_))
    (first | refine qA (fun h=>?_) fun h=>?_ | refine qB (fun h=>?_) fun h=>?_ | refine qC (fun h=>?_) fun h=>?_ | refine qD (fun h=>?_) fun h=>?_ | refine qE (fun h=>?_) fun h=>?_) -- r6
    ·skip
     exact aV _ rfl (by first | rfl | (simp only [Tok.kind] at *; simp_all))
    ·skip
     (with_reducible repeat (first | refine sA ?_ | refine sB ?_ | refine sC ?_ | refine sD ?_ | refine sE ?_ | refine sF ?_))
     first | refine ag (aA _ _) (fun _ h=>nomatch h) fun r7 b=>Sim.prop fun h=>?_ | refine af (aA _ _) (fun _ h=>nomatch h) fun r7 b=>Sim.prop fun h=>?_
     subst h
     exact aV _ rfl (by first | rfl | (simp only [Tok.kind] at *; simp_all))
 ·skip
  (with_reducible repeat (first | refine sA ?_ | refine sB ?_ | refine sC ?_ | refine sD ?_ | refine sE ?_ | refine sF ?_))
  (first | refine qA (fun h=>?_) fun h=>?_ | refine qB (fun h=>?_) fun h=>?_ | refine qC (fun h=>?_) fun h=>?_ | refine qD (fun h=>?_) fun h=>?_ | refine qE (fun h=>?_) fun h=>?_) -- x8.1
  ·skip
   refine c8 [] (fun _ h=>nomatch h) ?_
   refine cL (b1:=.str) _ (by repeat (first | exact mz | apply ms)) (by kernel_rfl) rfl rfl ?_
   refine cL (b1:=.int .i64) _ (by repeat (first | exact mz | apply ms)) (by kernel_rfl) rfl rfl ?_
   (with_reducible repeat (first | refine sA ?_ | refine sB ?_ | refine sC ?_ | refine sD ?_ | refine sE ?_ | refine sF ?_))
   first | refine dT (hR.unary _) (fun _ h=>nomatch h) fun r11 nr11=>?_ | refine im (hR.unary _) (fun _ h=>nomatch h) fun r11 nr11=>?_
   refine eU [r11] [nr11] rfl (by decide) (by decide) (by kernel_rfl) (fun F hF=>(.cons _ _ _ _ (hF (NodeF nr11 r11) (by repeat (first | exact mz | apply ms))) .nil)) (fun p hp=>by first | exact absurd hp List.not_mem_nil | (simp at hp; simp [hp])) fun r13=>?_
   (with_reducible repeat (first | refine sA ?_ | refine sB ?_ | refine sC ?_ | refine sD ?_ | refine sE ?_ | refine sF ?_))
   exact ay (t:=tP) _ rfl (fun F hF=>hF _ (by repeat (first | exact mz | apply ms)))
  ·skip
   (with_reducible repeat (first | refine sA ?_ | refine sB ?_ | refine sC ?_ | refine sD ?_ | refine sE ?_ | refine sF ?_))
   first | refine ag (yQ hR _) (fun _ h=>nomatch h) fun r14 nr14=>?_ | refine af (yQ hR _) (fun _ h=>nomatch h) fun r14 nr14=>?_
   (with_reducible repeat (first | refine sA ?_ | refine sB ?_ | refine sC ?_ | refine sD ?_ | refine sE ?_ | refine sF ?_))
   exact ay (t:=tP) _ rfl (fun F hF=>hF _ (by repeat (first | exact mz | apply ms)))
end Go.Proofs.YtjlgcpgjdgeejaaGreatDoor
end

section
namespace Go.Proofs.YtjlgcpgjdgeejaaGreatDoor
open Go
set_option linter.unusedSimpArgs false
set_option linter.unusedVariables false
set_option linter.constructorNameAsVariable false
set_option maxRecDepth 100000
def BV (s:ByteArray):List Value:=[.string s]
theorem G0 {α:Type} (g:α→Value) (l:List α):rows (fun x=>[g x]) l=l.map g:=by
 induction l with
 | nil=>rfl
 | cons x l ih=>rw [eT,ih]; rfl
theorem yU {P:Program} {t e:TypeId} {n:Nat} (ht:kI P t=some (e,n)) (x:aI) (w:World):(bT .eql t (.slice x.1 x.2.1 x.2.2) (.slice none 0 0)).run P w=.ok (.value (.bool x.1.isNone)) w:=by
 obtain ⟨a,l,c⟩:=x
 have hu:=(om ht).1
 have h:∀ a,(Op.equal t (.slice a l c) (.slice none 0 0)).run P w=.ok a.isNone w:=fun a=>by
  unfold Op.equal
  rw [show Op.maxDepth=9999+1 from rfl,Op.equalIn]
  rw [Sem.run_bind,run_underlying hu,Result.andThen_ok]
  cases a<;>rfl
 simp [bT,cj,eqGuard,binOp,h]
theorem GW {α:Type} {t e:TypeId} {n:Nat} {ps:Array (Nat × Value)} {z:Value} (g:α→Value) (l:List α) (ht:kI PG t=some (e,1)) (hz:(PG.info? e).bind (·.zero)=some z) (hn:l.length=n) (h0:0 < n) (hsz:n≤1000)
  (hf:Instr.fill (fun i=>some (i * 1,1)) ((Array.range (n * 1)).map (z.cells[· % z.cells.size]!)) ps.toList=some (l.map g).toArray) (w:World) :
  (ar t n ps).run PG w=.ok (.value (.slice (some ⟨w.heap.size,0,none⟩) n n)) (w.alloc (aq e (l.map g))):=by
 have:=gm (P:=PG) (w:=w) (t:=t) (e:=e) (n:=n) (size:=1) (ps:=ps) (cells:=(l.map g).toArray) (zero:=z) ht (by omega) hz hf (by omega)
 simpa using this
theorem Ho {α:Type} {L:al} {Γ:List Fact} {t e:TypeId} {n:Nat} {ps:Array (Nat × Value)} {z:Value} (g:α→Value) (l:List α) (ht:kI PG t=some (e,1)) (hz:(PG.info? e).bind (·.zero)=some z) (hn:l.length=n) (h0:0 < n) (hsz:n≤1000)
  (hf:Instr.fill (fun i=>some (i * 1,1)) ((Array.range (n * 1)).map (z.cells[· % z.cells.size]!)) ps.toList=some (l.map g).toArray) :
  Loc PG (ar t n ps) ah L Γ fun y L' Γ'=>L'=L∧(∃ b,y.1=some ⟨b,0,none⟩)∧Γ'=Sl 1 (fun x=>[g x]) y l::Γ :=
 Loc.val fun r w F H hF hsp=>⟨(some ⟨w.heap.size,0,none⟩,n,n),_,L,_,F.ins w.heap.size (aq e (l.map g)),.inl (GW g l ht hz hn h0 hsz hf w),hsp.new_le _,
  Holds.cons (A:=Sl 1 (fun x=>[g x]) (some ⟨w.heap.size,0,none⟩,n,n) l) ⟨hn.symm,.inr ⟨⟨w.heap.size,0,none⟩,l.map g,e,rfl,rfl,by simp [Heap.ins],by
   rw [G0]; show List.take (1 * l.length) (l.map g)=_; rw [List.take_of_length_le (by simp)]⟩⟩ (hF.mono (hsp.new_le _)),hsp.newF _,rfl,⟨w.heap.size,rfl⟩,rfl⟩
theorem fc {ε σ β α:Type} {I:av ε σ} {t1:Ty} {Rel:β→t1.den→al→Fact} {Δ:Labels ε σ β} {q:Option Quiet} {L:al} {Γ:List Fact} {s:Sp ε σ β} {t e:TypeId} {n:Nat} {ps:Array (Nat × Value)} {z:Value} {k:aI→T} (g:α→Value) (l:List α)
  (ht:kI PG t=some (e,1)) (hz:(PG.info? e).bind (·.zero)=some z) (hn:l.length=n) (h0:0 < n) (hsz:n≤1000)
  (hf:Instr.fill (fun i=>some (i * 1,1)) ((Array.range (n * 1)).map (z.cells[· % z.cells.size]!)) ps.toList=some (l.map g).toArray)
  (hk:∀ y b,y.1=some ⟨b,0,none⟩→Sim PG I t1 Rel Δ none (k y) s L (Sl 1 (fun x=>[g x]) y l::Γ)):Sim PG I t1 Rel Δ q (.op (ar t n ps) ah k) s L Γ:=by
 refine aQ (Ho g l ht hz hn h0 hsz hf) ?_
 rintro x _ _ ⟨rfl,⟨b,hb⟩,rfl⟩
 exact hk x b hb
abbrev dH (l:List ByteArray) (x:aI):Fact:=Sl 1 (fun s:ByteArray=>[Value.string s]) x l
def FH (l:List ByteArray) (x:aI):Fact:=(Fact.prop (x.1.isNone=l.isEmpty)).both (dH l x)
theorem DU {ε σ:Type} (I:av ε σ) (n:Nat) (hn:n≤10):Meets PG I (aa kz #[.int .i64 n]) ah (Pure.pure (i7 n)) FH []:=by
 refine wF n ?_
 unfold kZ
 refine fc (z:=.string kE) (e:=aF) Value.string [lJ] (by kernel_rfl) (by kernel_rfl) rfl (by decide) (by decide) (by kernel_rfl) fun r1 b1 h1=>?_
 refine fc (z:=.string kE) (e:=aF) Value.string [lE] (by kernel_rfl) (by kernel_rfl) rfl (by decide) (by decide) (by kernel_rfl) fun r2 b2 h2=>?_
 refine fc (z:=.string kE) (e:=aF) Value.string [j8] (by kernel_rfl) (by kernel_rfl) rfl (by decide) (by decide) (by kernel_rfl) fun r3 b3 h3=>?_
 refine fc (z:=.string kE) (e:=aF) Value.string [pw] (by kernel_rfl) (by kernel_rfl) rfl (by decide) (by decide) (by kernel_rfl) fun r4 b4 h4=>?_
 refine fc (z:=.string kE) (e:=aF) Value.string [uZ] (by kernel_rfl) (by kernel_rfl) rfl (by decide) (by decide) (by kernel_rfl) fun r5 b5 h5=>?_
 refine fc (z:=.string kE) (e:=aF) Value.string [j2,ia] (by kernel_rfl) (by kernel_rfl) rfl (by decide) (by decide) (by kernel_rfl) fun r6 b6 h6=>?_
 refine fc (z:=.string kE) (e:=aF) Value.string [jh,pE,k_gt,p5,FR,kas] (by kernel_rfl) (by kernel_rfl) rfl (by decide) (by decide) (by kernel_rfl) fun r7 b7 h7=>?_
 refine fc (z:=.string kE) (e:=aF) Value.string [pB,pd,j3] (by kernel_rfl) (by kernel_rfl) rfl (by decide) (by decide) (by kernel_rfl) fun r8 b8 h8=>?_
 refine fc (z:=.string kE) (e:=aF) Value.string [rm,ix] (by kernel_rfl) (by kernel_rfl) rfl (by decide) (by decide) (by kernel_rfl) fun r9 b9 h9=>?_
 refine fc (z:=.string kE) (e:=aF) Value.string [ru,wA] (by kernel_rfl) (by kernel_rfl) rfl (by decide) (by decide) (by kernel_rfl) fun r10 b10 h10=>?_
 refine fc (z:=.slice none 0 0) (e:=cO) (fun x:aI=>Value.slice x.1 x.2.1 x.2.2) [r1,r2,r3,r4,r5,r6,r7,r8,r9,r10] (by kernel_rfl) (by kernel_rfl) rfl (by decide) (by decide) (by kernel_rfl) fun r11 b11 h11=>?_
 refine Sim.note (φ:=r11.2.1=10) (fun F hF=>(hF (Sl 1 (fun x:aI=>[Value.slice x.1 x.2.1 x.2.2]) r11 [r1,r2,r3,r4,r5,r6,r7,r8,r9,r10]) (by repeat (first | exact mz | apply ms))).1) fun hl=>?_
 refine qE (fun h=>?_) (fun h=>?_)
 ·have:n=10:=by simp [hl] at h; omega
  subst this
  exact ay (t:=ah) (none,0,0) rfl (fun F hF=>⟨rfl,rfl,.inl rfl⟩)
 ·have hlt:n < 10:=by simp [hl] at h; omega
  have main:∀ (y:aI) (b:Nat) (ss:List ByteArray),[r1,r2,r3,r4,r5,r6,r7,r8,r9,r10][n]? = some y→y.1=some ⟨b,0,none⟩→ss.isEmpty=false→i7 n=ss →
    dH ss y∈[Sl 1 (fun x:aI=>[Value.slice x.1 x.2.1 x.2.2]) r11 [r1,r2,r3,r4,r5,r6,r7,r8,r9,r10],dH [ru,wA] r10,dH [rm,ix] r9,dH [pB,pd,j3] r8,dH [jh,pE,k_gt,p5,FR,kas] r7,
     dH [j2,ia] r6,dH [uZ] r5,dH [pw] r4,dH [j8] r3,dH [lE] r2,dH [lJ] r1] →
    Sim PG I ah (pl FH) noLabel none (.op (aR qJ (.slice r11.1 r11.2.1 r11.2.2) (.int .i64 n)) tA fun r12=>.op (ai cO (.pointer (some r12))) ah fun r13=>.ret #[.v (.slice r13.1 r13.2.1 r13.2.2)]) (Pure.pure (i7 n)) []
     [Sl 1 (fun x:aI=>[Value.slice x.1 x.2.1 x.2.2]) r11 [r1,r2,r3,r4,r5,r6,r7,r8,r9,r10],dH [ru,wA] r10,dH [rm,ix] r9,dH [pB,pd,j3] r8,dH [jh,pE,k_gt,p5,FR,kas] r7,
     dH [j2,ia] r6,dH [uZ] r5,dH [pw] r4,dH [j8] r3,dH [lE] r2,dH [lJ] r1]:=by
   intro y b ss hy hb hss hs hm
   refine aQ (py (f:=fun x:aI=>[Value.slice x.1 x.2.1 x.2.2]) (l:=[r1,r2,r3,r4,r5,r6,r7,r8,r9,r10]) h11 (fun F hF=>hF _ (List.mem_cons_self ..)) (by kernel_rfl) n rfl (by simpa using hlt)) ?_
   rintro _ _ _ ⟨rfl,rfl,rfl⟩
   refine aQ (rb (f:=fun x:aI=>[Value.slice x.1 x.2.1 x.2.2]) (b:=.slice) (fun _=>rfl) h11 (fun F hF=>hF _ (List.mem_cons_self ..)) hy (by kernel_rfl) y rfl) ?_
   rintro _ _ _ ⟨rfl,rfl,rfl⟩
   rw [hs]
   exact ay (t:=ah) y rfl (fun F hF=>⟨by rw [hb,hss]; rfl,hF _ hm⟩)
  have h:n=0∨n=1∨n=2∨n=3∨n=4∨n=5∨n=6∨n=7∨n=8∨n=9:=by omega
  rcases h with rfl | rfl | rfl | rfl | rfl | rfl | rfl | rfl | rfl | rfl
  ·exact main r1 b1 _ rfl h1 rfl rfl (by repeat (first | exact mz | apply ms))
  ·exact main r2 b2 _ rfl h2 rfl rfl (by repeat (first | exact mz | apply ms))
  ·exact main r3 b3 _ rfl h3 rfl rfl (by repeat (first | exact mz | apply ms))
  ·exact main r4 b4 _ rfl h4 rfl rfl (by repeat (first | exact mz | apply ms))
  ·exact main r5 b5 _ rfl h5 rfl rfl (by repeat (first | exact mz | apply ms))
  ·exact main r6 b6 _ rfl h6 rfl rfl (by repeat (first | exact mz | apply ms))
  ·exact main r7 b7 _ rfl h7 rfl rfl (by repeat (first | exact mz | apply ms))
  ·exact main r8 b8 _ rfl h8 rfl rfl (by repeat (first | exact mz | apply ms))
  ·exact main r9 b9 _ rfl h9 rfl rfl (by repeat (first | exact mz | apply ms))
  ·exact main r10 b10 _ rfl h10 rfl rfl (by repeat (first | exact mz | apply ms))
def Gw (pb:Nat) (n:Int) (sl:aI) (pos:Int) (p:Option Addr):T :=
 .loop 1 [.b .ptr,.b (.int .i64)] [.pointer p,.int .i64 0] fun x6 =>
    .ite (decide ((x6.2.1:Int) < (sl.2.1:Int))) (
     .op (aR cO (.slice sl.1 sl.2.1 sl.2.2) (.int .i64 x6.2.1)) tA fun r7 =>
     .op (ai aF (.pointer (some r7))) tS fun r8 =>
     .op (aa ax #[.pointer (some (aL pb)),.string r8]) tB fun r9 =>
     .ite (!r9) (
      .out 1 [.pointer x6.1,.int .i64 (IntKind.i64.wrap (x6.2.1+1))]) (
      .ite (r8.toList==kas.toList) (
       .op (aa ck #[.pointer (some (aL pb))]) tP fun r10 =>
       .op (ar ad 2 #[(0,.pointer x6.1),(1,.pointer r10)]) ah fun r11 =>
       .op (aa am #[.int .i64 33,.string kE,.int .i64 0,.int .i64 pos,.slice r11.1 r11.2.1 r11.2.2]) tP fun r12 =>
       .out 0 [.slice sl.1 sl.2.1 sl.2.2,.int .i64 pos,.pointer r12]) (
       .op (aa dq #[.pointer (some (aL pb)),.int .i64 (IntKind.i64.wrap (n+1))]) tP fun r13 =>
       .op (ar ad 2 #[(0,.pointer x6.1),(1,.pointer r13)]) ah fun r14 =>
       .op (aa am #[.int .i64 24,.string r8,.int .i64 0,.int .i64 pos,.slice r14.1 r14.2.1 r14.2.2]) tP fun r15 =>
       .out 0 [.slice sl.1 sl.2.1 sl.2.2,.int .i64 pos,.pointer r15]))) (
     .ret #[.v (.pointer x6.1)])
def ET (R:aY) (ss:List ByteArray) (below:PM N):Label Int PSt N :=
 {ι:=Nat × Int × N,sp:=fun j=>jT R ss j.2.1 below j.1 j.2.2,
  J:=fun j vs L'=>Fact.ex fun p:Option Addr=>Fact.ex fun sl:aI=>(Fact.prop (vs=[.slice sl.1 sl.2.1 sl.2.2,.int .i64 j.2.1,.pointer p]∧L'=[])).both ((dH ss sl).both (NodeF j.2.2 p)) }
def EG (R:aY) (ss:List ByteArray) (below:PM N) (k:Nat):Label Int PSt N :=
 {ι:={ j:Nat × Int × N // j.1 < k },sp:=fun j=>(ET R ss below).sp j.1,J:=fun j vs L'=>(ET R ss below).J j.1 vs L' }
def nl (R:aY) (ss:List ByteArray) (pos:Int) (below:PM N) (k:Nat) (x:N) (o:Option ByteArray):PM N:=match o with
  | none=>pure x
  | some s=>cond (s.toList==kas.toList) (do let y ← R.typed; jT R ss pos below k (bw 33 kE 0 pos [x,y])) (do let y ← below; jT R ss pos below k (bw 24 s 0 pos [x,y]))
theorem Gz (R:aY) (ss:List ByteArray) (pos:Int) (below:PM N) (k:Nat) (x:N):jT R ss pos below (k+1) x=np ss>>=nl R ss pos below k x:=rfl
theorem yE {R:aY} (hR:cm R) (pb:Nat) (n:Int) (ss:List ByteArray) (hss:ss.length≤10) (pos:Int) (below:PM N) (hb:Meets PG (PI pb) (aa dq #[.pointer (some (aL pb)),.int .i64 (IntKind.i64.wrap (n+1))]) tP below NodeF [])
  {Δ:Labels Int PSt N} {q:Option Quiet} {Γ:List Fact} (k:Nat) (x:N) (p:Option Addr) (sl:aI) (hsl:dH ss sl∈Γ) (hx:NodeF x p∈Γ) (h0:Δ 0=EG R ss below (k+1)) :
  Sim PG (PI pb) tP (pl NodeF) Δ q (Gw pb n sl pos p) (jT R ss pos below (k+1) x) [] Γ:=by
 rw [Gz]
 unfold Gw
 refine go (x:={ ι:={ j:Nat // j≤ss.length },sp:=fun j=>np (ss.drop j.1)>>=nl R ss pos below k x,J:=fun j vs L'=>Fact.prop (vs=[.pointer p,.int .i64 j.1]∧L'=[]) }) (fun j=>ss.length - j.1) ⟨0,Nat.zero_le _⟩ rfl (fun F hF=>⟨rfl,rfl⟩) ?_ ?_
 ·rintro ⟨j,hj⟩ vs L' F ⟨rfl,_⟩; exact ⟨(p,(j:Int),()),rfl⟩
 ·rintro ⟨j,hj⟩ L' ⟨p',j',⟨⟩⟩
  refine Sim.prop fun ⟨hv,hL⟩=>?_
  subst hL
  have h1:=(List.cons.inj hv).1
  have h2:=(List.cons.inj (List.cons.inj hv).2).1
  obtain rfl:p'=p:=by cases h1; rfl
  obtain rfl:j'=(j:Int):=by cases h2; rfl
  refine Sim.note (φ:=sl.2.1=ss.length) (fun F hF=>(hF _ hsl).1) fun hl=>?_
  refine qE (fun h=>?_) (fun h=>?_)
  ·have hlt:j < ss.length:=by simp [hl] at h; omega
   refine Sim.note (φ:=∃ a,sl.1=some a∧a.spot=none) (fun F hF=>Sl.addr (hF _ hsl) (by omega)) fun ⟨a,ha,_⟩=>?_
   have hd:ss.drop j=ss.getD j kE::ss.drop (j+1):=by
    rw [List.drop_eq_getElem_cons hlt]; simp [hlt]
   refine aQ (py ha (fun F hF=>hF _ hsl) (by kernel_rfl) j rfl hlt) ?_
   rintro _ _ _ ⟨rfl,rfl,rfl⟩
   refine aQ (rb (b:=.str) (fun _=>rfl) ha (fun F hF=>hF _ hsl) (getD_some (d:=kE) hlt) (by kernel_rfl) (ss.getD j kE) rfl) ?_
   rintro _ _ _ ⟨rfl,rfl,rfl⟩
   show Sim PG (PI pb) tP (pl NodeF) _ none _ (np (ss.drop j)>>=nl R ss pos below k x) [] _
   rw [hd]
   show Sim PG (PI pb) tP (pl NodeF) _ none _ ((bf (ss.getD j kE)>>=fun b=>cond b (pure (some (ss.getD j kE))) (np (ss.drop (j+1))))>>=nl R ss pos below k x) [] _
   refine sA (ag (aA _ _) (fun _ h=>nomatch h) fun r9 b=>Sim.prop fun h=>?_)
   subst h
   refine qD (fun h=>?_) (fun h=>?_)
   ·refine ct rfl ⟨⟨j+1,hlt⟩,?_⟩ rfl fun F hF=>⟨?_,rfl⟩
    ·show ss.length - (j+1) < ss.length - j; omega
    ·show [Value.pointer p',.int .i64 (IntKind.i64.wrap ((j:Int)+1))]=[.pointer p',.int .i64 ((j+1:Nat):Int)]
     rw [aS (by omega) (by omega)]; simp
   ·show Sim PG (PI pb) tP (pl NodeF) _ none _ (nl R ss pos below k x (some (ss.getD j kE))) [] _
    unfold nl
    refine qA (fun h=>?_) (fun h=>?_)
    ·refine ag (hR.typed _) (fun _ h=>nomatch h) fun r10 n10=>?_
     refine bP [p',r10] [x,n10] rfl (by decide) (by decide) (by kernel_rfl) (fun F hF=>.cons _ _ _ _ (hF (NodeF x p') (List.mem_cons_of_mem _ hx)) (.cons _ _ _ _ (hF (NodeF n10 r10) (by repeat (first | exact mz | apply ms))) .nil)) fun r12=>?_
     refine ct (x:=EG R ss below (k+1)) (by simp [Labels.set,h0]) ⟨(k,pos,bw 33 kE 0 pos [x,n10]),Nat.lt_succ_self k⟩ rfl fun F hF=>⟨r12,sl,⟨rfl,rfl⟩,hF _ (List.mem_cons_of_mem _ (List.mem_cons_of_mem _ hsl)),hF _ (List.mem_cons_self ..)⟩
    ·refine ag hb (fun _ h=>nomatch h) fun r13 n13=>?_
     refine bP [p',r13] [x,n13] rfl (by decide) (by decide) (by kernel_rfl) (fun F hF=>.cons _ _ _ _ (hF (NodeF x p') (List.mem_cons_of_mem _ hx)) (.cons _ _ _ _ (hF (NodeF n13 r13) (by repeat (first | exact mz | apply ms))) .nil)) fun r15=>?_
     refine ct (x:=EG R ss below (k+1)) (by simp [Labels.set,h0]) ⟨(k,pos,bw 24 (ss.getD j kE) 0 pos [x,n13]),Nat.lt_succ_self k⟩ rfl fun F hF=>⟨r15,sl,⟨rfl,rfl⟩,hF _ (List.mem_cons_of_mem _ (List.mem_cons_of_mem _ hsl)),hF _ (List.mem_cons_self ..)⟩
  ·have hge:ss.length≤j:=by simp [hl] at h; omega
   refine Sim.spec (s':=pure x) ?_ (ay (t:=tP) p' rfl (fun F hF=>hF _ hx))
   show (np (ss.drop j)>>=nl R ss pos below k x)=_
   rw [List.drop_eq_nil_of_le hge]; rfl
theorem vA (n:Nat):(i7 n).length≤10:=by unfold i7; split<;>simp
theorem IJ {R:aY} (hR:cm R) (pb:Nat):∀ m,m≤10→Meets PG (PI pb) (aa dq #[.pointer (some (aL pb)),.int .i64 ((10 - m:Nat):Int)]) tP (jR R m) NodeF []:=by
 intro m
 induction m with
 | zero =>
  intro _
  refine o9 (aL pb) 10 ?_
  unfold it
  refine ea (x:={ ι:=Empty,sp:=fun i=>i.elim,J:=fun i=>i.elim }) ?_ fun i=>i.elim
  refine kH (DU _ 10 (Nat.le_refl _)) (fun _ h=>nomatch h) fun r1=>Sim.both (Sim.prop fun h1=>?_)
  refine aQ (ey (t1:=tB) r1.1.isNone fun w=>yU (e:=aF) (n:=1) (by kernel_rfl) r1 w) ?_
  rintro _ _ _ ⟨rfl,rfl,rfl⟩
  refine qE (fun h=>?_) (fun h=>?_)
  ·refine af (El hR _) (fun _ h=>nomatch h) fun r3 n3=>?_
   exact ay (t:=tP) _ rfl (fun F hF=>hF _ (by repeat (first | exact mz | apply ms)))
  ·rw [h1] at h; cases h
 | succ m ih =>
  intro hm
  have hn:10 - (m+1)=9 - m:=by omega
  rw [hn]
  have hb:Meets PG (PI pb) (aa dq #[.pointer (some (aL pb)),.int .i64 (IntKind.i64.wrap (((9 - m:Nat):Int)+1))]) tP (jR R m) NodeF []:=by
   have h:=ih (by omega)
   rw [aS (by omega) (by omega),show ((9 - m:Nat):Int)+1=((10 - m:Nat):Int) by omega]
   exact h
  have hss:(i7 (9 - m)).isEmpty=false:=by
   have h:m=0∨m=1∨m=2∨m=3∨m=4∨m=5∨m=6∨m=7∨m=8∨m=9:=by omega
   rcases h with rfl | rfl | rfl | rfl | rfl | rfl | rfl | rfl | rfl | rfl<;>rfl
  refine o9 (aL pb) ((9 - m:Nat):Int) ?_
  unfold it
  refine ea (x:=EG R (i7 (9 - m)) (jR R m) R.fuel) ?_ fun i vs L'=>⟨?_,fun y=>?_⟩
  ·refine kH (DU _ (9 - m) (by omega)) (fun _ h=>nomatch h) fun r1=>Sim.both (Sim.prop fun h1=>?_)
   refine aQ (ey (t1:=tB) r1.1.isNone fun w=>yU (e:=aF) (n:=1) (by kernel_rfl) r1 w) ?_
   rintro _ _ _ ⟨rfl,rfl,rfl⟩
   refine qE (fun h=>?_) (fun h=>?_)
   ·rw [h1,hss] at h; cases h
   ·show Sim PG (PI pb) tP (pl NodeF) _ none _ (cg>>=fun t=>jR R m>>=fun x=>jT R (i7 (9 - m)) t.pos (jR R m) R.fuel x) [] _
    refine ag (aZ _) (fun _ h=>nomatch h) fun r4 b=>Sim.prop fun h=>?_
    subst h
    refine ag hb (fun _ h=>nomatch h) fun r5 n5=>?_
    cases hf:R.fuel with
    | zero=>intro r w F H st res S hs; cases hs
    | succ k=>exact yE hR pb _ _ (vA _) _ _ hb k n5 r5 r1 (by repeat (first | exact mz | apply ms)) (by repeat (first | exact mz | apply ms)) rfl
  ·rintro F ⟨p,sl,⟨rfl,_⟩,_⟩; exact ⟨(sl,i.1.2.1,p,()),rfl⟩
  ·refine Sim.ex fun p=>Sim.ex fun sl=>Sim.both (Sim.prop fun ⟨hv,hL⟩=>?_)
   subst hL
   refine go (x:=ET R (i7 (9 - m)) (jR R m)) (fun j=>j.1) i.1 rfl (fun F hF=>⟨p,sl,⟨hv,rfl⟩,hF _ (by repeat (first | exact mz | apply ms))⟩) ?_ ?_
   ·rintro j vs L' F ⟨p,sl,⟨rfl,_⟩,_⟩; exact ⟨(sl,j.2.1,p,()),rfl⟩
   ·rintro ⟨k,pos,x⟩ L' ⟨sl',pos',p',⟨⟩⟩
    refine Sim.ex fun p2=>Sim.ex fun sl2=>Sim.both (Sim.prop fun ⟨hv,hL⟩=>Sim.both ?_)
    subst hL
    have e1:=(List.cons.inj hv).1
    have e2:=(List.cons.inj (List.cons.inj hv).2).1
    have e3:=(List.cons.inj (List.cons.inj (List.cons.inj hv).2).2).1
    obtain rfl:pos'=pos:=by cases e2; rfl
    obtain rfl:p'=p2:=by cases e3; rfl
    obtain rfl:sl'=sl2:=by
     obtain ⟨a,b,c⟩:=sl'; obtain ⟨a2,b2,c2⟩:=sl2
     have e1':Value.slice a b c=Value.slice a2 b2 c2:=e1
     cases e1'; rfl
    cases k with
    | zero=>intro r w F H st res S hs; cases hs
    | succ k=>exact yE hR pb _ _ (vA _) _ _ hb k x p' sl' (by repeat (first | exact mz | apply ms)) (by repeat (first | exact mz | apply ms)) rfl
end Go.Proofs.YtjlgcpgjdgeejaaGreatDoor
end

section
namespace Go.Proofs.YtjlgcpgjdgeejaaGreatDoor
open Go
set_option linter.unusedSimpArgs false
set_option linter.unusedVariables false
set_option linter.constructorNameAsVariable false
set_option maxRecDepth 100000
theorem G1 (pb:Nat):MeetsO PG (PI pb) (aa cx #[.pointer (some (aL pb))]) tP fi cR []:=by
 refine kv (aL pb) ?_
 unfold fX fi
 refine ag (aZ pb) (fun _ h=>nomatch h) fun x b=>Sim.prop fun h=>?_
 subst h
 refine gb fun y K=>?_
 exact rZ (t:=tP) K (List.sublist_append_left ..) _ rfl (fun F hF=>hF _ (List.mem_cons_self ..))
theorem zb {R:aY} (hR:cm R) (pb:Nat) (pos:Int):Meets PG (PI pb) (aa js #[.pointer (some (aL pb)),.int .i64 pos]) tP (t6 R pos) NodeF []:=by
 refine up (aL pb) pos ?_
 unfold jo t6
 (with_reducible repeat (first | refine sA ?_ | refine sB ?_ | refine sC ?_ | refine sD ?_ | refine sE ?_ | refine sF ?_))
 first | refine ag (eX _) (fun _ h=>nomatch h) fun r1 nr1=>?_ | refine af (eX _) (fun _ h=>nomatch h) fun r1 nr1=>?_
 (with_reducible repeat (first | refine sA ?_ | refine sB ?_ | refine sC ?_ | refine sD ?_ | refine sE ?_ | refine sF ?_))
 refine iC (G1 _) (fun _ h=>nomatch h) fun r2 nr2 Kr2=>?_
 (with_reducible repeat (first | refine sA ?_ | refine sB ?_ | refine sC ?_ | refine sD ?_ | refine sE ?_ | refine sF ?_))
 first | refine ag (aZ _) (fun _ h=>nomatch h) fun r3 b=>Sim.prop fun h=>?_ | refine af (aZ _) (fun _ h=>nomatch h) fun r3 b=>Sim.prop fun h=>?_
 subst h
 refine DN ?_ fun nx1 nx2 x1 x2=>?_
 ·skip
  (with_reducible repeat (first | refine sA ?_ | refine sB ?_ | refine sC ?_ | refine sD ?_ | refine sE ?_ | refine sF ?_))
  (first | refine qA (fun h=>?_) fun h=>?_ | refine qB (fun h=>?_) fun h=>?_ | refine qC (fun h=>?_) fun h=>?_ | refine qD (fun h=>?_) fun h=>?_ | refine qE (fun h=>?_) fun h=>?_) -- ((r3.1:Int)==1)
  ·skip
   (with_reducible repeat (first | refine sA ?_ | refine sB ?_ | refine sC ?_ | refine sD ?_ | refine sE ?_ | refine sF ?_))
   first | refine ag (bU _) (fun _ h=>nomatch h) fun r4 b=>Sim.prop fun h=>?_ | refine af (bU _) (fun _ h=>nomatch h) fun r4 b=>Sim.prop fun h=>?_
   subst h
   (with_reducible repeat (first | refine sA ?_ | refine sB ?_ | refine sC ?_ | refine sD ?_ | refine sE ?_ | refine sF ?_))
   first | refine ag (du _) (fun _ h=>nomatch h) fun r5 nr5=>?_ | refine af (du _) (fun _ h=>nomatch h) fun r5 nr5=>?_
   refine bP [r5] [nr5] rfl (by decide) (by decide) (by kernel_rfl) (fun F hF=>(.cons _ _ _ _ (hF (NodeF nr5 r5) (by repeat (first | exact mz | apply ms))) .nil)) fun r7=>?_
   refine aQ (uc [r7] rfl (by decide) (by decide) (by kernel_rfl)) ?_
   rintro sl _ _ ⟨rfl,rfl⟩
   refine qZ (n:=nr2) (ps:=[r7]) (kids:=[bw 66 r4 0 pos [nr5]]) (by repeat (first | exact mz | apply ms)) (fun F hF=>⟨hF _ (List.mem_cons_self ..),.cons _ _ _ _ (hF (NodeF (bw 66 r4 0 pos [nr5]) r7) (by repeat (first | exact mz | apply ms))) .nil⟩) ?_
   exact yG (nr1,nr2.setKids [bw 66 r4 0 pos [nr5]]) rfl (by repeat (first | exact mz | apply ms)) (by repeat (first | exact mz | apply ms))
  ·skip
   (with_reducible repeat (first | refine sA ?_ | refine sB ?_ | refine sC ?_ | refine sD ?_ | refine sE ?_ | refine sF ?_))
   first | refine ag (i6 hR _) (fun _ h=>nomatch h) fun r11 nr11=>?_ | refine af (i6 hR _) (fun _ h=>nomatch h) fun r11 nr11=>?_
   (with_reducible repeat (first | refine sA ?_ | refine sB ?_ | refine sC ?_ | refine sD ?_ | refine sE ?_ | refine sF ?_))
   first | refine ag (aG _ _) (fun _ h=>nomatch h) fun x b=>?_ | refine af (aG _ _) (fun _ h=>nomatch h) fun x b=>?_
   (with_reducible repeat (first | refine sA ?_ | refine sB ?_ | refine sC ?_ | refine sD ?_ | refine sE ?_ | refine sF ?_))
   first | refine ag (fN hR _ _) (fun _ h=>nomatch h) fun r13 nr13=>?_ | refine af (fN hR _ _) (fun _ h=>nomatch h) fun r13 nr13=>?_
   (with_reducible repeat (first | refine sA ?_ | refine sB ?_ | refine sC ?_ | refine sD ?_ | refine sE ?_ | refine sF ?_))
   first | refine ag (aG _ _) (fun _ h=>nomatch h) fun x b=>?_ | refine af (aG _ _) (fun _ h=>nomatch h) fun x b=>?_
   exact yG (nr11,nr13) rfl (by repeat (first | exact mz | apply ms)) (by repeat (first | exact mz | apply ms))
 ·skip
  (with_reducible repeat (first | refine sA ?_ | refine sB ?_ | refine sC ?_ | refine sD ?_ | refine sE ?_ | refine sF ?_))
  first | refine ag (aG _ _) (fun _ h=>nomatch h) fun x b=>?_ | refine af (aG _ _) (fun _ h=>nomatch h) fun x b=>?_
  (with_reducible repeat (first | refine sA ?_ | refine sB ?_ | refine sC ?_ | refine sD ?_ | refine sE ?_ | refine sF ?_))
  first | refine ag (cc _ _) (fun _ h=>nomatch h) fun r17 b=>Sim.prop fun h=>?_ | refine af (cc _ _) (fun _ h=>nomatch h) fun r17 b=>Sim.prop fun h=>?_
  subst h
  (with_reducible repeat (first | refine sA ?_ | refine sB ?_ | refine sC ?_ | refine sD ?_ | refine sE ?_ | refine sF ?_))
  (first | refine qA (fun h=>?_) fun h=>?_ | refine qB (fun h=>?_) fun h=>?_ | refine qC (fun h=>?_) fun h=>?_ | refine qD (fun h=>?_) fun h=>?_ | refine qE (fun h=>?_) fun h=>?_) -- r17
  ·skip
   (with_reducible repeat (first | refine sA ?_ | refine sB ?_ | refine sC ?_ | refine sD ?_ | refine sE ?_ | refine sF ?_))
   first | refine ag (hR.block _) (fun _ h=>nomatch h) fun r18 nr18=>?_ | refine af (hR.block _) (fun _ h=>nomatch h) fun r18 nr18=>?_
   refine bP [x1,x2,r18] [nx1,nx2,nr18] rfl (by decide) (by decide) (by kernel_rfl) (fun F hF=>(.cons _ _ _ _ (hF (NodeF nx1 x1) (by repeat (first | exact mz | apply ms))) (.cons _ _ _ _ (hF (NodeF nx2 x2) (by repeat (first | exact mz | apply ms))) (.cons _ _ _ _ (hF (NodeF nr18 r18) (by repeat (first | exact mz | apply ms))) .nil)))) fun r20=>?_
   (with_reducible repeat (first | refine sA ?_ | refine sB ?_ | refine sC ?_ | refine sD ?_ | refine sE ?_ | refine sF ?_))
   exact ay (t:=tP) _ rfl (fun F hF=>hF _ (by repeat (first | exact mz | apply ms)))
  ·skip
   (with_reducible repeat (first | refine sA ?_ | refine sB ?_ | refine sC ?_ | refine sD ?_ | refine sE ?_ | refine sF ?_))
   first | refine ag (hR.expr _) (fun _ h=>nomatch h) fun r21 nr21=>?_ | refine af (hR.expr _) (fun _ h=>nomatch h) fun r21 nr21=>?_
   refine bP [x1,x2,r21] [nx1,nx2,nr21] rfl (by decide) (by decide) (by kernel_rfl) (fun F hF=>(.cons _ _ _ _ (hF (NodeF nx1 x1) (by repeat (first | exact mz | apply ms))) (.cons _ _ _ _ (hF (NodeF nx2 x2) (by repeat (first | exact mz | apply ms))) (.cons _ _ _ _ (hF (NodeF nr21 r21) (by repeat (first | exact mz | apply ms))) .nil)))) fun r23=>?_
   (with_reducible repeat (first | refine sA ?_ | refine sB ?_ | refine sC ?_ | refine sD ?_ | refine sE ?_ | refine sF ?_))
   exact ay (t:=tP) _ rfl (fun F hF=>hF _ (by repeat (first | exact mz | apply ms)))
theorem GF {R:aY} (hR:cm R) (pb:Nat):Meets PG (PI pb) (aa mI #[.pointer (some (aL pb))]) tP (sx R) NodeF []:=by
 refine zv (aL pb) ?_
 unfold lP sx
 (with_reducible repeat (first | refine sA ?_ | refine sB ?_ | refine sC ?_ | refine sD ?_ | refine sE ?_ | refine sF ?_))
 first | refine ag (aZ _) (fun _ h=>nomatch h) fun r1 b=>Sim.prop fun h=>?_ | refine af (aZ _) (fun _ h=>nomatch h) fun r1 b=>Sim.prop fun h=>?_
 subst h
 refine ag (IJ hR _ 10 (by decide)) (fun _ h=>nomatch h) fun r2 nr2=>?_
 (with_reducible repeat (first | refine sA ?_ | refine sB ?_ | refine sC ?_ | refine sD ?_ | refine sE ?_ | refine sF ?_))
 first | refine ag (aA _ _) (fun _ h=>nomatch h) fun r3 b=>Sim.prop fun h=>?_ | refine af (aA _ _) (fun _ h=>nomatch h) fun r3 b=>Sim.prop fun h=>?_
 subst h
 (with_reducible repeat (first | refine sA ?_ | refine sB ?_ | refine sC ?_ | refine sD ?_ | refine sE ?_ | refine sF ?_))
 (first | refine qA (fun h=>?_) fun h=>?_ | refine qB (fun h=>?_) fun h=>?_ | refine qC (fun h=>?_) fun h=>?_ | refine qD (fun h=>?_) fun h=>?_ | refine qE (fun h=>?_) fun h=>?_) -- (!r3)
 ·skip
  (with_reducible repeat (first | refine sA ?_ | refine sB ?_ | refine sC ?_ | refine sD ?_ | refine sE ?_ | refine sF ?_))
  exact ay (t:=tP) _ rfl (fun F hF=>hF _ (by repeat (first | exact mz | apply ms)))
 ·skip
  (with_reducible repeat (first | refine sA ?_ | refine sB ?_ | refine sC ?_ | refine sD ?_ | refine sE ?_ | refine sF ?_))
  first | refine ag (hR.expr _) (fun _ h=>nomatch h) fun r4 nr4=>?_ | refine af (hR.expr _) (fun _ h=>nomatch h) fun r4 nr4=>?_
  (with_reducible repeat (first | refine sA ?_ | refine sB ?_ | refine sC ?_ | refine sD ?_ | refine sE ?_ | refine sF ?_))
  first | refine ag (aG _ _) (fun _ h=>nomatch h) fun x b=>?_ | refine af (aG _ _) (fun _ h=>nomatch h) fun x b=>?_
  (with_reducible repeat (first | refine sA ?_ | refine sB ?_ | refine sC ?_ | refine sD ?_ | refine sE ?_ | refine sF ?_))
  first | refine ag (hR.expr _) (fun _ h=>nomatch h) fun r6 nr6=>?_ | refine af (hR.expr _) (fun _ h=>nomatch h) fun r6 nr6=>?_
  refine bP [r2,r4,r6] [nr2,nr4,nr6] rfl (by decide) (by decide) (by kernel_rfl) (fun F hF=>(.cons _ _ _ _ (hF (NodeF nr2 r2) (by repeat (first | exact mz | apply ms))) (.cons _ _ _ _ (hF (NodeF nr4 r4) (by repeat (first | exact mz | apply ms))) (.cons _ _ _ _ (hF (NodeF nr6 r6) (by repeat (first | exact mz | apply ms))) .nil)))) fun r8=>?_
  (with_reducible repeat (first | refine sA ?_ | refine sB ?_ | refine sC ?_ | refine sD ?_ | refine sE ?_ | refine sF ?_))
  exact ay (t:=tP) _ rfl (fun F hF=>hF _ (by repeat (first | exact mz | apply ms)))
theorem Jl {R:aY} (hR:cm R) (pb:Nat):Meets PG (PI pb) (aa bL #[.pointer (some (aL pb))]) tP (E8 R (sx R)) NodeF []:=by
 refine AA (aL pb) ?_
 unfold mM E8
 (with_reducible repeat (first | refine sA ?_ | refine sB ?_ | refine sC ?_ | refine sD ?_ | refine sE ?_ | refine sF ?_))
 first | refine ag (aZ _) (fun _ h=>nomatch h) fun r1 b=>Sim.prop fun h=>?_ | refine af (aZ _) (fun _ h=>nomatch h) fun r1 b=>Sim.prop fun h=>?_
 subst h
 (with_reducible repeat (first | refine sA ?_ | refine sB ?_ | refine sC ?_ | refine sD ?_ | refine sE ?_ | refine sF ?_))
 first | refine ag (Ef _) (fun _ h=>nomatch h) fun r2 b=>Sim.prop fun h=>?_ | refine af (Ef _) (fun _ h=>nomatch h) fun r2 b=>Sim.prop fun h=>?_
 subst h
 (with_reducible repeat (first | refine sA ?_ | refine sB ?_ | refine sC ?_ | refine sD ?_ | refine sE ?_ | refine sF ?_))
 (first | refine qA (fun h=>?_) fun h=>?_ | refine qB (fun h=>?_) fun h=>?_ | refine qC (fun h=>?_) fun h=>?_ | refine qD (fun h=>?_) fun h=>?_ | refine qE (fun h=>?_) fun h=>?_) -- r2
 ·skip
  (with_reducible repeat (first | refine sA ?_ | refine sB ?_ | refine sC ?_ | refine sD ?_ | refine sE ?_ | refine sF ?_))
  first | refine ag (zb hR _ _) (fun _ h=>nomatch h) fun r3 nr3=>?_ | refine af (zb hR _ _) (fun _ h=>nomatch h) fun r3 nr3=>?_
  (with_reducible repeat (first | refine sA ?_ | refine sB ?_ | refine sC ?_ | refine sD ?_ | refine sE ?_ | refine sF ?_))
  exact ay (t:=tP) _ rfl (fun F hF=>hF _ (by repeat (first | exact mz | apply ms)))
 ·skip
  (with_reducible repeat (first | refine sA ?_ | refine sB ?_ | refine sC ?_ | refine sD ?_ | refine sE ?_ | refine sF ?_))
  first | refine ag (GF hR _) (fun _ h=>nomatch h) fun r4 nr4=>?_ | refine af (GF hR _) (fun _ h=>nomatch h) fun r4 nr4=>?_
  (with_reducible repeat (first | refine sA ?_ | refine sB ?_ | refine sC ?_ | refine sD ?_ | refine sE ?_ | refine sF ?_))
  first | refine ag (aZ _) (fun _ h=>nomatch h) fun r5 b=>Sim.prop fun h=>?_ | refine af (aZ _) (fun _ h=>nomatch h) fun r5 b=>Sim.prop fun h=>?_
  subst h
  (with_reducible repeat (first | refine sA ?_ | refine sB ?_ | refine sC ?_ | refine sD ?_ | refine sE ?_ | refine sF ?_))
  first | refine ag (aA _ _) (fun _ h=>nomatch h) fun r6 b=>Sim.prop fun h=>?_ | refine af (aA _ _) (fun _ h=>nomatch h) fun r6 b=>Sim.prop fun h=>?_
  subst h
  first | refine cP ?_ fun x11=>?_ | refine dB ?_ fun x11=>?_
  ·skip
   (with_reducible repeat (first | refine sA ?_ | refine sB ?_ | refine sC ?_ | refine sD ?_ | refine sE ?_ | refine sF ?_))
   (first | refine qA (fun h=>?_) fun h=>?_ | refine qB (fun h=>?_) fun h=>?_ | refine qC (fun h=>?_) fun h=>?_ | refine qD (fun h=>?_) fun h=>?_ | refine qE (fun h=>?_) fun h=>?_) -- r6
   ·skip
    exact aV _ rfl (by first | rfl | (simp only [Tok.kind] at *; simp_all))
   ·skip
    (with_reducible repeat (first | refine sA ?_ | refine sB ?_ | refine sC ?_ | refine sD ?_ | refine sE ?_ | refine sF ?_))
    first | refine ag (aA _ _) (fun _ h=>nomatch h) fun r7 b=>Sim.prop fun h=>?_ | refine af (aA _ _) (fun _ h=>nomatch h) fun r7 b=>Sim.prop fun h=>?_
    subst h
    (with_reducible repeat (first | refine sA ?_ | refine sB ?_ | refine sC ?_ | refine sD ?_ | refine sE ?_ | refine sF ?_))
    (first | refine qA (fun h=>?_) fun h=>?_ | refine qB (fun h=>?_) fun h=>?_ | refine qC (fun h=>?_) fun h=>?_ | refine qD (fun h=>?_) fun h=>?_ | refine qE (fun h=>?_) fun h=>?_) -- r7
    ·skip
     exact aV _ rfl (by first | rfl | (simp only [Tok.kind] at *; simp_all))
    ·skip
     (with_reducible repeat (first | refine sA ?_ | refine sB ?_ | refine sC ?_ | refine sD ?_ | refine sE ?_ | refine sF ?_))
     first | refine ag (aA _ _) (fun _ h=>nomatch h) fun r8 b=>Sim.prop fun h=>?_ | refine af (aA _ _) (fun _ h=>nomatch h) fun r8 b=>Sim.prop fun h=>?_
     subst h
     (with_reducible repeat (first | refine sA ?_ | refine sB ?_ | refine sC ?_ | refine sD ?_ | refine sE ?_ | refine sF ?_))
     (first | refine qA (fun h=>?_) fun h=>?_ | refine qB (fun h=>?_) fun h=>?_ | refine qC (fun h=>?_) fun h=>?_ | refine qD (fun h=>?_) fun h=>?_ | refine qE (fun h=>?_) fun h=>?_) -- r8
     ·skip
      exact aV _ rfl (by first | rfl | (simp only [Tok.kind] at *; simp_all))
     ·skip
      (with_reducible repeat (first | refine sA ?_ | refine sB ?_ | refine sC ?_ | refine sD ?_ | refine sE ?_ | refine sF ?_))
      first | refine ag (aA _ _) (fun _ h=>nomatch h) fun r9 b=>Sim.prop fun h=>?_ | refine af (aA _ _) (fun _ h=>nomatch h) fun r9 b=>Sim.prop fun h=>?_
      subst h
      (with_reducible repeat (first | refine sA ?_ | refine sB ?_ | refine sC ?_ | refine sD ?_ | refine sE ?_ | refine sF ?_))
      (first | refine qA (fun h=>?_) fun h=>?_ | refine qB (fun h=>?_) fun h=>?_ | refine qC (fun h=>?_) fun h=>?_ | refine qD (fun h=>?_) fun h=>?_ | refine qE (fun h=>?_) fun h=>?_) -- r9
      ·skip
       exact aV _ rfl (by first | rfl | (simp only [Tok.kind] at *; simp_all))
      ·skip
       (with_reducible repeat (first | refine sA ?_ | refine sB ?_ | refine sC ?_ | refine sD ?_ | refine sE ?_ | refine sF ?_))
       first | refine ag (aA _ _) (fun _ h=>nomatch h) fun r10 b=>Sim.prop fun h=>?_ | refine af (aA _ _) (fun _ h=>nomatch h) fun r10 b=>Sim.prop fun h=>?_
       subst h
       exact aV _ rfl (by first | rfl | (simp only [Tok.kind] at *; simp_all))
  ·skip
   (with_reducible repeat (first | refine sA ?_ | refine sB ?_ | refine sC ?_ | refine sD ?_ | refine sE ?_ | refine sF ?_))
   (first | refine qA (fun h=>?_) fun h=>?_ | refine qB (fun h=>?_) fun h=>?_ | refine qC (fun h=>?_) fun h=>?_ | refine qD (fun h=>?_) fun h=>?_ | refine qE (fun h=>?_) fun h=>?_) -- x11.1
   ·skip
    first | refine cP ?_ fun x18=>?_ | refine dB ?_ fun x18=>?_
    ·skip
     refine ju (by repeat (first | exact mz | apply ms)) ?_
     (with_reducible repeat (first | refine sA ?_ | refine sB ?_ | refine sC ?_ | refine sD ?_ | refine sE ?_ | refine sF ?_))
     refine qE (fun h17=>?_) (fun h17=>?_)
     ·skip
      refine ju (by repeat (first | exact mz | apply ms)) ?_
      (with_reducible repeat (first | refine sA ?_ | refine sB ?_ | refine sC ?_ | refine sD ?_ | refine sE ?_ | refine sF ?_))
      refine qE (fun h29=>?_) (fun h29=>?_)
      ·skip
       refine ju (by repeat (first | exact mz | apply ms)) ?_
       exact aV _ rfl (by show cond (nr4.kind != 17&&nr4.kind != 29&&nr4.kind != 30) _ _=_; rw [show (nr4.kind != 17)=true from h17,show (nr4.kind != 29)=true from h29]; rfl)
      ·skip
       exact aV _ rfl (by show cond (nr4.kind != 17&&nr4.kind != 29&&nr4.kind != 30) _ _=_; rw [show (nr4.kind != 17)=true from h17,show (nr4.kind != 29)=false from h29]; rfl)
     ·skip
      exact aV _ rfl (by show cond (nr4.kind != 17&&nr4.kind != 29&&nr4.kind != 30) _ _=_; rw [show (nr4.kind != 17)=false from h17]; rfl)
    ·skip
     (with_reducible repeat (first | refine sA ?_ | refine sB ?_ | refine sC ?_ | refine sD ?_ | refine sE ?_ | refine sF ?_))
     (first | refine qA (fun h=>?_) fun h=>?_ | refine qB (fun h=>?_) fun h=>?_ | refine qC (fun h=>?_) fun h=>?_ | refine qD (fun h=>?_) fun h=>?_ | refine qE (fun h=>?_) fun h=>?_) -- x18.1
     ·skip
      exact dV (β1:=Unit) (Rel1:=fun _ _ _=>Fact.prop True) (fS _) (fun _ h=>nomatch h) (by first | exact dW | exact ed _)
     ·skip
      (with_reducible repeat (first | refine sA ?_ | refine sB ?_ | refine sC ?_ | refine sD ?_ | refine sE ?_ | refine sF ?_))
      first | refine ag (hR.expr _) (fun _ h=>nomatch h) fun r23 nr23=>?_ | refine af (hR.expr _) (fun _ h=>nomatch h) fun r23 nr23=>?_
      refine bP [r4,r23] [nr4,nr23] rfl (by decide) (by decide) (by kernel_rfl) (fun F hF=>(.cons _ _ _ _ (hF (NodeF nr4 r4) (by repeat (first | exact mz | apply ms))) (.cons _ _ _ _ (hF (NodeF nr23 r23) (by repeat (first | exact mz | apply ms))) .nil))) fun r25=>?_
      (with_reducible repeat (first | refine sA ?_ | refine sB ?_ | refine sC ?_ | refine sD ?_ | refine sE ?_ | refine sF ?_))
      exact ay (t:=tP) _ rfl (fun F hF=>hF _ (by repeat (first | exact mz | apply ms)))
   ·skip
    (with_reducible repeat (first | refine sA ?_ | refine sB ?_ | refine sC ?_ | refine sD ?_ | refine sE ?_ | refine sF ?_))
    exact ay (t:=tP) _ rfl (fun F hF=>hF _ (by repeat (first | exact mz | apply ms)))
end Go.Proofs.YtjlgcpgjdgeejaaGreatDoor
end

section
namespace Go.Proofs.YtjlgcpgjdgeejaaGreatDoor
open Go
set_option linter.unusedVariables false
set_option maxRecDepth 100000
noncomputable section
def wr:An :=
 .s (.r [none]) (.s (.r [none,some (.c (.agg [.int .i64,.str,.int .i64,.int .i64])),none,some tP,none]) (.s (.r [none,some tU]) (.s (.j [] (.b (.l [] (.s (.s (.r [none,some tB,none]) (.c (.x) (.x))) (.b (.d (.q 0 none (.q 1 none (.q 2 (some tA) (.q 3 none (.q 4 (some ah) (.q 5 none (.l 6 (some tP) (.l 7 (some ah) (.l 8 (some ah) (.q 9 (some tA) (.q 10 none (.l 11 (some tU) (.e))))))))))))))))))) (.s (.r [none,some tU]) (.s (.r [none,none]) (.x))))))
def kt (a0_p:Addr):T :=
 .op (aa aH #[.pointer (some a0_p)]) (.c (.agg [.int .i64,.str,.int .i64,.int .i64])) fun r1 =>
 .op (aa am #[.int .i64 63,.string kE,.int .i64 0,.int .i64 r1.2.2.1,.slice none 0 0]) tP fun r2 =>
 .op (aa aB #[.pointer (some a0_p),.string k_lc]) tU fun _ =>
 .join 0 [] (
 .loop 1 [] [] fun x4 =>
 .op (aa bg #[.pointer (some a0_p),.string k_rc]) tB fun r5 =>
 .ite (!r5) (
 .draw <|
 .opq (bV (.pointer r2)) tA fun r6 =>
 .opq (ai ad (.pointer (some ⟨r6.block,r6.off+5,none⟩))) ah fun r7 =>
 .opl (aa di #[.pointer (some a0_p)]) tP fun r8 =>
 .opl (ar ad 1 #[(0,.pointer r8)]) ah fun r9 =>
 .opl (dg #[ad,ad] ad #[.slice r7.1 r7.2.1 r7.2.2,.slice r9.1 r9.2.1 r9.2.2]) ah fun r10 =>
 .opq (bV (.pointer r2)) tA fun r11 =>
 .op (aW ad (.pointer (some ⟨r11.block,r11.off+5,none⟩)) (.slice r10.1 r10.2.1 r10.2.2)) tU fun _ =>
 .out 1 []) (
 .out 0 [])) fun x13 =>
 .op (aa aB #[.pointer (some a0_p),.string k_rc]) tU fun _ =>
 .ret #[.v (.pointer r2)]
theorem wG (a0_p:Addr):bh Tryz.prog Tryz.f133 wr [.pointer (some a0_p)]=kt a0_p:=by kernel_rfl
theorem wE {ε σ β:Type} {I:av ε σ} {t:Ty} {s:Sp ε σ β} {Rel:β→t.den→al→Fact} {Γ:List Fact} (a0_p:Addr) (h:Sim Tryz.prog I t Rel noLabel none (kt a0_p) s [] Γ):MeetsO Tryz.prog I (aa cl #[.pointer (some a0_p)]) t s Rel Γ :=
 aj (args:=[.pointer (some a0_p)]) Tryz.func133 rfl rfl (Nat.le_of_ble_eq_true rfl) (by rw [wG]; exact h)
def vP:An :=
 .s (.r [none]) (.s (.r [none,some tU]) (.s (.r [none,some tP,none]) (.s (.r [none,some tU]) (.s (.r [none,none]) (.x)))))
def kU (a0_p:Addr):T :=
 .op (aa aB #[.pointer (some a0_p),.string k_lp]) tU fun _ =>
 .op (aa bL #[.pointer (some a0_p)]) tP fun r2 =>
 .op (aa aB #[.pointer (some a0_p),.string k_rp]) tU fun _ =>
 .ret #[.v (.pointer r2)]
theorem xI (a0_p:Addr):bh Tryz.prog Tryz.f136 vP [.pointer (some a0_p)]=kU a0_p:=by kernel_rfl
theorem yi {ε σ β:Type} {I:av ε σ} {t:Ty} {s:Sp ε σ β} {Rel:β→t.den→al→Fact} {Γ:List Fact} (a0_p:Addr) (h:Sim Tryz.prog I t Rel noLabel none (kU a0_p) s [] Γ):MeetsO Tryz.prog I (aa iz #[.pointer (some a0_p)]) t s Rel Γ :=
 aj (args:=[.pointer (some a0_p)]) Tryz.func136 rfl rfl (Nat.le_of_ble_eq_true rfl) (by rw [xI]; exact h)
def vI:An :=
 .s (.r [none]) (.s (.r [none,some tP,none]) (.s (.s (.j [(18,.b .bool)] (.r [none,none,none,none,some tB,none,none])) (.c (.r [none,some tP,none]) (.x))) (.s (.r [none,some tU]) (.s (.r [none,none,none,some ah,some tP,none]) (.x)))))
def ld (a0_p:Addr) (a1_kind:Int) (a2_at:Int) (a3_may:Bool):T :=
 .op (aa cE #[.pointer (some a0_p)]) tP fun r1 =>
 .join 0 [.b .bool] (
 .ite (!a3_may) (
 .out 0 [.bool true]) (
 .op (aa bg #[.pointer (some a0_p),.string cS]) tB fun r2 =>
 .out 0 [.bool (!r2)])) fun x3 =>
 .ite x3.1 (
 .op (aa bL #[.pointer (some a0_p)]) tP fun r4 =>
 .op (aa aB #[.pointer (some a0_p),.string cS]) tU fun _ =>
 .op (ar ad 1 #[(0,.pointer r4)]) ah fun r6 =>
 .op (aa am #[.int .i64 a1_kind,.string kE,.int .i64 0,.int .i64 a2_at,.slice r6.1 r6.2.1 r6.2.2]) tP fun r7 =>
 .ret #[.v (.pointer r7)]) (
 .op (aa aB #[.pointer (some a0_p),.string cS]) tU fun _ =>
 .op (ar ad 1 #[(0,.pointer r1)]) ah fun r9 =>
 .op (aa am #[.int .i64 a1_kind,.string kE,.int .i64 0,.int .i64 a2_at,.slice r9.1 r9.2.1 r9.2.2]) tP fun r10 =>
 .ret #[.v (.pointer r10)])
theorem wK (a0_p:Addr) (a1_kind:Int) (a2_at:Int) (a3_may:Bool):bh Tryz.prog Tryz.f138 vI [.pointer (some a0_p),.int .i64 a1_kind,.int .i64 a2_at,.bool a3_may]=ld a0_p a1_kind a2_at a3_may:=by kernel_rfl
theorem yj {ε σ β:Type} {I:av ε σ} {t:Ty} {s:Sp ε σ β} {Rel:β→t.den→al→Fact} {Γ:List Fact} (a0_p:Addr) (a1_kind:Int) (a2_at:Int) (a3_may:Bool) (h:Sim Tryz.prog I t Rel noLabel none (ld a0_p a1_kind a2_at a3_may) s [] Γ):MeetsO Tryz.prog I (aa fR #[.pointer (some a0_p),.int .i64 a1_kind,.int .i64 a2_at,.bool a3_may]) t s Rel Γ :=
 aj (args:=[.pointer (some a0_p),.int .i64 a1_kind,.int .i64 a2_at,.bool a3_may]) Tryz.func138 rfl rfl (Nat.le_of_ble_eq_true rfl) (by rw [wK]; exact h)
def q6:An :=
 .s (.r [none]) (.s (.r [none,some (.c (.agg [.int .i64,.str,.int .i64,.int .i64])),some tA,some tU]) (.s (.s (.r [none,some tI,none]) (.j [] (.c (.s (.r [none,some (.c (.agg [.int .i64,.str,.int .i64,.int .i64])),some tP,none]) (.s (.r [none,some tB]) (.c (.s (.r [none,none]) (.x)) (.x)))) (.x)))) (.s (.b (.s (.r [none,some tB,none]) (.c (.s (.r [none,some tP,none]) (.x)) (.s (.r [none,some tB,none]) (.c (.s (.r [none,some tI,some tP,none]) (.x)) (.s (.r [none,some tB,none]) (.c (.s (.r [none,some tP,none]) (.x)) (.s (.r [none,some tB,none]) (.c (.s (.r [none,some tP,none]) (.s (.d (.q 0 none (.q 1 (some tI) (.q 2 none (.q 3 none (.l 4 (some tP) (.l 5 (some ah) (.l 6 (some tP) (.q 7 none (.e)))))))))) (.x))) (.s (.r [none,some tB,none]) (.c (.s (.r [none,none,some tI,some tP,none]) (.x)) (.s (.r [none,some tB,none]) (.c (.s (.r [none,none,some tI,some tP,none]) (.x)) (.s (.r [none,some tB,none]) (.c (.s (.r [none,none,some tI,some tP,none]) (.x)) (.s (.r [none,some tB,none]) (.c (.s (.r [none,some tU]) (.s (.r [none,some tI,some tP,none]) (.x))) (.s (.r [none,some tB,none]) (.c (.s (.r [none,some tU]) (.s (.r [none,some tI,some tP,none]) (.x))) (.s (.r [none,some tB,none]) (.c (.s (.r [none,none,some tI,some tP,none]) (.x)) (.x)))))))))))))))))))))) (.s (.r [none,none,some tI,some tP,none]) (.x)))))
def ic (a0_a0:Addr):T :=
 .op (aa aH #[.pointer (some a0_a0)]) (.c (.agg [.int .i64,.str,.int .i64,.int .i64])) fun r1 =>
 .op (bj ae) tA fun r2 =>
 .op (aW ae (.pointer (some r2)) (.agg #[.int .i64 r1.1,.string r1.2.1,.int .i64 r1.2.2.1,.int .i64 r1.2.2.2.1])) tU fun _ =>
 .op (ai ak (.pointer (some r2))) tI fun r4 =>
 .join 0 [] (
 .ite ((r4:Int)==2) (
 .op (ai ae (.pointer (some r2))) (.c (.agg [.int .i64,.str,.int .i64,.int .i64])) fun r5 =>
 .op (aa dM #[.pointer (some a0_a0),.agg #[.int .i64 r5.1,.string r5.2.1,.int .i64 r5.2.2.1,.int .i64 r5.2.2.2.1]]) tP fun r6 =>
 .op (bT .neq ba (.pointer r6) (.pointer none)) tB fun r7 =>
 .ite r7 (
 .ret #[.v (.pointer r6)]) (
 .out 0 [])) (
 .out 0 [])) fun x8 =>
 .op (aa bg #[.pointer (some a0_a0),.string k_lc]) tB fun r9 =>
 .ite r9 (
 .op (aa cl #[.pointer (some a0_a0)]) tP fun r10 =>
 .ret #[.v (.pointer r10)]) (
 .op (aa ax #[.pointer (some a0_a0),.string cS]) tB fun r11 =>
 .ite r11 (
 .op (ai ak (.pointer (some ⟨r2.block,r2.off+2,none⟩))) tI fun r12 =>
 .op (aa am #[.int .i64 65,.string kE,.int .i64 0,.int .i64 r12,.slice none 0 0]) tP fun r13 =>
 .ret #[.v (.pointer r13)]) (
 .op (aa bg #[.pointer (some a0_a0),.string D5]) tB fun r14 =>
 .ite r14 (
 .op (aa fw #[.pointer (some a0_a0)]) tP fun r15 =>
 .ret #[.v (.pointer r15)]) (
 .op (aa ax #[.pointer (some a0_a0),.string Gr]) tB fun r16 =>
 .ite r16 (
 .op (aa iz #[.pointer (some a0_a0)]) tP fun r17 =>
 .draw <|
 .opq (ai ak (.pointer (some ⟨r2.block,r2.off+2,none⟩))) tI fun r18 =>
 .opl (aa cl #[.pointer (some a0_a0)]) tP fun r19 =>
 .opl (ar ad 2 #[(0,.pointer r17),(1,.pointer r19)]) ah fun r20 =>
 .opl (aa am #[.int .i64 54,.string kE,.int .i64 0,.int .i64 r18,.slice r20.1 r20.2.1 r20.2.2]) tP fun r21 =>
 .ret #[.v (.pointer r21)]) (
 .op (aa ax #[.pointer (some a0_a0),.string JL]) tB fun r22 =>
 .ite r22 (
 .op (ai ak (.pointer (some ⟨r2.block,r2.off+2,none⟩))) tI fun r23 =>
 .op (aa mF #[.pointer (some a0_a0),.int .i64 r23]) tP fun r24 =>
 .ret #[.v (.pointer r24)]) (
 .op (aa ax #[.pointer (some a0_a0),.string Ee]) tB fun r25 =>
 .ite r25 (
 .op (ai ak (.pointer (some ⟨r2.block,r2.off+2,none⟩))) tI fun r26 =>
 .op (aa fR #[.pointer (some a0_a0),.int .i64 57,.int .i64 r26,.bool true]) tP fun r27 =>
 .ret #[.v (.pointer r27)]) (
 .op (aa ax #[.pointer (some a0_a0),.string FY]) tB fun r28 =>
 .ite r28 (
 .op (ai ak (.pointer (some ⟨r2.block,r2.off+2,none⟩))) tI fun r29 =>
 .op (aa fR #[.pointer (some a0_a0),.int .i64 60,.int .i64 r29,.bool false]) tP fun r30 =>
 .ret #[.v (.pointer r30)]) (
 .op (aa ax #[.pointer (some a0_a0),.string Fu]) tB fun r31 =>
 .ite r31 (
 .op (aa aB #[.pointer (some a0_a0),.string cS]) tU fun _ =>
 .op (ai ak (.pointer (some ⟨r2.block,r2.off+2,none⟩))) tI fun r33 =>
 .op (aa am #[.int .i64 58,.string kE,.int .i64 0,.int .i64 r33,.slice none 0 0]) tP fun r34 =>
 .ret #[.v (.pointer r34)]) (
 .op (aa ax #[.pointer (some a0_a0),.string yP]) tB fun r35 =>
 .ite r35 (
 .op (aa aB #[.pointer (some a0_a0),.string cS]) tU fun _ =>
 .op (ai ak (.pointer (some ⟨r2.block,r2.off+2,none⟩))) tI fun r37 =>
 .op (aa am #[.int .i64 59,.string kE,.int .i64 0,.int .i64 r37,.slice none 0 0]) tP fun r38 =>
 .ret #[.v (.pointer r38)]) (
 .op (aa ax #[.pointer (some a0_a0),.string Jz]) tB fun r39 =>
 .ite r39 (
 .op (ai ak (.pointer (some ⟨r2.block,r2.off+2,none⟩))) tI fun r40 =>
 .op (aa nz #[.pointer (some a0_a0),.int .i64 r40]) tP fun r41 =>
 .ret #[.v (.pointer r41)]) (
 .op (ai ak (.pointer (some ⟨r2.block,r2.off+2,none⟩))) tI fun r42 =>
 .op (aa fR #[.pointer (some a0_a0),.int .i64 64,.int .i64 r42,.bool false]) tP fun r43 =>
 .ret #[.v (.pointer r43)]))))))))))
theorem rg (a0_a0:Addr):bh Tryz.prog Tryz.f86 q6 [.pointer (some a0_a0)]=ic a0_a0:=by kernel_rfl
theorem rf {ε σ β:Type} {I:av ε σ} {t:Ty} {s:Sp ε σ β} {Rel:β→t.den→al→Fact} {Γ:List Fact} (a0_a0:Addr) (h:Sim Tryz.prog I t Rel noLabel none (ic a0_a0) s [] Γ):MeetsO Tryz.prog I (aa di #[.pointer (some a0_a0)]) t s Rel Γ :=
 aj (args:=[.pointer (some a0_a0)]) Tryz.func86 rfl rfl (Nat.le_of_ble_eq_true rfl) (by rw [rg]; exact h)
def uA:An :=
 .s (.r [none]) (.s (.r [none,some (.c (.agg [.int .i64,.str,.int .i64,.int .i64])),none,none]) (.s (.r [none,some tU]) (.s (.r [none,some tP,none]) (.s (.r [none,some tP,none]) (.s (.r [none,some tP,none]) (.s (.s (.r [none,some tB]) (.c (.s (.r [none,some tB]) (.c (.r [none,some tP,none]) (.r [none,some tP,none]))) (.x))) (.s (.r [none,none,none,none,some ah,some tP,none]) (.x))))))))
def jH (a0_p:Addr):T :=
 .op (aa aH #[.pointer (some a0_p)]) (.c (.agg [.int .i64,.str,.int .i64,.int .i64])) fun r1 =>
 .op (aa aB #[.pointer (some a0_p),.string D5]) tU fun _ =>
 .op (aa iz #[.pointer (some a0_p)]) tP fun r3 =>
 .op (aa cl #[.pointer (some a0_p)]) tP fun r4 =>
 .op (aa cE #[.pointer (some a0_p)]) tP fun r5 =>
 .op (aa ax #[.pointer (some a0_p),.string HJ]) tB fun r6 =>
 .ite r6 (
 .op (aa bg #[.pointer (some a0_p),.string D5]) tB fun r7 =>
 .ite r7 (
 .op (aa fw #[.pointer (some a0_p)]) tP fun r8 =>
 .op (ar ad 3 #[(0,.pointer r3),(1,.pointer r4),(2,.pointer r8)]) ah fun r9 =>
 .op (aa am #[.int .i64 53,.string kE,.int .i64 0,.int .i64 r1.2.2.1,.slice r9.1 r9.2.1 r9.2.2]) tP fun r10 =>
 .ret #[.v (.pointer r10)]) (
 .op (aa cl #[.pointer (some a0_p)]) tP fun r11 =>
 .op (ar ad 3 #[(0,.pointer r3),(1,.pointer r4),(2,.pointer r11)]) ah fun r12 =>
 .op (aa am #[.int .i64 53,.string kE,.int .i64 0,.int .i64 r1.2.2.1,.slice r12.1 r12.2.1 r12.2.2]) tP fun r13 =>
 .ret #[.v (.pointer r13)])) (
 .op (ar ad 3 #[(0,.pointer r3),(1,.pointer r4),(2,.pointer r5)]) ah fun r14 =>
 .op (aa am #[.int .i64 53,.string kE,.int .i64 0,.int .i64 r1.2.2.1,.slice r14.1 r14.2.1 r14.2.2]) tP fun r15 =>
 .ret #[.v (.pointer r15)])
theorem uX (a0_p:Addr):bh Tryz.prog Tryz.f135 uA [.pointer (some a0_p)]=jH a0_p:=by kernel_rfl
theorem u6 {ε σ β:Type} {I:av ε σ} {t:Ty} {s:Sp ε σ β} {Rel:β→t.den→al→Fact} {Γ:List Fact} (a0_p:Addr) (h:Sim Tryz.prog I t Rel noLabel none (jH a0_p) s [] Γ):MeetsO Tryz.prog I (aa fw #[.pointer (some a0_p)]) t s Rel Γ :=
 aj (args:=[.pointer (some a0_p)]) Tryz.func135 rfl rfl (Nat.le_of_ble_eq_true rfl) (by rw [uX]; exact h)
def xi:An :=
 .s (.r [some tA,none]) (.s (.r [some tP,some tU]) (.s (.s (.j [(31,.b .bool)] (.r [some tP,some tB,none,some tP,some tB,none,none,some tP,some (.c (.agg [.int .i64,.str,.int .i64,.int .i64])),none,none,none,none,some tP,some (.c (.agg [.int .i64,.str,.int .i64,.int .i64])),some tB,none])) (.c (.s (.r [none]) (.s (.s (.r [some tP,some (.c (.agg [.int .i64,.str,.int .i64,.int .i64])),none,none]) (.j [(5,.b (.int .i64))] (.c (.r [none]) (.x)))) (.s (.r [some tP,some tS,none]) (.s (.r [some tP,some tU]) (.s (.r [some tP,some tP,none]) (.s (.r [some tP,some tU]) (.s (.r [none,none,none,none,some tP,some tP,some ah,some tP,none]) (.x)))))))) (.x))) (.s (.r [some tP,some tP,none]) (.s (.s (.r [some tP,some (.c (.agg [.int .i64,.str,.int .i64,.int .i64])),none,none]) (.s (.r [some tP,some tB]) (.j [(8,.b .ptr)] (.c (.r [some tP,none,some tP,none]) (.x))))) (.s (.r [some tP,some tU]) (.s (.r [none,none]) (.s (.r [none,some tP,none]) (.s (.r [none,some tP,none]) (.s (.r [none,none,none,none,some tP,some tP,some ah,some tP,none]) (.x))))))))))
def mq (a0_a0:Addr) (a1_a1:Int):T :=
 .op (cJ aE (.pointer (some a0_a0))) tA fun r1 =>
 .op (ai aE (.pointer (some r1))) tP fun r2 =>
 .op (aa aB #[.pointer r2,.string k_lp]) tU fun _ =>
 .join 0 [.b .bool] (
 .op (ai aE (.pointer (some r1))) tP fun r4 =>
 .op (aa bg #[.pointer r4,.string rW]) tB fun r5 =>
 .ite r5 (
 .op (ai aE (.pointer (some r1))) tP fun r6 =>
 .op (aa dl #[.pointer r6,.int .i64 1]) (.c (.agg [.int .i64,.str,.int .i64,.int .i64])) fun r7 =>
 .ite ((r7.1:Int)==1) (
 .op (ai aE (.pointer (some r1))) tP fun r8 =>
 .op (aa dl #[.pointer r8,.int .i64 2]) (.c (.agg [.int .i64,.str,.int .i64,.int .i64])) fun r9 =>
 .op (aa cQ #[.agg #[.int .i64 r9.1,.string r9.2.1,.int .i64 r9.2.2.1,.int .i64 r9.2.2.2.1],.string Gd]) tB fun r10 =>
 .out 0 [.bool r10]) (
 .out 0 [.bool false])) (
 .op (ai aE (.pointer (some r1))) tP fun r11 =>
 .op (aa bg #[.pointer r11,.string kconst]) tB fun r12 =>
 .ite r12 (
 .op (ai aE (.pointer (some r1))) tP fun r13 =>
 .op (aa dl #[.pointer r13,.int .i64 1]) (.c (.agg [.int .i64,.str,.int .i64,.int .i64])) fun r14 =>
 .ite ((r14.1:Int)==1) (
 .op (ai aE (.pointer (some r1))) tP fun r15 =>
 .op (aa dl #[.pointer r15,.int .i64 2]) (.c (.agg [.int .i64,.str,.int .i64,.int .i64])) fun r16 =>
 .op (aa cQ #[.agg #[.int .i64 r16.1,.string r16.2.1,.int .i64 r16.2.2.1,.int .i64 r16.2.2.2.1],.string Gd]) tB fun r17 =>
 .out 0 [.bool r17]) (
 .out 0 [.bool false])) (
 .out 0 [.bool false]))) fun x18 =>
 .ite x18.1 (
 .op (ai aE (.pointer (some r1))) tP fun r19 =>
 .op (aa bZ #[.pointer r19]) (.c (.agg [.int .i64,.str,.int .i64,.int .i64])) fun r20 =>
 .join 0 [.b (.int .i64)] (
 .ite (r20.2.1.toList==kconst.toList) (
 .out 0 [.int .i64 1]) (
 .out 0 [.int .i64 0])) fun x21 =>
 .op (ai aE (.pointer (some r1))) tP fun r22 =>
 .op (aa bu #[.pointer r22]) tS fun r23 =>
 .op (ai aE (.pointer (some r1))) tP fun r24 =>
 .op (aa aB #[.pointer r24,.string Gd]) tU fun _ =>
 .op (ai aE (.pointer (some r1))) tP fun r26 =>
 .op (aa bL #[.pointer r26]) tP fun r27 =>
 .op (ai aE (.pointer (some r1))) tP fun r28 =>
 .op (aa aB #[.pointer r28,.string k_rp]) tU fun _ =>
 .op (ai aE (.pointer (some r1))) tP fun r30 =>
 .op (aa cl #[.pointer r30]) tP fun r31 =>
 .op (ar ad 2 #[(0,.pointer r27),(1,.pointer r31)]) ah fun r32 =>
 .op (aa am #[.int .i64 56,.string r23,.int .i64 x21.1,.int .i64 a1_a1,.slice r32.1 r32.2.1 r32.2.2]) tP fun r33 =>
 .ret #[.v (.pointer r33)]) (
 .op (ai aE (.pointer (some r1))) tP fun r34 =>
 .op (aa cE #[.pointer r34]) tP fun r35 =>
 .op (ai aE (.pointer (some r1))) tP fun r36 =>
 .op (aa aH #[.pointer r36]) (.c (.agg [.int .i64,.str,.int .i64,.int .i64])) fun r37 =>
 .op (ai aE (.pointer (some r1))) tP fun r38 =>
 .op (aa ax #[.pointer r38,.string rW]) tB fun r39 =>
 .join 0 [.b .ptr] (
 .ite r39 (
 .op (ai aE (.pointer (some r1))) tP fun r40 =>
 .op (aa eD #[.pointer r40,.int .i64 0,.int .i64 r37.2.2.1]) tP fun r41 =>
 .out 0 [.pointer r41]) (
 .out 0 [.pointer r35])) fun x42 =>
 .op (ai aE (.pointer (some r1))) tP fun r43 =>
 .op (aa aB #[.pointer r43,.string cS]) tU fun _ =>
 .op (aK (.func (.func gU) #[] #[.pointer (some r1)]) #[.string cS]) tP fun r45 =>
 .op (aK (.func (.func gU) #[] #[.pointer (some r1)]) #[.string k_rp]) tP fun r46 =>
 .op (ai aE (.pointer (some r1))) tP fun r47 =>
 .op (aa cl #[.pointer r47]) tP fun r48 =>
 .op (ar ad 4 #[(0,.pointer x42.1),(1,.pointer r45),(2,.pointer r46),(3,.pointer r48)]) ah fun r49 =>
 .op (aa am #[.int .i64 55,.string kE,.int .i64 0,.int .i64 a1_a1,.slice r49.1 r49.2.1 r49.2.2]) tP fun r50 =>
 .ret #[.v (.pointer r50)])
theorem z7 (a0_a0:Addr) (a1_a1:Int):bh Tryz.prog Tryz.f137 xi [.pointer (some a0_a0),.int .i64 a1_a1]=mq a0_a0 a1_a1:=by kernel_rfl
theorem AU {ε σ β:Type} {I:av ε σ} {t:Ty} {s:Sp ε σ β} {Rel:β→t.den→al→Fact} {Γ:List Fact} (a0_a0:Addr) (a1_a1:Int) (h:Sim Tryz.prog I t Rel noLabel none (mq a0_a0 a1_a1) s [] Γ):MeetsO Tryz.prog I (aa mF #[.pointer (some a0_a0),.int .i64 a1_a1]) t s Rel Γ :=
 aj (args:=[.pointer (some a0_a0),.int .i64 a1_a1]) Tryz.func137 rfl rfl (Nat.le_of_ble_eq_true rfl) (by rw [z7]; exact h)
def ul:An :=
 .s (.r [none]) (.s (.r [some tP,some tP,none]) (.s (.s (.r [some tP,none,some tB,none]) (.c (.r [some tP,some tP,none]) (.x))) (.s (.r [some tP,none,some tU]) (.s (.r [none,none]) (.x)))))
def jZ (a0_end:ByteArray) (a1_a1:Addr):T :=
 .op (ai aE (.pointer (some a1_a1))) tP fun r1 =>
 .op (aa cE #[.pointer r1]) tP fun r2 =>
 .op (ai aE (.pointer (some a1_a1))) tP fun r3 =>
 .op (aa bg #[.pointer r3,.string a0_end]) tB fun r4 =>
 .ite (!r4) (
 .op (ai aE (.pointer (some a1_a1))) tP fun r5 =>
 .op (aa bL #[.pointer r5]) tP fun r6 =>
 .op (ai aE (.pointer (some a1_a1))) tP fun r7 =>
 .op (aa aB #[.pointer r7,.string a0_end]) tU fun _ =>
 .ret #[.v (.pointer r6)]) (
 .op (ai aE (.pointer (some a1_a1))) tP fun r9 =>
 .op (aa aB #[.pointer r9,.string a0_end]) tU fun _ =>
 .ret #[.v (.pointer r2)])
theorem ve (a0_end:ByteArray) (a1_a1:Addr):bh Tryz.prog Tryz.f189 ul [.string a0_end,.pointer (some a1_a1)]=jZ a0_end a1_a1:=by kernel_rfl
theorem vz {ε σ β:Type} {I:av ε σ} {t:Ty} {s:Sp ε σ β} {Rel:β→t.den→al→Fact} {Γ:List Fact} (a0_end:ByteArray) (a1_a1:Addr) (h:Sim Tryz.prog I t Rel noLabel none (jZ a0_end a1_a1) s [] Γ):MeetsO Tryz.prog I (aa gU #[.string a0_end,.pointer (some a1_a1)]) t s Rel Γ :=
 aj (args:=[.string a0_end,.pointer (some a1_a1)]) Tryz.func189 rfl rfl (Nat.le_of_ble_eq_true rfl) (by rw [ve]; exact h)
def rz:An :=
 .s (.r [none]) (.s (.r [none,some tS,none]) (.s (.r [none,some tP,none]) (.s (.r [none,some tU]) (.s (.r [none,none,none,none,none,some tP,some ah,some tP,none]) (.x)))))
def iV (a0_p:Addr) (a1_n:Int) (a2_at:Int):T :=
 .op (aa bu #[.pointer (some a0_p)]) tS fun r1 =>
 .op (aa dS #[.pointer (some a0_p)]) tP fun r2 =>
 .op (aa aB #[.pointer (some a0_p),.string oC]) tU fun _ =>
 .op (aa bL #[.pointer (some a0_p)]) tP fun r4 =>
 .op (ar ad 2 #[(0,.pointer r2),(1,.pointer r4)]) ah fun r5 =>
 .op (aa am #[.int .i64 40,.string r1,.int .i64 a1_n,.int .i64 a2_at,.slice r5.1 r5.2.1 r5.2.2]) tP fun r6 =>
 .ret #[.v (.pointer r6)]
theorem tc (a0_p:Addr) (a1_n:Int) (a2_at:Int):bh Tryz.prog Tryz.f180 rz [.pointer (some a0_p),.int .i64 a1_n,.int .i64 a2_at]=iV a0_p a1_n a2_at:=by kernel_rfl
theorem tq {ε σ β:Type} {I:av ε σ} {t:Ty} {s:Sp ε σ β} {Rel:β→t.den→al→Fact} {Γ:List Fact} (a0_p:Addr) (a1_n:Int) (a2_at:Int) (h:Sim Tryz.prog I t Rel noLabel none (iV a0_p a1_n a2_at) s [] Γ):MeetsO Tryz.prog I (aa eD #[.pointer (some a0_p),.int .i64 a1_n,.int .i64 a2_at]) t s Rel Γ :=
 aj (args:=[.pointer (some a0_p),.int .i64 a1_n,.int .i64 a2_at]) Tryz.func180 rfl rfl (Nat.le_of_ble_eq_true rfl) (by rw [tc]; exact h)
def At:An :=
 .s (.r [none]) (.s (.r [none,some tP,none]) (.s (.r [none,some tP,none]) (.s (.s (.r [none,some (.c (.agg [.int .i64,.str,.int .i64,.int .i64])),none,none]) (.s (.r [none,some tB]) (.j [(6,.b .ptr)] (.c (.s (.r [none,some tU]) (.s (.r [none,some tS,none]) (.s (.r [none,some tU]) (.r [none,none,none,some tP,some ah,some tP,none])))) (.x))))) (.s (.r [none,some tP,none]) (.s (.s (.r [none,some tB]) (.j [(9,.b .ptr)] (.c (.r [none,some tP,none]) (.x)))) (.s (.s (.j [(50,.b .bool)] (.r [none,some tA,none,none,some tI,none,none,none,some tA,none,none,some tI,none,none])) (.c (.r [none,some tU]) (.x))) (.s (.r [none,none,none,none,some ah,some tP,none]) (.x))))))))
def nu (a0_p:Addr) (a1_at:Int):T :=
 .op (aa cl #[.pointer (some a0_p)]) tP fun r1 =>
 .op (aa cE #[.pointer (some a0_p)]) tP fun r2 =>
 .op (aa aH #[.pointer (some a0_p)]) (.c (.agg [.int .i64,.str,.int .i64,.int .i64])) fun r3 =>
 .op (aa ax #[.pointer (some a0_p),.string FG]) tB fun r4 =>
 .join 0 [.b .ptr] (
 .ite r4 (
 .op (aa aB #[.pointer (some a0_p),.string k_lp]) tU fun _ =>
 .op (aa bu #[.pointer (some a0_p)]) tS fun r6 =>
 .op (aa aB #[.pointer (some a0_p),.string k_rp]) tU fun _ =>
 .op (aa cl #[.pointer (some a0_p)]) tP fun r8 =>
 .op (ar ad 1 #[(0,.pointer r8)]) ah fun r9 =>
 .op (aa am #[.int .i64 62,.string r6,.int .i64 0,.int .i64 r3.2.2.1,.slice r9.1 r9.2.1 r9.2.2]) tP fun r10 =>
 .out 0 [.pointer r10]) (
 .out 0 [.pointer r2])) fun x11 =>
 .op (aa cE #[.pointer (some a0_p)]) tP fun r12 =>
 .op (aa ax #[.pointer (some a0_p),.string B9]) tB fun r13 =>
 .join 0 [.b .ptr] (
 .ite r13 (
 .op (aa cl #[.pointer (some a0_p)]) tP fun r14 =>
 .out 0 [.pointer r14]) (
 .out 0 [.pointer r12])) fun x15 =>
 .join 0 [.b .bool] (
 .op (bV (.pointer x11.1)) tA fun r16 =>
 .op (ai ak (.pointer (some r16))) tI fun r17 =>
 .ite ((r17:Int)==1) (
 .op (bV (.pointer x15.1)) tA fun r18 =>
 .op (ai ak (.pointer (some r18))) tI fun r19 =>
 .out 0 [.bool ((r19:Int)==1)]) (
 .out 0 [.bool false])) fun x20 =>
 .ite x20.1 (
 .op (aa cy #[.pointer (some a0_p)]) tU fun _ =>
 .op (ar ad 3 #[(0,.pointer r1),(1,.pointer x11.1),(2,.pointer x15.1)]) ah fun r22 =>
 .op (aa am #[.int .i64 61,.string kE,.int .i64 0,.int .i64 a1_at,.slice r22.1 r22.2.1 r22.2.2]) tP fun r23 =>
 .ret #[.v (.pointer r23)]) (
 .op (ar ad 3 #[(0,.pointer r1),(1,.pointer x11.1),(2,.pointer x15.1)]) ah fun r24 =>
 .op (aa am #[.int .i64 61,.string kE,.int .i64 0,.int .i64 a1_at,.slice r24.1 r24.2.1 r24.2.2]) tP fun r25 =>
 .ret #[.v (.pointer r25)])
theorem Bu (a0_p:Addr) (a1_at:Int):bh Tryz.prog Tryz.f140 At [.pointer (some a0_p),.int .i64 a1_at]=nu a0_p a1_at:=by kernel_rfl
theorem B4 {ε σ β:Type} {I:av ε σ} {t:Ty} {s:Sp ε σ β} {Rel:β→t.den→al→Fact} {Γ:List Fact} (a0_p:Addr) (a1_at:Int) (h:Sim Tryz.prog I t Rel noLabel none (nu a0_p a1_at) s [] Γ):MeetsO Tryz.prog I (aa nz #[.pointer (some a0_p),.int .i64 a1_at]) t s Rel Γ :=
 aj (args:=[.pointer (some a0_p),.int .i64 a1_at]) Tryz.func140 rfl rfl (Nat.le_of_ble_eq_true rfl) (by rw [Bu]; exact h)
def pT:An :=
 .s (.r [some tA,none]) (.s (.b (.s (.j [(13,.b .bool)] (.r [none,some tB,none,none,some (.c (.agg [.int .i64,.str,.int .i64,.int .i64])),some tB,none,none])) (.c (.s (.r [none,some (.c (.agg [.int .i64,.str,.int .i64,.int .i64]))]) (.s (.r [none,none,some tI,some tP,none]) (.x))) (.s (.r [none,some tB,none]) (.c (.s (.r [none,none,some tI,some tP,none]) (.s (.r [none,some tU]) (.s (.r [none,none]) (.x)))) (.s (.r [none,some tB,none]) (.c (.s (.r [none,none,some tI,some tP,none]) (.s (.r [none,some tU]) (.s (.r [none,none]) (.x)))) (.s (.r [none,some tB,none]) (.c (.s (.r [none,none,some tI,some tP,none]) (.x)) (.s (.r [none,some tB,none]) (.c (.s (.r [none,none,some tI,some tP,none]) (.x)) (.s (.r [none,some tB,none]) (.c (.s (.r [none,none,some tI,some tP,none]) (.x)) (.s (.r [none,some tB,none]) (.c (.s (.r [none,none,some tI,some tP,none]) (.x)) (.s (.r [none,some tB,none]) (.c (.s (.r [none,some tS,none]) (.s (.r [none,some tP,none]) (.s (.r [none,some tP,none]) (.s (.d (.q 0 none (.q 1 none (.q 2 (some tI) (.q 3 none (.q 4 none (.q 5 none (.l 6 (some tP) (.l 7 (some ah) (.l 8 (some tP) (.q 9 none (.e)))))))))))) (.x))))) (.s (.r [none,some tB,none]) (.c (.s (.r [none,some tS,none]) (.s (.r [none,some tP,none]) (.s (.r [none,some tU]) (.s (.r [none,some tP,none]) (.s (.r [none,some tU]) (.s (.r [none,none,some tI,none,none,some ah,some tP,none]) (.x))))))) (.x)))))))))))))))))))) (.s (.r [none]) (.x)))
def gu (a0_a0:Addr) (a1_a1:HB [.int .i64,.str,.int .i64,.int .i64]):T :=
 .op (cJ ae (.agg #[.int .i64 a1_a1.1,.string a1_a1.2.1,.int .i64 a1_a1.2.2.1,.int .i64 a1_a1.2.2.2.1])) tA fun r1 =>
 .join 0 [.b .bool] (
 .op (aa bg #[.pointer (some a0_a0),.string kconst]) tB fun r2 =>
 .ite r2 (
 .op (aa dl #[.pointer (some a0_a0),.int .i64 1]) (.c (.agg [.int .i64,.str,.int .i64,.int .i64])) fun r3 =>
 .op (aa cQ #[.agg #[.int .i64 r3.1,.string r3.2.1,.int .i64 r3.2.2.1,.int .i64 r3.2.2.2.1],.string su]) tB fun r4 =>
 .out 0 [.bool r4]) (
 .out 0 [.bool false])) fun x5 =>
 .ite x5.1 (
 .op (aa bZ #[.pointer (some a0_a0)]) (.c (.agg [.int .i64,.str,.int .i64,.int .i64])) fun r6 =>
 .op (ai ak (.pointer (some ⟨r1.block,r1.off+2,none⟩))) tI fun r7 =>
 .op (aa jb #[.pointer (some a0_a0),.int .i64 1,.int .i64 r7]) tP fun r8 =>
 .ret #[.v (.pointer r8)]) (
 .op (aa ax #[.pointer (some a0_a0),.string rW]) tB fun r9 =>
 .ite r9 (
 .op (ai ak (.pointer (some ⟨r1.block,r1.off+2,none⟩))) tI fun r10 =>
 .op (aa eD #[.pointer (some a0_a0),.int .i64 0,.int .i64 r10]) tP fun r11 =>
 .op (aa aB #[.pointer (some a0_a0),.string cS]) tU fun _ =>
 .ret #[.v (.pointer r11)]) (
 .op (aa ax #[.pointer (some a0_a0),.string kconst]) tB fun r13 =>
 .ite r13 (
 .op (ai ak (.pointer (some ⟨r1.block,r1.off+2,none⟩))) tI fun r14 =>
 .op (aa eD #[.pointer (some a0_a0),.int .i64 1,.int .i64 r14]) tP fun r15 =>
 .op (aa aB #[.pointer (some a0_a0),.string cS]) tU fun _ =>
 .ret #[.v (.pointer r15)]) (
 .op (aa ax #[.pointer (some a0_a0),.string za]) tB fun r17 =>
 .ite r17 (
 .op (ai ak (.pointer (some ⟨r1.block,r1.off+2,none⟩))) tI fun r18 =>
 .op (aa fP #[.pointer (some a0_a0),.int .i64 41,.int .i64 r18]) tP fun r19 =>
 .ret #[.v (.pointer r19)]) (
 .op (aa ax #[.pointer (some a0_a0),.string Fo]) tB fun r20 =>
 .ite r20 (
 .op (ai ak (.pointer (some ⟨r1.block,r1.off+2,none⟩))) tI fun r21 =>
 .op (aa kw #[.pointer (some a0_a0),.int .i64 r21]) tP fun r22 =>
 .ret #[.v (.pointer r22)]) (
 .op (aa bg #[.pointer (some a0_a0),.string su]) tB fun r23 =>
 .ite r23 (
 .op (ai ak (.pointer (some ⟨r1.block,r1.off+2,none⟩))) tI fun r24 =>
 .op (aa jb #[.pointer (some a0_a0),.int .i64 0,.int .i64 r24]) tP fun r25 =>
 .ret #[.v (.pointer r25)]) (
 .op (aa ax #[.pointer (some a0_a0),.string vh]) tB fun r26 =>
 .ite r26 (
 .op (ai ak (.pointer (some ⟨r1.block,r1.off+2,none⟩))) tI fun r27 =>
 .op (aa ii #[.pointer (some a0_a0),.int .i64 r27]) tP fun r28 =>
 .ret #[.v (.pointer r28)]) (
 .op (aa ax #[.pointer (some a0_a0),.string uU]) tB fun r29 =>
 .ite r29 (
 .op (aa bu #[.pointer (some a0_a0)]) tS fun r30 =>
 .op (aa eA #[.pointer (some a0_a0)]) tP fun r31 =>
 .op (aa ja #[.pointer (some a0_a0),.string qe]) tP fun r32 =>
 .draw <|
 .opq (ai ak (.pointer (some ⟨r1.block,r1.off+2,none⟩))) tI fun r33 =>
 .opl (aa fm #[.pointer (some a0_a0)]) tP fun r34 =>
 .opl (ar ad 3 #[(0,.pointer r31),(1,.pointer r32),(2,.pointer r34)]) ah fun r35 =>
 .opl (aa am #[.int .i64 51,.string r30,.int .i64 0,.int .i64 r33,.slice r35.1 r35.2.1 r35.2.2]) tP fun r36 =>
 .ret #[.v (.pointer r36)]) (
 .op (aa ax #[.pointer (some a0_a0),.string H9]) tB fun r37 =>
 .ite r37 (
 .op (aa bu #[.pointer (some a0_a0)]) tS fun r38 =>
 .op (aa eA #[.pointer (some a0_a0)]) tP fun r39 =>
 .op (aa aB #[.pointer (some a0_a0),.string oC]) tU fun _ =>
 .op (aa ck #[.pointer (some a0_a0)]) tP fun r41 =>
 .op (aa aB #[.pointer (some a0_a0),.string cS]) tU fun _ =>
 .op (ai ak (.pointer (some ⟨r1.block,r1.off+2,none⟩))) tI fun r43 =>
 .op (ar ad 2 #[(0,.pointer r39),(1,.pointer r41)]) ah fun r44 =>
 .op (aa am #[.int .i64 52,.string r38,.int .i64 0,.int .i64 r43,.slice r44.1 r44.2.1 r44.2.2]) tP fun r45 =>
 .ret #[.v (.pointer r45)]) (
 .ret #[.v (.pointer none)])))))))))
theorem qx (a0_a0:Addr) (a1_a1:HB [.int .i64,.str,.int .i64,.int .i64]):bh Tryz.prog Tryz.f131 pT [.pointer (some a0_a0),.agg #[.int .i64 a1_a1.1,.string a1_a1.2.1,.int .i64 a1_a1.2.2.1,.int .i64 a1_a1.2.2.2.1]]=gu a0_a0 a1_a1:=by kernel_rfl
theorem qs {ε σ β:Type} {I:av ε σ} {t:Ty} {s:Sp ε σ β} {Rel:β→t.den→al→Fact} {Γ:List Fact} (a0_a0:Addr) (a1_a1:HB [.int .i64,.str,.int .i64,.int .i64]) (h:Sim Tryz.prog I t Rel noLabel none (gu a0_a0 a1_a1) s [] Γ):MeetsO Tryz.prog I (aa dM #[.pointer (some a0_a0),.agg #[.int .i64 a1_a1.1,.string a1_a1.2.1,.int .i64 a1_a1.2.2.1,.int .i64 a1_a1.2.2.2.1]]) t s Rel Γ :=
 aj (args:=[.pointer (some a0_a0),.agg #[.int .i64 a1_a1.1,.string a1_a1.2.1,.int .i64 a1_a1.2.2.1,.int .i64 a1_a1.2.2.2.1]]) Tryz.func131 rfl rfl (Nat.le_of_ble_eq_true rfl) (by rw [qx]; exact h)
def rD:An :=
 .s (.r [none]) (.s (.r [none,some tS,none]) (.s (.r [none,some tP,none]) (.s (.r [none,some tU]) (.s (.r [none,some tP,none]) (.s (.r [none,some tU]) (.s (.r [none,some tP,none]) (.s (.r [none,none,none,none,none,none,none,some tP,some ah,some tP,none]) (.x))))))))
def iP (a0_p:Addr) (a1_kind:Int) (a2_at:Int):T :=
 .op (aa bu #[.pointer (some a0_p)]) tS fun r1 =>
 .op (aa eA #[.pointer (some a0_p)]) tP fun r2 =>
 .op (aa aB #[.pointer (some a0_p),.string k_lp]) tU fun _ =>
 .op (aa dQ #[.pointer (some a0_p),.bool false]) tP fun r4 =>
 .op (aa aB #[.pointer (some a0_p),.string k_rp]) tU fun _ =>
 .op (aa dS #[.pointer (some a0_p)]) tP fun r6 =>
 .op (aa cl #[.pointer (some a0_p)]) tP fun r7 =>
 .op (ar ad 4 #[(0,.pointer r2),(1,.pointer r4),(2,.pointer r6),(3,.pointer r7)]) ah fun r8 =>
 .op (aa am #[.int .i64 a1_kind,.string r1,.int .i64 0,.int .i64 a2_at,.slice r8.1 r8.2.1 r8.2.2]) tP fun r9 =>
 .ret #[.v (.pointer r9)]
theorem tg (a0_p:Addr) (a1_kind:Int) (a2_at:Int):bh Tryz.prog Tryz.f181 rD [.pointer (some a0_p),.int .i64 a1_kind,.int .i64 a2_at]=iP a0_p a1_kind a2_at:=by kernel_rfl
theorem tj {ε σ β:Type} {I:av ε σ} {t:Ty} {s:Sp ε σ β} {Rel:β→t.den→al→Fact} {Γ:List Fact} (a0_p:Addr) (a1_kind:Int) (a2_at:Int) (h:Sim Tryz.prog I t Rel noLabel none (iP a0_p a1_kind a2_at) s [] Γ):MeetsO Tryz.prog I (aa fP #[.pointer (some a0_p),.int .i64 a1_kind,.int .i64 a2_at]) t s Rel Γ :=
 aj (args:=[.pointer (some a0_p),.int .i64 a1_kind,.int .i64 a2_at]) Tryz.func181 rfl rfl (Nat.le_of_ble_eq_true rfl) (by rw [tg]; exact h)
def v6:An :=
 .s (.r [none]) (.s (.r [none,some tS,none]) (.s (.r [none,some tP,none]) (.s (.r [none,some tP,none]) (.s (.s (.r [none,some (.c (.agg [.int .i64,.str,.int .i64,.int .i64])),none,none]) (.s (.r [none,some tB]) (.j [(7,.b .ptr)] (.c (.s (.r [none,some tS,none]) (.r [none,none,none,some tP,some ah,some tP,none])) (.x))))) (.s (.r [none,some tP,none]) (.s (.r [none,some tU]) (.s (.r [none,some tP,none]) (.s (.r [none]) (.s (.j [(12,.b (.int .i64))] (.b (.l [(12,.b (.int .i64))] (.s (.s (.r [none,some tB,none]) (.c (.x) (.x))) (.b (.s (.r [none,some tP,none]) (.s (.s (.r [none,some tA,none,none,some tI,none]) (.j [(12,.b (.int .i64))] (.c (.r [none,none,none]) (.x)))) (.r [none,none,some tA,none,some ah,none,some ah,some ah,some tA,none,some tU])))))))) (.s (.s (.r [none,none]) (.c (.r [none,some tU]) (.x))) (.s (.r [none,some tU]) (.s (.r [none,none,none,none,none,none,some ah,some tP,none]) (.x)))))))))))))
def la (a0_a0:Addr) (a1_a1:Int):T :=
 .op (aa bu #[.pointer (some a0_a0)]) tS fun r1 =>
 .op (aa eA #[.pointer (some a0_a0)]) tP fun r2 =>
 .op (aa cE #[.pointer (some a0_a0)]) tP fun r3 =>
 .op (aa aH #[.pointer (some a0_a0)]) (.c (.agg [.int .i64,.str,.int .i64,.int .i64])) fun r4 =>
 .op (aa ax #[.pointer (some a0_a0),.string qe]) tB fun r5 =>
 .join 0 [.b .ptr] (
 .ite r5 (
 .op (aa bu #[.pointer (some a0_a0)]) tS fun r6 =>
 .op (aa eu #[.pointer (some a0_a0)]) tP fun r7 =>
 .op (ar ad 1 #[(0,.pointer r7)]) ah fun r8 =>
 .op (aa am #[.int .i64 43,.string r6,.int .i64 0,.int .i64 r4.2.2.1,.slice r8.1 r8.2.1 r8.2.2]) tP fun r9 =>
 .out 0 [.pointer r9]) (
 .out 0 [.pointer r3])) fun x10 =>
 .op (aa ja #[.pointer (some a0_a0),.string tz]) tP fun r11 =>
 .op (aa aB #[.pointer (some a0_a0),.string k_lc]) tU fun _ =>
 .op (aa cx #[.pointer (some a0_a0)]) tP fun r13 =>
 .join 0 [.b (.int .i64)] (
 .loop 1 [.b (.int .i64)] [.int .i64 0] fun x14 =>
 .op (aa bg #[.pointer (some a0_a0),.string k_rc]) tB fun r15 =>
 .ite (!r15) (
 .op (aa lN #[.pointer (some a0_a0)]) tP fun r16 =>
 .op (bV (.pointer r16)) tA fun r17 =>
 .op (ai ak (.pointer (some r17))) tI fun r18 =>
 .join 2 [.b (.int .i64)] (
 .ite ((r18:Int)==46) (
 .out 2 [.int .i64 (IntKind.i64.wrap (x14.1+1))]) (
 .out 2 [.int .i64 x14.1])) fun x19 =>
 .op (bV (.pointer r13)) tA fun r20 =>
 .op (ai ad (.pointer (some ⟨r20.block,r20.off+5,none⟩))) ah fun r21 =>
 .op (ar ad 1 #[(0,.pointer r16)]) ah fun r22 =>
 .op (dg #[ad,ad] ad #[.slice r21.1 r21.2.1 r21.2.2,.slice r22.1 r22.2.1 r22.2.2]) ah fun r23 =>
 .op (bV (.pointer r13)) tA fun r24 =>
 .op (aW ad (.pointer (some ⟨r24.block,r24.off+5,none⟩)) (.slice r23.1 r23.2.1 r23.2.2)) tU fun _ =>
 .out 1 [.int .i64 x19.1]) (
 .out 0 [.int .i64 x14.1])) fun x26 =>
 .ite (decide ((x26.1:Int) > 1)) (
 .op (aa cy #[.pointer (some a0_a0)]) tU fun _ =>
 .op (aa aB #[.pointer (some a0_a0),.string k_rc]) tU fun _ =>
 .op (ar ad 4 #[(0,.pointer r2),(1,.pointer x10.1),(2,.pointer r11),(3,.pointer r13)]) ah fun r29 =>
 .op (aa am #[.int .i64 42,.string r1,.int .i64 0,.int .i64 a1_a1,.slice r29.1 r29.2.1 r29.2.2]) tP fun r30 =>
 .ret #[.v (.pointer r30)]) (
 .op (aa aB #[.pointer (some a0_a0),.string k_rc]) tU fun _ =>
 .op (ar ad 4 #[(0,.pointer r2),(1,.pointer x10.1),(2,.pointer r11),(3,.pointer r13)]) ah fun r32 =>
 .op (aa am #[.int .i64 42,.string r1,.int .i64 0,.int .i64 a1_a1,.slice r32.1 r32.2.1 r32.2.2]) tP fun r33 =>
 .ret #[.v (.pointer r33)])
theorem xN (a0_a0:Addr) (a1_a1:Int):bh Tryz.prog Tryz.f182 v6 [.pointer (some a0_a0),.int .i64 a1_a1]=la a0_a0 a1_a1:=by kernel_rfl
theorem xZ {ε σ β:Type} {I:av ε σ} {t:Ty} {s:Sp ε σ β} {Rel:β→t.den→al→Fact} {Γ:List Fact} (a0_a0:Addr) (a1_a1:Int) (h:Sim Tryz.prog I t Rel noLabel none (la a0_a0 a1_a1) s [] Γ):MeetsO Tryz.prog I (aa kw #[.pointer (some a0_a0),.int .i64 a1_a1]) t s Rel Γ :=
 aj (args:=[.pointer (some a0_a0),.int .i64 a1_a1]) Tryz.func182 rfl rfl (Nat.le_of_ble_eq_true rfl) (by rw [xN]; exact h)
def yu:An :=
 .s (.r [none]) (.s (.r [none,some (.c (.agg [.int .i64,.str,.int .i64,.int .i64])),none,none]) (.s (.s (.r [none,some tB]) (.c (.s (.r [none,some tU]) (.s (.r [none,some tP,none]) (.s (.r [none,some tU]) (.s (.r [none,none,none,some tP,some ah,some tP,none]) (.x))))) (.x))) (.s (.s (.r [none,some (.c (.agg [.int .i64,.str,.int .i64,.int .i64])),some tA,some tU]) (.s (.j [(40,.b .bool)] (.r [none,some (.c (.agg [.int .i64,.str,.int .i64,.int .i64])),none,none,none,some (.c (.agg [.int .i64,.str,.int .i64,.int .i64])),some tB,none,some (.c (.agg [.int .i64,.str,.int .i64,.int .i64])),some tB,none,none])) (.c (.s (.r [none,none,some tP,none]) (.x)) (.x)))) (.s (.r [none]) (.s (.s (.r [none,some tB]) (.j [(6,.b (.int .i64))] (.c (.r [none]) (.x)))) (.s (.r [none,some tS,none]) (.s (.r [none,some tP,none]) (.s (.r [none,some tP,none]) (.s (.s (.r [none,some tB]) (.c (.r [none,some tP,none]) (.x))) (.s (.r [none,some tU]) (.s (.r [none,none,none,none,none,some ah,some tP,none]) (.x))))))))))))
def mw (a0_a0:Addr):T :=
 .op (aa aH #[.pointer (some a0_a0)]) (.c (.agg [.int .i64,.str,.int .i64,.int .i64])) fun r1 =>
 .op (aa ax #[.pointer (some a0_a0),.string rA]) tB fun r2 =>
 .ite r2 (
 .op (aa aB #[.pointer (some a0_a0),.string k_lp]) tU fun _ =>
 .op (aa dQ #[.pointer (some a0_a0),.bool true]) tP fun r4 =>
 .op (aa aB #[.pointer (some a0_a0),.string k_rp]) tU fun _ =>
 .op (aa cl #[.pointer (some a0_a0)]) tP fun r6 =>
 .op (ar ad 2 #[(0,.pointer r4),(1,.pointer r6)]) ah fun r7 =>
 .op (aa am #[.int .i64 46,.string kE,.int .i64 0,.int .i64 r1.2.2.1,.slice r7.1 r7.2.1 r7.2.2]) tP fun r8 =>
 .ret #[.v (.pointer r8)]) (
 .op (aa dl #[.pointer (some a0_a0),.int .i64 1]) (.c (.agg [.int .i64,.str,.int .i64,.int .i64])) fun r9 =>
 .op (bj ae) tA fun r10 =>
 .op (aW ae (.pointer (some r10)) (.agg #[.int .i64 r9.1,.string r9.2.1,.int .i64 r9.2.2.1,.int .i64 r9.2.2.2.1])) tU fun _ =>
 .join 0 [.b .bool] (
 .op (aa aH #[.pointer (some a0_a0)]) (.c (.agg [.int .i64,.str,.int .i64,.int .i64])) fun r12 =>
 .ite ((r12.1:Int)==1) (
 .op (ai ae (.pointer (some r10))) (.c (.agg [.int .i64,.str,.int .i64,.int .i64])) fun r13 =>
 .op (aa cQ #[.agg #[.int .i64 r13.1,.string r13.2.1,.int .i64 r13.2.2.1,.int .i64 r13.2.2.2.1],.string k_lp]) tB fun r14 =>
 .ite r14 (
 .out 0 [.bool true]) (
 .op (ai ae (.pointer (some r10))) (.c (.agg [.int .i64,.str,.int .i64,.int .i64])) fun r15 =>
 .op (aa cQ #[.agg #[.int .i64 r15.1,.string r15.2.1,.int .i64 r15.2.2.1,.int .i64 r15.2.2.2.1],.string jh]) tB fun r16 =>
 .out 0 [.bool r16])) (
 .out 0 [.bool false])) fun x17 =>
 .ite x17.1 (
 .op (aa fP #[.pointer (some a0_a0),.int .i64 45,.int .i64 r1.2.2.1]) tP fun r18 =>
 .ret #[.v (.pointer r18)]) (
 .op (aa ax #[.pointer (some a0_a0),.string n9]) tB fun r19 =>
 .join 0 [.b (.int .i64)] (
 .ite r19 (
 .out 0 [.int .i64 4]) (
 .out 0 [.int .i64 0])) fun x20 =>
 .op (aa bu #[.pointer (some a0_a0)]) tS fun r21 =>
 .op (aa dS #[.pointer (some a0_a0)]) tP fun r22 =>
 .op (aa cE #[.pointer (some a0_a0)]) tP fun r23 =>
 .op (aa ax #[.pointer (some a0_a0),.string oC]) tB fun r24 =>
 .ite r24 (
 .op (aa bL #[.pointer (some a0_a0)]) tP fun r25 =>
 .op (aa aB #[.pointer (some a0_a0),.string cS]) tU fun _ =>
 .op (ar ad 2 #[(0,.pointer r22),(1,.pointer r25)]) ah fun r27 =>
 .op (aa am #[.int .i64 44,.string r21,.int .i64 x20.1,.int .i64 r1.2.2.1,.slice r27.1 r27.2.1 r27.2.2]) tP fun r28 =>
 .ret #[.v (.pointer r28)]) (
 .op (aa aB #[.pointer (some a0_a0),.string cS]) tU fun _ =>
 .op (ar ad 2 #[(0,.pointer r22),(1,.pointer r23)]) ah fun r30 =>
 .op (aa am #[.int .i64 44,.string r21,.int .i64 x20.1,.int .i64 r1.2.2.1,.slice r30.1 r30.2.1 r30.2.2]) tP fun r31 =>
 .ret #[.v (.pointer r31)])))
theorem ze (a0_a0:Addr):bh Tryz.prog Tryz.f216 yu [.pointer (some a0_a0)]=mw a0_a0:=by kernel_rfl
theorem zs {ε σ β:Type} {I:av ε σ} {t:Ty} {s:Sp ε σ β} {Rel:β→t.den→al→Fact} {Γ:List Fact} (a0_a0:Addr) (h:Sim Tryz.prog I t Rel noLabel none (mw a0_a0) s [] Γ):MeetsO Tryz.prog I (aa lN #[.pointer (some a0_a0)]) t s Rel Γ :=
 aj (args:=[.pointer (some a0_a0)]) Tryz.func216 rfl rfl (Nat.le_of_ble_eq_true rfl) (by rw [ze]; exact h)
def yA:An :=
 .s (.r [none]) (.b (.s (.r [none,some tU]) (.s (.r [none,some tS,none,none,some tP,none]) (.s (.r [none,some tU]) (.s (.x) (.s (.j [] (.b (.l [] (.s (.s (.r [none,some tB,none]) (.c (.x) (.x))) (.b (.s (.r [none,some (.c (.agg [.int .i64,.str,.int .i64,.int .i64])),none,none]) (.s (.r [none,some tS,none]) (.s (.r [none,some tP,none]) (.s (.s (.r [none,some tB]) (.j [(10,.b .ptr)] (.c (.r [none,some tP,none]) (.x)))) (.s (.d (.q 0 none (.q 1 none (.q 2 (some tA) (.q 3 none (.q 4 (some ah) (.q 5 none (.q 6 none (.q 7 none (.l 8 (some ah) (.l 9 (some tP) (.l 10 (some ah) (.l 11 (some ah) (.q 12 (some tA) (.q 13 none (.l 14 (some tU) (.e))))))))))))))))) (.s (.r [none,some tB,none]) (.c (.x) (.x))))))))))))) (.s (.r [none,some tU]) (.s (.r [none,none]) (.x)))))))))
def mE (a0_p:Addr) (a1_n:Int) (a2_at:Int):T :=
 .op (aa aB #[.pointer (some a0_p),.string su]) tU fun _ =>
 .op (aa bu #[.pointer (some a0_p)]) tS fun r2 =>
 .op (aa am #[.int .i64 47,.string r2,.int .i64 a1_n,.int .i64 a2_at,.slice none 0 0]) tP fun r3 =>
 .op (aa aB #[.pointer (some a0_p),.string k_lc]) tU fun _ =>
 .join 0 [] (
 .loop 1 [] [] fun x5 =>
 .op (aa bg #[.pointer (some a0_p),.string k_rc]) tB fun r6 =>
 .ite (!r6) (
 .op (aa aH #[.pointer (some a0_p)]) (.c (.agg [.int .i64,.str,.int .i64,.int .i64])) fun r7 =>
 .op (aa bu #[.pointer (some a0_p)]) tS fun r8 =>
 .op (aa cE #[.pointer (some a0_p)]) tP fun r9 =>
 .op (aa ax #[.pointer (some a0_p),.string oC]) tB fun r10 =>
 .join 2 [.b .ptr] (
 .ite r10 (
 .op (aa bL #[.pointer (some a0_p)]) tP fun r11 =>
 .out 2 [.pointer r11]) (
 .out 2 [.pointer r9])) fun x12 =>
 .draw <|
 .opq (bV (.pointer r3)) tA fun r13 =>
 .opq (ai ad (.pointer (some ⟨r13.block,r13.off+5,none⟩))) ah fun r14 =>
 .opl (ar ad 1 #[(0,.pointer x12.1)]) ah fun r15 =>
 .opl (aa am #[.int .i64 48,.string r8,.int .i64 0,.int .i64 r7.2.2.1,.slice r15.1 r15.2.1 r15.2.2]) tP fun r16 =>
 .opl (ar ad 1 #[(0,.pointer r16)]) ah fun r17 =>
 .opl (dg #[ad,ad] ad #[.slice r14.1 r14.2.1 r14.2.2,.slice r17.1 r17.2.1 r17.2.2]) ah fun r18 =>
 .opq (bV (.pointer r3)) tA fun r19 =>
 .op (aW ad (.pointer (some ⟨r19.block,r19.off+5,none⟩)) (.slice r18.1 r18.2.1 r18.2.2)) tU fun _ =>
 .op (aa ax #[.pointer (some a0_p),.string jB]) tB fun r21 =>
 .ite (!r21) (
 .out 0 []) (
 .out 1 [])) (
 .out 0 [])) fun x22 =>
 .op (aa aB #[.pointer (some a0_p),.string k_rc]) tU fun _ =>
 .ret #[.v (.pointer r3)]
theorem AC (a0_p:Addr) (a1_n:Int) (a2_at:Int):bh Tryz.prog Tryz.f179 yA [.pointer (some a0_p),.int .i64 a1_n,.int .i64 a2_at]=mE a0_p a1_n a2_at:=by kernel_rfl
theorem AB {ε σ β:Type} {I:av ε σ} {t:Ty} {s:Sp ε σ β} {Rel:β→t.den→al→Fact} {Γ:List Fact} (a0_p:Addr) (a1_n:Int) (a2_at:Int) (h:Sim Tryz.prog I t Rel noLabel none (mE a0_p a1_n a2_at) s [] Γ):MeetsO Tryz.prog I (aa jb #[.pointer (some a0_p),.int .i64 a1_n,.int .i64 a2_at]) t s Rel Γ :=
 aj (args:=[.pointer (some a0_p),.int .i64 a1_n,.int .i64 a2_at]) Tryz.func179 rfl rfl (Nat.le_of_ble_eq_true rfl) (by rw [AC]; exact h)
def ra:An :=
 .s (.r [none]) (.s (.r [none,some tS,none,some tP,none]) (.s (.r [none,some tU]) (.s (.j [] (.b (.l [] (.s (.s (.r [none,some tB,none]) (.c (.x) (.x))) (.b (.s (.r [none,some (.c (.agg [.int .i64,.str,.int .i64,.int .i64])),some tA,some tU]) (.s (.s (.r [none,some tB,none]) (.c (.s (.d (.q 0 none (.q 1 none (.q 2 (some tA) (.q 3 none (.q 4 (some ah) (.q 5 none (.l 6 (some tP) (.l 7 (some ah) (.l 8 (some ah) (.q 9 (some tA) (.q 10 none (.l 11 (some tU) (.e)))))))))))))) (.x)) (.x))) (.s (.s (.j [(40,.b .bool)] (.r [none,some tB,none,none,some (.c (.agg [.int .i64,.str,.int .i64,.int .i64])),none,none,none])) (.j [] (.c (.r [none,some tU]) (.x)))) (.s (.r [none,none,some (.c (.agg [.int .i64,.str,.int .i64,.int .i64])),some tP,none]) (.s (.s (.j [(64,.b .bool)] (.r [none,some tB,none,none,some tA,none,none,some tI,none,none,none,some tA,none,none,some tI,none,none,none])) (.j [] (.c (.r [none,some tU]) (.x)))) (.d (.q 0 none (.q 1 none (.q 2 (some tA) (.q 3 none (.q 4 (some ah) (.q 5 none (.q 6 (some tI) (.q 7 none (.l 8 (some ah) (.l 9 (some tP) (.l 10 (some ah) (.l 11 (some ah) (.q 12 (some tA) (.q 13 none (.l 14 (some tU) (.e))))))))))))))))))))))))))) (.s (.r [none,some tU]) (.s (.r [none,none]) (.x))))))
def g9 (a0_a0:Addr) (a1_a1:Int):T :=
 .op (aa bu #[.pointer (some a0_a0)]) tS fun r1 =>
 .op (aa am #[.int .i64 49,.string r1,.int .i64 0,.int .i64 a1_a1,.slice none 0 0]) tP fun r2 =>
 .op (aa aB #[.pointer (some a0_a0),.string k_lc]) tU fun _ =>
 .join 0 [] (
 .loop 1 [] [] fun x4 =>
 .op (aa bg #[.pointer (some a0_a0),.string k_rc]) tB fun r5 =>
 .ite (!r5) (
 .op (aa aH #[.pointer (some a0_a0)]) (.c (.agg [.int .i64,.str,.int .i64,.int .i64])) fun r6 =>
 .op (bj ae) tA fun r7 =>
 .op (aW ae (.pointer (some r7)) (.agg #[.int .i64 r6.1,.string r6.2.1,.int .i64 r6.2.2.1,.int .i64 r6.2.2.2.1])) tU fun _ =>
 .op (aa ax #[.pointer (some a0_a0),.string D7]) tB fun r9 =>
 .ite (!r9) (
 .draw <|
 .opq (bV (.pointer r2)) tA fun r10 =>
 .opq (ai ad (.pointer (some ⟨r10.block,r10.off+5,none⟩))) ah fun r11 =>
 .opl (aa di #[.pointer (some a0_a0)]) tP fun r12 =>
 .opl (ar ad 1 #[(0,.pointer r12)]) ah fun r13 =>
 .opl (dg #[ad,ad] ad #[.slice r11.1 r11.2.1 r11.2.2,.slice r13.1 r13.2.1 r13.2.2]) ah fun r14 =>
 .opq (bV (.pointer r2)) tA fun r15 =>
 .op (aW ad (.pointer (some ⟨r15.block,r15.off+5,none⟩)) (.slice r14.1 r14.2.1 r14.2.2)) tU fun _ =>
 .out 1 []) (
 .join 2 [.b .bool] (
 .op (aa bg #[.pointer (some a0_a0),.string rW]) tB fun r17 =>
 .ite r17 (
 .out 2 [.bool true]) (
 .op (aa aH #[.pointer (some a0_a0)]) (.c (.agg [.int .i64,.str,.int .i64,.int .i64])) fun r18 =>
 .out 2 [.bool ((r18.1:Int) != 2)])) fun x19 =>
 .join 2 [] (
 .ite x19.1 (
 .op (aa cy #[.pointer (some a0_a0)]) tU fun _ =>
 .out 2 []) (
 .out 2 [])) fun x21 =>
 .op (aa aH #[.pointer (some a0_a0)]) (.c (.agg [.int .i64,.str,.int .i64,.int .i64])) fun r22 =>
 .op (aa dM #[.pointer (some a0_a0),.agg #[.int .i64 r22.1,.string r22.2.1,.int .i64 r22.2.2.1,.int .i64 r22.2.2.2.1]]) tP fun r23 =>
 .join 2 [.b .bool] (
 .op (bT .eql ba (.pointer r23) (.pointer none)) tB fun r24 =>
 .ite r24 (
 .out 2 [.bool true]) (
 .op (bV (.pointer r23)) tA fun r25 =>
 .op (ai ak (.pointer (some r25))) tI fun r26 =>
 .ite ((r26:Int)==47) (
 .op (bV (.pointer r23)) tA fun r27 =>
 .op (ai ak (.pointer (some ⟨r27.block,r27.off+2,none⟩))) tI fun r28 =>
 .out 2 [.bool ((r28:Int)==1)]) (
 .out 2 [.bool false]))) fun x29 =>
 .join 2 [] (
 .ite x29.1 (
 .op (aa cy #[.pointer (some a0_a0)]) tU fun _ =>
 .out 2 []) (
 .out 2 [])) fun x31 =>
 .draw <|
 .opq (bV (.pointer r2)) tA fun r32 =>
 .opq (ai ad (.pointer (some ⟨r32.block,r32.off+5,none⟩))) ah fun r33 =>
 .opq (ai ak (.pointer (some ⟨r7.block,r7.off+2,none⟩))) tI fun r34 =>
 .opl (ar ad 1 #[(0,.pointer r23)]) ah fun r35 =>
 .opl (aa am #[.int .i64 50,.string kE,.int .i64 0,.int .i64 r34,.slice r35.1 r35.2.1 r35.2.2]) tP fun r36 =>
 .opl (ar ad 1 #[(0,.pointer r36)]) ah fun r37 =>
 .opl (dg #[ad,ad] ad #[.slice r33.1 r33.2.1 r33.2.2,.slice r37.1 r37.2.1 r37.2.2]) ah fun r38 =>
 .opq (bV (.pointer r2)) tA fun r39 =>
 .op (aW ad (.pointer (some ⟨r39.block,r39.off+5,none⟩)) (.slice r38.1 r38.2.1 r38.2.2)) tU fun _ =>
 .out 1 [])) (
 .out 0 [])) fun x41 =>
 .op (aa aB #[.pointer (some a0_a0),.string k_rc]) tU fun _ =>
 .ret #[.v (.pointer r2)]
theorem rk (a0_a0:Addr) (a1_a1:Int):bh Tryz.prog Tryz.f183 ra [.pointer (some a0_a0),.int .i64 a1_a1]=g9 a0_a0 a1_a1:=by kernel_rfl
theorem rr {ε σ β:Type} {I:av ε σ} {t:Ty} {s:Sp ε σ β} {Rel:β→t.den→al→Fact} {Γ:List Fact} (a0_a0:Addr) (a1_a1:Int) (h:Sim Tryz.prog I t Rel noLabel none (g9 a0_a0 a1_a1) s [] Γ):MeetsO Tryz.prog I (aa ii #[.pointer (some a0_a0),.int .i64 a1_a1]) t s Rel Γ :=
 aj (args:=[.pointer (some a0_a0),.int .i64 a1_a1]) Tryz.func183 rfl rfl (Nat.le_of_ble_eq_true rfl) (by rw [rk]; exact h)
end
end Go.Proofs.YtjlgcpgjdgeejaaGreatDoor
end

section
namespace Go.Proofs.YtjlgcpgjdgeejaaGreatDoor
open Go
set_option linter.unusedSimpArgs false
set_option linter.unusedVariables false
set_option linter.constructorNameAsVariable false
set_option maxRecDepth 100000
theorem FZ (pb:Nat):MeetsO PG (PI pb) (aa cx #[.pointer (some (aL pb))]) tP fi (fun n x K=>(Fact.prop (n.kids=[])).both (cR n x K)) []:=by
 refine kv (aL pb) ?_
 unfold fX fi
 refine ag (aZ pb) (fun _ h=>nomatch h) fun x b=>Sim.prop fun h=>?_
 subst h
 refine gb fun y K=>?_
 exact rZ (t:=tP) K (List.sublist_append_left ..) _ rfl (fun F hF=>⟨rfl,hF _ (List.mem_cons_self ..)⟩)
theorem ID {R:aY} (hR:cm R) (pb:Nat):Meets PG (PI pb) (aa cl #[.pointer (some (aL pb))]) tP (CM R) NodeF []:=by
 refine wE (aL pb) ?_
 unfold kt CM
 (with_reducible repeat (first | refine sA ?_ | refine sB ?_ | refine sC ?_ | refine sD ?_ | refine sE ?_ | refine sF ?_))
 first | refine ag (aZ _) (fun _ h=>nomatch h) fun r1 b=>Sim.prop fun h=>?_ | refine af (aZ _) (fun _ h=>nomatch h) fun r1 b=>Sim.prop fun h=>?_
 subst h
 refine gb fun r2 Kr2=>?_
 (with_reducible repeat (first | refine sA ?_ | refine sB ?_ | refine sC ?_ | refine sD ?_ | refine sE ?_ | refine sF ?_))
 first | refine ag (aG _ _) (fun _ h=>nomatch h) fun x b=>?_ | refine af (aG _ _) (fun _ h=>nomatch h) fun x b=>?_
 refine lI (fun n=>do bC k_rc; pure n) r2 [] ?_ fun n K=>?_
 ·skip
  refine gX (Bh R) R.fuel _ (fun _=>rfl) rfl (by have:=hR.fuel; simp [bw,N.kids]; omega) (by repeat (first | exact mz | apply ms)) fun k n K hn=>?_
  (with_reducible repeat (first | refine sA ?_ | refine sB ?_ | refine sC ?_ | refine sD ?_ | refine sE ?_ | refine sF ?_))
  first | refine ag (cc _ _) (fun _ h=>nomatch h) fun r5 b=>Sim.prop fun h=>?_ | refine af (cc _ _) (fun _ h=>nomatch h) fun r5 b=>Sim.prop fun h=>?_
  subst h
  (with_reducible repeat (first | refine sA ?_ | refine sB ?_ | refine sC ?_ | refine sD ?_ | refine sE ?_ | refine sF ?_))
  (first | refine qA (fun h=>?_) fun h=>?_ | refine qB (fun h=>?_) fun h=>?_ | refine qC (fun h=>?_) fun h=>?_ | refine qD (fun h=>?_) fun h=>?_ | refine qE (fun h=>?_) fun h=>?_) -- (!r5)
  ·skip
   refine f9 (by repeat (first | exact mz | apply ms)) fun b sl ps K2 hx hb=>?_
   (with_reducible repeat (first | refine sA ?_ | refine sB ?_ | refine sC ?_ | refine sD ?_ | refine sE ?_ | refine sF ?_))
   first | refine dT (hR.statement _) (fun _ h=>nomatch h) fun r8 nr8=>?_ | refine im (hR.statement _) (fun _ h=>nomatch h) fun r8 nr8=>?_
   subst hx
   refine ga hb (by repeat (first | exact mz | apply ms)) (by repeat (first | exact mz | apply ms)) (by omega) fun K=>?_
   (first | refine jy _ rfl (by simp [N.push_len] at hn ⊢; omega) (by repeat (first | exact mz | apply ms)) | refine jz _ (by decide) rfl (by simp [N.push_len] at hn ⊢; omega) (by repeat (first | exact mz | apply ms)))
  ·skip
   exact f8 _ rfl rfl (by repeat (first | exact mz | apply ms))
 ·skip
  (with_reducible repeat (first | refine sA ?_ | refine sB ?_ | refine sC ?_ | refine sD ?_ | refine sE ?_ | refine sF ?_))
  first | refine ag (aG _ _) (fun _ h=>nomatch h) fun x b=>?_ | refine af (aG _ _) (fun _ h=>nomatch h) fun x b=>?_
  refine c7 (n:=_) (x:=r2) (by repeat (first | exact mz | apply ms)) ?_
  (with_reducible repeat (first | refine sA ?_ | refine sB ?_ | refine sC ?_ | refine sD ?_ | refine sE ?_ | refine sF ?_))
  exact ay (t:=tP) _ rfl (fun F hF=>hF _ (by repeat (first | exact mz | apply ms)))
theorem sr {R:aY} (hR:cm R) (pb:Nat):Meets PG (PI pb) (aa iz #[.pointer (some (aL pb))]) tP (uL R) NodeF []:=by
 refine yi (aL pb) ?_
 unfold kU uL
 (with_reducible repeat (first | refine sA ?_ | refine sB ?_ | refine sC ?_ | refine sD ?_ | refine sE ?_ | refine sF ?_))
 first | refine ag (aG _ _) (fun _ h=>nomatch h) fun x b=>?_ | refine af (aG _ _) (fun _ h=>nomatch h) fun x b=>?_
 (with_reducible repeat (first | refine sA ?_ | refine sB ?_ | refine sC ?_ | refine sD ?_ | refine sE ?_ | refine sF ?_))
 first | refine ag (hR.expr _) (fun _ h=>nomatch h) fun r2 nr2=>?_ | refine af (hR.expr _) (fun _ h=>nomatch h) fun r2 nr2=>?_
 (with_reducible repeat (first | refine sA ?_ | refine sB ?_ | refine sC ?_ | refine sD ?_ | refine sE ?_ | refine sF ?_))
 first | refine ag (aG _ _) (fun _ h=>nomatch h) fun x b=>?_ | refine af (aG _ _) (fun _ h=>nomatch h) fun x b=>?_
 (with_reducible repeat (first | refine sA ?_ | refine sB ?_ | refine sC ?_ | refine sD ?_ | refine sE ?_ | refine sF ?_))
 exact ay (t:=tP) _ rfl (fun F hF=>hF _ (by repeat (first | exact mz | apply ms)))
theorem m1 {R:aY} (hR:cm R) (pb:Nat) (kind:Int) (pos:Int) (may:Bool):Meets PG (PI pb) (aa fR #[.pointer (some (aL pb)),.int .i64 kind,.int .i64 pos,.bool may]) tP (rJ R kind pos may) NodeF []:=by
 refine yj (aL pb) kind pos may ?_
 unfold ld rJ
 (with_reducible repeat (first | refine sA ?_ | refine sB ?_ | refine sC ?_ | refine sD ?_ | refine sE ?_ | refine sF ?_))
 first | refine ag (du _) (fun _ h=>nomatch h) fun r1 nr1=>?_ | refine af (du _) (fun _ h=>nomatch h) fun r1 nr1=>?_
 first | refine cP ?_ fun x3=>?_ | refine dB ?_ fun x3=>?_
 ·skip
  (with_reducible repeat (first | refine sA ?_ | refine sB ?_ | refine sC ?_ | refine sD ?_ | refine sE ?_ | refine sF ?_))
  (first | refine qA (fun h=>?_) fun h=>?_ | refine qB (fun h=>?_) fun h=>?_ | refine qC (fun h=>?_) fun h=>?_ | refine qD (fun h=>?_) fun h=>?_ | refine qE (fun h=>?_) fun h=>?_) -- (!a3_may)
  ·skip
   exact aV _ rfl (by first | rfl | (simp only [Tok.kind] at *; simp_all))
  ·skip
   (with_reducible repeat (first | refine sA ?_ | refine sB ?_ | refine sC ?_ | refine sD ?_ | refine sE ?_ | refine sF ?_))
   first | refine ag (cc _ _) (fun _ h=>nomatch h) fun r2 b=>Sim.prop fun h=>?_ | refine af (cc _ _) (fun _ h=>nomatch h) fun r2 b=>Sim.prop fun h=>?_
   subst h
   exact aV _ rfl (by first | rfl | (simp only [Tok.kind] at *; simp_all))
 ·skip
  (with_reducible repeat (first | refine sA ?_ | refine sB ?_ | refine sC ?_ | refine sD ?_ | refine sE ?_ | refine sF ?_))
  (first | refine qA (fun h=>?_) fun h=>?_ | refine qB (fun h=>?_) fun h=>?_ | refine qC (fun h=>?_) fun h=>?_ | refine qD (fun h=>?_) fun h=>?_ | refine qE (fun h=>?_) fun h=>?_) -- x3.1
  ·skip
   (with_reducible repeat (first | refine sA ?_ | refine sB ?_ | refine sC ?_ | refine sD ?_ | refine sE ?_ | refine sF ?_))
   first | refine ag (hR.expr _) (fun _ h=>nomatch h) fun r4 nr4=>?_ | refine af (hR.expr _) (fun _ h=>nomatch h) fun r4 nr4=>?_
   (with_reducible repeat (first | refine sA ?_ | refine sB ?_ | refine sC ?_ | refine sD ?_ | refine sE ?_ | refine sF ?_))
   first | refine ag (aG _ _) (fun _ h=>nomatch h) fun x b=>?_ | refine af (aG _ _) (fun _ h=>nomatch h) fun x b=>?_
   refine bP [r4] [nr4] rfl (by decide) (by decide) (by kernel_rfl) (fun F hF=>(.cons _ _ _ _ (hF (NodeF nr4 r4) (by repeat (first | exact mz | apply ms))) .nil)) fun r7=>?_
   (with_reducible repeat (first | refine sA ?_ | refine sB ?_ | refine sC ?_ | refine sD ?_ | refine sE ?_ | refine sF ?_))
   exact ay (t:=tP) _ rfl (fun F hF=>hF _ (by repeat (first | exact mz | apply ms)))
  ·skip
   (with_reducible repeat (first | refine sA ?_ | refine sB ?_ | refine sC ?_ | refine sD ?_ | refine sE ?_ | refine sF ?_))
   first | refine ag (aG _ _) (fun _ h=>nomatch h) fun x b=>?_ | refine af (aG _ _) (fun _ h=>nomatch h) fun x b=>?_
   refine bP [r1] [nr1] rfl (by decide) (by decide) (by kernel_rfl) (fun F hF=>(.cons _ _ _ _ (hF (NodeF nr1 r1) (by repeat (first | exact mz | apply ms))) .nil)) fun r10=>?_
   (with_reducible repeat (first | refine sA ?_ | refine sB ?_ | refine sC ?_ | refine sD ?_ | refine sE ?_ | refine sF ?_))
   exact ay (t:=tP) _ rfl (fun F hF=>hF _ (by repeat (first | exact mz | apply ms)))
theorem iG {R:aY} (hR:cm R) (pb:Nat) (n:Int) (pos:Int):Meets PG (PI pb) (aa eD #[.pointer (some (aL pb)),.int .i64 n,.int .i64 pos]) tP (lK R n pos) NodeF []:=by
 refine tq (aL pb) n pos ?_
 unfold iV lK
 (with_reducible repeat (first | refine sA ?_ | refine sB ?_ | refine sC ?_ | refine sD ?_ | refine sE ?_ | refine sF ?_))
 first | refine ag (bU _) (fun _ h=>nomatch h) fun r1 b=>Sim.prop fun h=>?_ | refine af (bU _) (fun _ h=>nomatch h) fun r1 b=>Sim.prop fun h=>?_
 subst h
 (with_reducible repeat (first | refine sA ?_ | refine sB ?_ | refine sC ?_ | refine sD ?_ | refine sE ?_ | refine sF ?_))
 first | refine ag (fz hR _) (fun _ h=>nomatch h) fun r2 nr2=>?_ | refine af (fz hR _) (fun _ h=>nomatch h) fun r2 nr2=>?_
 (with_reducible repeat (first | refine sA ?_ | refine sB ?_ | refine sC ?_ | refine sD ?_ | refine sE ?_ | refine sF ?_))
 first | refine ag (aG _ _) (fun _ h=>nomatch h) fun x b=>?_ | refine af (aG _ _) (fun _ h=>nomatch h) fun x b=>?_
 (with_reducible repeat (first | refine sA ?_ | refine sB ?_ | refine sC ?_ | refine sD ?_ | refine sE ?_ | refine sF ?_))
 first | refine ag (hR.expr _) (fun _ h=>nomatch h) fun r4 nr4=>?_ | refine af (hR.expr _) (fun _ h=>nomatch h) fun r4 nr4=>?_
 refine bP [r2,r4] [nr2,nr4] rfl (by decide) (by decide) (by kernel_rfl) (fun F hF=>(.cons _ _ _ _ (hF (NodeF nr2 r2) (by repeat (first | exact mz | apply ms))) (.cons _ _ _ _ (hF (NodeF nr4 r4) (by repeat (first | exact mz | apply ms))) .nil))) fun r6=>?_
 (with_reducible repeat (first | refine sA ?_ | refine sB ?_ | refine sC ?_ | refine sD ?_ | refine sE ?_ | refine sF ?_))
 exact ay (t:=tP) _ rfl (fun F hF=>hF _ (by repeat (first | exact mz | apply ms)))
theorem mU {R:aY} (hR:cm R) (pb:Nat) (kind:Int) (pos:Int):Meets PG (PI pb) (aa fP #[.pointer (some (aL pb)),.int .i64 kind,.int .i64 pos]) tP (ot R kind pos) NodeF []:=by
 refine tj (aL pb) kind pos ?_
 unfold iP ot
 (with_reducible repeat (first | refine sA ?_ | refine sB ?_ | refine sC ?_ | refine sD ?_ | refine sE ?_ | refine sF ?_))
 first | refine ag (bU _) (fun _ h=>nomatch h) fun r1 b=>Sim.prop fun h=>?_ | refine af (bU _) (fun _ h=>nomatch h) fun r1 b=>Sim.prop fun h=>?_
 subst h
 (with_reducible repeat (first | refine sA ?_ | refine sB ?_ | refine sC ?_ | refine sD ?_ | refine sE ?_ | refine sF ?_))
 first | refine ag (i6 hR _) (fun _ h=>nomatch h) fun r2 nr2=>?_ | refine af (i6 hR _) (fun _ h=>nomatch h) fun r2 nr2=>?_
 (with_reducible repeat (first | refine sA ?_ | refine sB ?_ | refine sC ?_ | refine sD ?_ | refine sE ?_ | refine sF ?_))
 first | refine ag (aG _ _) (fun _ h=>nomatch h) fun x b=>?_ | refine af (aG _ _) (fun _ h=>nomatch h) fun x b=>?_
 (with_reducible repeat (first | refine sA ?_ | refine sB ?_ | refine sC ?_ | refine sD ?_ | refine sE ?_ | refine sF ?_))
 first | refine ag (fN hR _ _) (fun _ h=>nomatch h) fun r4 nr4=>?_ | refine af (fN hR _ _) (fun _ h=>nomatch h) fun r4 nr4=>?_
 (with_reducible repeat (first | refine sA ?_ | refine sB ?_ | refine sC ?_ | refine sD ?_ | refine sE ?_ | refine sF ?_))
 first | refine ag (aG _ _) (fun _ h=>nomatch h) fun x b=>?_ | refine af (aG _ _) (fun _ h=>nomatch h) fun x b=>?_
 (with_reducible repeat (first | refine sA ?_ | refine sB ?_ | refine sC ?_ | refine sD ?_ | refine sE ?_ | refine sF ?_))
 first | refine ag (fz hR _) (fun _ h=>nomatch h) fun r6 nr6=>?_ | refine af (fz hR _) (fun _ h=>nomatch h) fun r6 nr6=>?_
 (with_reducible repeat (first | refine sA ?_ | refine sB ?_ | refine sC ?_ | refine sD ?_ | refine sE ?_ | refine sF ?_))
 first | refine ag (hR.block _) (fun _ h=>nomatch h) fun r7 nr7=>?_ | refine af (hR.block _) (fun _ h=>nomatch h) fun r7 nr7=>?_
 refine bP [r2,r4,r6,r7] [nr2,nr4,nr6,nr7] rfl (by decide) (by decide) (by kernel_rfl) (fun F hF=>(.cons _ _ _ _ (hF (NodeF nr2 r2) (by repeat (first | exact mz | apply ms))) (.cons _ _ _ _ (hF (NodeF nr4 r4) (by repeat (first | exact mz | apply ms))) (.cons _ _ _ _ (hF (NodeF nr6 r6) (by repeat (first | exact mz | apply ms))) (.cons _ _ _ _ (hF (NodeF nr7 r7) (by repeat (first | exact mz | apply ms))) .nil))))) fun r9=>?_
 (with_reducible repeat (first | refine sA ?_ | refine sB ?_ | refine sC ?_ | refine sD ?_ | refine sE ?_ | refine sF ?_))
 exact ay (t:=tP) _ rfl (fun F hF=>hF _ (by repeat (first | exact mz | apply ms)))
theorem HS {R:aY} (hR:cm R) (pb b:Nat) (e:ByteArray):Meets PG (PI pb) (aa gU #[.string e,.pointer (some (aL b))]) tP (Fb R e) NodeF [Fact.at b (aq aE [.pointer (some (aL pb))])]:=by
 refine vz e (aL b) ?_
 unfold jZ Fb
 refine aN (b1:=.ptr) _ (by repeat (first | exact mz | apply ms)) (by kernel_rfl) rfl rfl ?_
 (with_reducible repeat (first | refine sA ?_ | refine sB ?_ | refine sC ?_ | refine sD ?_ | refine sE ?_ | refine sF ?_))
 first | refine ag (du _) (fun _ h=>nomatch h) fun r2 nr2=>?_ | refine af (du _) (fun _ h=>nomatch h) fun r2 nr2=>?_
 refine aN (b1:=.ptr) _ (by repeat (first | exact mz | apply ms)) (by kernel_rfl) rfl rfl ?_
 (with_reducible repeat (first | refine sA ?_ | refine sB ?_ | refine sC ?_ | refine sD ?_ | refine sE ?_ | refine sF ?_))
 first | refine ag (cc _ _) (fun _ h=>nomatch h) fun r4 b=>Sim.prop fun h=>?_ | refine af (cc _ _) (fun _ h=>nomatch h) fun r4 b=>Sim.prop fun h=>?_
 subst h
 (with_reducible repeat (first | refine sA ?_ | refine sB ?_ | refine sC ?_ | refine sD ?_ | refine sE ?_ | refine sF ?_))
 (first | refine qA (fun h=>?_) fun h=>?_ | refine qB (fun h=>?_) fun h=>?_ | refine qC (fun h=>?_) fun h=>?_ | refine qD (fun h=>?_) fun h=>?_ | refine qE (fun h=>?_) fun h=>?_) -- (!r4)
 ·skip
  refine aN (b1:=.ptr) _ (by repeat (first | exact mz | apply ms)) (by kernel_rfl) rfl rfl ?_
  (with_reducible repeat (first | refine sA ?_ | refine sB ?_ | refine sC ?_ | refine sD ?_ | refine sE ?_ | refine sF ?_))
  first | refine ag (hR.expr _) (fun _ h=>nomatch h) fun r6 nr6=>?_ | refine af (hR.expr _) (fun _ h=>nomatch h) fun r6 nr6=>?_
  refine aN (b1:=.ptr) _ (by repeat (first | exact mz | apply ms)) (by kernel_rfl) rfl rfl ?_
  (with_reducible repeat (first | refine sA ?_ | refine sB ?_ | refine sC ?_ | refine sD ?_ | refine sE ?_ | refine sF ?_))
  first | refine ag (aG _ _) (fun _ h=>nomatch h) fun x b=>?_ | refine af (aG _ _) (fun _ h=>nomatch h) fun x b=>?_
  (with_reducible repeat (first | refine sA ?_ | refine sB ?_ | refine sC ?_ | refine sD ?_ | refine sE ?_ | refine sF ?_))
  exact ay (t:=tP) _ rfl (fun F hF=>hF _ (by repeat (first | exact mz | apply ms)))
 ·skip
  refine aN (b1:=.ptr) _ (by repeat (first | exact mz | apply ms)) (by kernel_rfl) rfl rfl ?_
  (with_reducible repeat (first | refine sA ?_ | refine sB ?_ | refine sC ?_ | refine sD ?_ | refine sE ?_ | refine sF ?_))
  first | refine ag (aG _ _) (fun _ h=>nomatch h) fun x b=>?_ | refine af (aG _ _) (fun _ h=>nomatch h) fun x b=>?_
  (with_reducible repeat (first | refine sA ?_ | refine sB ?_ | refine sC ?_ | refine sD ?_ | refine sE ?_ | refine sF ?_))
  exact ay (t:=tP) _ rfl (fun F hF=>hF _ (by repeat (first | exact mz | apply ms)))
theorem Fy {R:aY} (hR:cm R) (pb:Nat) (a1:Int):Meets PG (PI pb) (aa mF #[.pointer (some (aL pb)),.int .i64 a1]) tP (EF R a1) NodeF []:=by
 refine AU (aL pb) a1 ?_
 unfold mq EF
 refine jj fun br1=>?_
 refine aN (b1:=.ptr) _ (by repeat (first | exact mz | apply ms)) (by kernel_rfl) rfl rfl ?_
 (with_reducible repeat (first | refine sA ?_ | refine sB ?_ | refine sC ?_ | refine sD ?_ | refine sE ?_ | refine sF ?_))
 first | refine ag (aG _ _) (fun _ h=>nomatch h) fun x b=>?_ | refine af (aG _ _) (fun _ h=>nomatch h) fun x b=>?_
 first | refine cP ?_ fun x18=>?_ | refine dB ?_ fun x18=>?_
 ·skip
  refine aN (b1:=.ptr) _ (by repeat (first | exact mz | apply ms)) (by kernel_rfl) rfl rfl ?_
  (with_reducible repeat (first | refine sA ?_ | refine sB ?_ | refine sC ?_ | refine sD ?_ | refine sE ?_ | refine sF ?_))
  first | refine ag (cc _ _) (fun _ h=>nomatch h) fun r5 b=>Sim.prop fun h=>?_ | refine af (cc _ _) (fun _ h=>nomatch h) fun r5 b=>Sim.prop fun h=>?_
  subst h
  (with_reducible repeat (first | refine sA ?_ | refine sB ?_ | refine sC ?_ | refine sD ?_ | refine sE ?_ | refine sF ?_))
  (first | refine qA (fun h=>?_) fun h=>?_ | refine qB (fun h=>?_) fun h=>?_ | refine qC (fun h=>?_) fun h=>?_ | refine qD (fun h=>?_) fun h=>?_ | refine qE (fun h=>?_) fun h=>?_) -- r5
  ·skip
   refine aN (b1:=.ptr) _ (by repeat (first | exact mz | apply ms)) (by kernel_rfl) rfl rfl ?_
   (with_reducible repeat (first | refine sA ?_ | refine sB ?_ | refine sC ?_ | refine sD ?_ | refine sE ?_ | refine sF ?_))
   first | refine ag (eE _ _ (by decide) (by decide)) (fun _ h=>nomatch h) fun r7 b=>Sim.prop fun h=>?_ | refine af (eE _ _ (by decide) (by decide)) (fun _ h=>nomatch h) fun r7 b=>Sim.prop fun h=>?_
   subst h
   (with_reducible repeat (first | refine sA ?_ | refine sB ?_ | refine sC ?_ | refine sD ?_ | refine sE ?_ | refine sF ?_))
   (first | refine qA (fun h=>?_) fun h=>?_ | refine qB (fun h=>?_) fun h=>?_ | refine qC (fun h=>?_) fun h=>?_ | refine qD (fun h=>?_) fun h=>?_ | refine qE (fun h=>?_) fun h=>?_) -- ((r7.1:Int)==1)
   ·skip
    refine aN (b1:=.ptr) _ (by repeat (first | exact mz | apply ms)) (by kernel_rfl) rfl rfl ?_
    (with_reducible repeat (first | refine sA ?_ | refine sB ?_ | refine sC ?_ | refine sD ?_ | refine sE ?_ | refine sF ?_))
    first | refine ag (eE _ _ (by decide) (by decide)) (fun _ h=>nomatch h) fun r9 b=>Sim.prop fun h=>?_ | refine af (eE _ _ (by decide) (by decide)) (fun _ h=>nomatch h) fun r9 b=>Sim.prop fun h=>?_
    subst h
    refine fp (i5 _ _ _) (fun _ h=>nomatch h) ?_
    exact aV _ rfl (by first | rfl | (simp only [Tok.kind] at *; simp_all))
   ·skip
    exact aV _ rfl (by first | rfl | (simp only [Tok.kind] at *; simp_all))
  ·skip
   refine aN (b1:=.ptr) _ (by repeat (first | exact mz | apply ms)) (by kernel_rfl) rfl rfl ?_
   (with_reducible repeat (first | refine sA ?_ | refine sB ?_ | refine sC ?_ | refine sD ?_ | refine sE ?_ | refine sF ?_))
   first | refine ag (cc _ _) (fun _ h=>nomatch h) fun r12 b=>Sim.prop fun h=>?_ | refine af (cc _ _) (fun _ h=>nomatch h) fun r12 b=>Sim.prop fun h=>?_
   subst h
   (with_reducible repeat (first | refine sA ?_ | refine sB ?_ | refine sC ?_ | refine sD ?_ | refine sE ?_ | refine sF ?_))
   (first | refine qA (fun h=>?_) fun h=>?_ | refine qB (fun h=>?_) fun h=>?_ | refine qC (fun h=>?_) fun h=>?_ | refine qD (fun h=>?_) fun h=>?_ | refine qE (fun h=>?_) fun h=>?_) -- r12
   ·skip
    refine aN (b1:=.ptr) _ (by repeat (first | exact mz | apply ms)) (by kernel_rfl) rfl rfl ?_
    (with_reducible repeat (first | refine sA ?_ | refine sB ?_ | refine sC ?_ | refine sD ?_ | refine sE ?_ | refine sF ?_))
    first | refine ag (eE _ _ (by decide) (by decide)) (fun _ h=>nomatch h) fun r14 b=>Sim.prop fun h=>?_ | refine af (eE _ _ (by decide) (by decide)) (fun _ h=>nomatch h) fun r14 b=>Sim.prop fun h=>?_
    subst h
    (with_reducible repeat (first | refine sA ?_ | refine sB ?_ | refine sC ?_ | refine sD ?_ | refine sE ?_ | refine sF ?_))
    (first | refine qA (fun h=>?_) fun h=>?_ | refine qB (fun h=>?_) fun h=>?_ | refine qC (fun h=>?_) fun h=>?_ | refine qD (fun h=>?_) fun h=>?_ | refine qE (fun h=>?_) fun h=>?_) -- ((r14.1:Int)==1)
    ·skip
     refine aN (b1:=.ptr) _ (by repeat (first | exact mz | apply ms)) (by kernel_rfl) rfl rfl ?_
     (with_reducible repeat (first | refine sA ?_ | refine sB ?_ | refine sC ?_ | refine sD ?_ | refine sE ?_ | refine sF ?_))
     first | refine ag (eE _ _ (by decide) (by decide)) (fun _ h=>nomatch h) fun r16 b=>Sim.prop fun h=>?_ | refine af (eE _ _ (by decide) (by decide)) (fun _ h=>nomatch h) fun r16 b=>Sim.prop fun h=>?_
     subst h
     refine fp (i5 _ _ _) (fun _ h=>nomatch h) ?_
     exact aV _ rfl (by first | rfl | (simp only [Tok.kind] at *; simp_all))
    ·skip
     exact aV _ rfl (by first | rfl | (simp only [Tok.kind] at *; simp_all))
   ·skip
    exact aV _ rfl (by first | rfl | (simp only [Tok.kind] at *; simp_all))
 ·skip
  (with_reducible repeat (first | refine sA ?_ | refine sB ?_ | refine sC ?_ | refine sD ?_ | refine sE ?_ | refine sF ?_))
  (first | refine qA (fun h=>?_) fun h=>?_ | refine qB (fun h=>?_) fun h=>?_ | refine qC (fun h=>?_) fun h=>?_ | refine qD (fun h=>?_) fun h=>?_ | refine qE (fun h=>?_) fun h=>?_) -- x18.1
  ·skip
   refine aN (b1:=.ptr) _ (by repeat (first | exact mz | apply ms)) (by kernel_rfl) rfl rfl ?_
   (with_reducible repeat (first | refine sA ?_ | refine sB ?_ | refine sC ?_ | refine sD ?_ | refine sE ?_ | refine sF ?_))
   first | refine ag (cZ _) (fun _ h=>nomatch h) fun r20 b=>Sim.prop fun h=>?_ | refine af (cZ _) (fun _ h=>nomatch h) fun r20 b=>Sim.prop fun h=>?_
   subst h
   refine iA ?_ fun x21=>?_
   ·skip
    (with_reducible repeat (first | refine sA ?_ | refine sB ?_ | refine sC ?_ | refine sD ?_ | refine sE ?_ | refine sF ?_))
    (first | refine qA (fun h=>?_) fun h=>?_ | refine qB (fun h=>?_) fun h=>?_ | refine qC (fun h=>?_) fun h=>?_ | refine qD (fun h=>?_) fun h=>?_ | refine qE (fun h=>?_) fun h=>?_) -- (r20.2.1.toList==kconst.toList)
    ·skip
     exact dN _ rfl rfl
    ·skip
     exact dN _ rfl rfl
   ·skip
    refine aN (b1:=.ptr) _ (by repeat (first | exact mz | apply ms)) (by kernel_rfl) rfl rfl ?_
    (with_reducible repeat (first | refine sA ?_ | refine sB ?_ | refine sC ?_ | refine sD ?_ | refine sE ?_ | refine sF ?_))
    first | refine ag (bU _) (fun _ h=>nomatch h) fun r23 b=>Sim.prop fun h=>?_ | refine af (bU _) (fun _ h=>nomatch h) fun r23 b=>Sim.prop fun h=>?_
    subst h
    refine aN (b1:=.ptr) _ (by repeat (first | exact mz | apply ms)) (by kernel_rfl) rfl rfl ?_
    (with_reducible repeat (first | refine sA ?_ | refine sB ?_ | refine sC ?_ | refine sD ?_ | refine sE ?_ | refine sF ?_))
    first | refine ag (aG _ _) (fun _ h=>nomatch h) fun x b=>?_ | refine af (aG _ _) (fun _ h=>nomatch h) fun x b=>?_
    refine aN (b1:=.ptr) _ (by repeat (first | exact mz | apply ms)) (by kernel_rfl) rfl rfl ?_
    (with_reducible repeat (first | refine sA ?_ | refine sB ?_ | refine sC ?_ | refine sD ?_ | refine sE ?_ | refine sF ?_))
    first | refine ag (hR.expr _) (fun _ h=>nomatch h) fun r27 nr27=>?_ | refine af (hR.expr _) (fun _ h=>nomatch h) fun r27 nr27=>?_
    refine aN (b1:=.ptr) _ (by repeat (first | exact mz | apply ms)) (by kernel_rfl) rfl rfl ?_
    (with_reducible repeat (first | refine sA ?_ | refine sB ?_ | refine sC ?_ | refine sD ?_ | refine sE ?_ | refine sF ?_))
    first | refine ag (aG _ _) (fun _ h=>nomatch h) fun x b=>?_ | refine af (aG _ _) (fun _ h=>nomatch h) fun x b=>?_
    refine aN (b1:=.ptr) _ (by repeat (first | exact mz | apply ms)) (by kernel_rfl) rfl rfl ?_
    (with_reducible repeat (first | refine sA ?_ | refine sB ?_ | refine sC ?_ | refine sD ?_ | refine sE ?_ | refine sF ?_))
    first | refine ag (hR.block _) (fun _ h=>nomatch h) fun r31 nr31=>?_ | refine af (hR.block _) (fun _ h=>nomatch h) fun r31 nr31=>?_
    refine bP [r27,r31] [nr27,nr31] rfl (by decide) (by decide) (by kernel_rfl) (fun F hF=>(.cons _ _ _ _ (hF (NodeF nr27 r27) (by repeat (first | exact mz | apply ms))) (.cons _ _ _ _ (hF (NodeF nr31 r31) (by repeat (first | exact mz | apply ms))) .nil))) fun r33=>?_
    (with_reducible repeat (first | refine sA ?_ | refine sB ?_ | refine sC ?_ | refine sD ?_ | refine sE ?_ | refine sF ?_))
    exact ay (t:=tP) _ rfl (fun F hF=>hF _ (by repeat (first | exact mz | apply ms)))
  ·skip
   refine aN (b1:=.ptr) _ (by repeat (first | exact mz | apply ms)) (by kernel_rfl) rfl rfl ?_
   (with_reducible repeat (first | refine sA ?_ | refine sB ?_ | refine sC ?_ | refine sD ?_ | refine sE ?_ | refine sF ?_))
   first | refine ag (du _) (fun _ h=>nomatch h) fun r35 nr35=>?_ | refine af (du _) (fun _ h=>nomatch h) fun r35 nr35=>?_
   refine aN (b1:=.ptr) _ (by repeat (first | exact mz | apply ms)) (by kernel_rfl) rfl rfl ?_
   (with_reducible repeat (first | refine sA ?_ | refine sB ?_ | refine sC ?_ | refine sD ?_ | refine sE ?_ | refine sF ?_))
   first | refine ag (aZ _) (fun _ h=>nomatch h) fun r37 b=>Sim.prop fun h=>?_ | refine af (aZ _) (fun _ h=>nomatch h) fun r37 b=>Sim.prop fun h=>?_
   subst h
   refine aN (b1:=.ptr) _ (by repeat (first | exact mz | apply ms)) (by kernel_rfl) rfl rfl ?_
   (with_reducible repeat (first | refine sA ?_ | refine sB ?_ | refine sC ?_ | refine sD ?_ | refine sE ?_ | refine sF ?_))
   first | refine ag (aA _ _) (fun _ h=>nomatch h) fun r39 b=>Sim.prop fun h=>?_ | refine af (aA _ _) (fun _ h=>nomatch h) fun r39 b=>Sim.prop fun h=>?_
   subst h
   refine gi NodeF ?_ fun nx42 x42=>?_
   ·skip
    (with_reducible repeat (first | refine sA ?_ | refine sB ?_ | refine sC ?_ | refine sD ?_ | refine sE ?_ | refine sF ?_))
    (first | refine qA (fun h=>?_) fun h=>?_ | refine qB (fun h=>?_) fun h=>?_ | refine qC (fun h=>?_) fun h=>?_ | refine qD (fun h=>?_) fun h=>?_ | refine qE (fun h=>?_) fun h=>?_) -- r39
    ·skip
     refine aN (b1:=.ptr) _ (by repeat (first | exact mz | apply ms)) (by kernel_rfl) rfl rfl ?_
     (with_reducible repeat (first | refine sA ?_ | refine sB ?_ | refine sC ?_ | refine sD ?_ | refine sE ?_ | refine sF ?_))
     first | refine ag (iG hR _ _ _) (fun _ h=>nomatch h) fun r41 nr41=>?_ | refine af (iG hR _ _ _) (fun _ h=>nomatch h) fun r41 nr41=>?_
     exact dF _ rfl rfl (fun F hF=>hF _ (by repeat (first | exact mz | apply ms)))
    ·skip
     exact dF _ rfl rfl (fun F hF=>hF _ (by repeat (first | exact mz | apply ms)))
   ·skip
    refine aN (b1:=.ptr) _ (by repeat (first | exact mz | apply ms)) (by kernel_rfl) rfl rfl ?_
    (with_reducible repeat (first | refine sA ?_ | refine sB ?_ | refine sC ?_ | refine sD ?_ | refine sE ?_ | refine sF ?_))
    first | refine ag (aG _ _) (fun _ h=>nomatch h) fun x b=>?_ | refine af (aG _ _) (fun _ h=>nomatch h) fun x b=>?_
    refine ag (MeetsO.congr (wb _ _ _) (HS hR pb _ cS)) (fun A hA=>by obtain rfl:=List.mem_singleton.1 hA; exact (by repeat (first | exact mz | apply ms))) fun r45 nr45=>?_
    refine ag (MeetsO.congr (wb _ _ _) (HS hR pb _ k_rp)) (fun A hA=>by obtain rfl:=List.mem_singleton.1 hA; exact (by repeat (first | exact mz | apply ms))) fun r46 nr46=>?_
    refine aN (b1:=.ptr) _ (by repeat (first | exact mz | apply ms)) (by kernel_rfl) rfl rfl ?_
    (with_reducible repeat (first | refine sA ?_ | refine sB ?_ | refine sC ?_ | refine sD ?_ | refine sE ?_ | refine sF ?_))
    first | refine ag (hR.block _) (fun _ h=>nomatch h) fun r48 nr48=>?_ | refine af (hR.block _) (fun _ h=>nomatch h) fun r48 nr48=>?_
    refine bP [x42,r45,r46,r48] [nx42,nr45,nr46,nr48] rfl (by decide) (by decide) (by kernel_rfl) (fun F hF=>(.cons _ _ _ _ (hF (NodeF nx42 x42) (by repeat (first | exact mz | apply ms))) (.cons _ _ _ _ (hF (NodeF nr45 r45) (by repeat (first | exact mz | apply ms))) (.cons _ _ _ _ (hF (NodeF nr46 r46) (by repeat (first | exact mz | apply ms))) (.cons _ _ _ _ (hF (NodeF nr48 r48) (by repeat (first | exact mz | apply ms))) .nil))))) fun r50=>?_
    (with_reducible repeat (first | refine sA ?_ | refine sB ?_ | refine sC ?_ | refine sD ?_ | refine sE ?_ | refine sF ?_))
    exact ay (t:=tP) _ rfl (fun F hF=>hF _ (by repeat (first | exact mz | apply ms)))
theorem HW {R:aY} (hR:cm R) (pb:Nat) (pos:Int):Meets PG (PI pb) (aa nz #[.pointer (some (aL pb)),.int .i64 pos]) tP (Hn R pos) NodeF []:=by
 refine B4 (aL pb) pos ?_
 unfold nu Hn
 (with_reducible repeat (first | refine sA ?_ | refine sB ?_ | refine sC ?_ | refine sD ?_ | refine sE ?_ | refine sF ?_))
 first | refine ag (hR.block _) (fun _ h=>nomatch h) fun r1 nr1=>?_ | refine af (hR.block _) (fun _ h=>nomatch h) fun r1 nr1=>?_
 (with_reducible repeat (first | refine sA ?_ | refine sB ?_ | refine sC ?_ | refine sD ?_ | refine sE ?_ | refine sF ?_))
 first | refine ag (du _) (fun _ h=>nomatch h) fun r2 nr2=>?_ | refine af (du _) (fun _ h=>nomatch h) fun r2 nr2=>?_
 (with_reducible repeat (first | refine sA ?_ | refine sB ?_ | refine sC ?_ | refine sD ?_ | refine sE ?_ | refine sF ?_))
 first | refine ag (aZ _) (fun _ h=>nomatch h) fun r3 b=>Sim.prop fun h=>?_ | refine af (aZ _) (fun _ h=>nomatch h) fun r3 b=>Sim.prop fun h=>?_
 subst h
 (with_reducible repeat (first | refine sA ?_ | refine sB ?_ | refine sC ?_ | refine sD ?_ | refine sE ?_ | refine sF ?_))
 first | refine ag (aA _ _) (fun _ h=>nomatch h) fun r4 b=>Sim.prop fun h=>?_ | refine af (aA _ _) (fun _ h=>nomatch h) fun r4 b=>Sim.prop fun h=>?_
 subst h
 refine gi NodeF ?_ fun nx11 x11=>?_
 ·skip
  (with_reducible repeat (first | refine sA ?_ | refine sB ?_ | refine sC ?_ | refine sD ?_ | refine sE ?_ | refine sF ?_))
  (first | refine qA (fun h=>?_) fun h=>?_ | refine qB (fun h=>?_) fun h=>?_ | refine qC (fun h=>?_) fun h=>?_ | refine qD (fun h=>?_) fun h=>?_ | refine qE (fun h=>?_) fun h=>?_) -- r4
  ·skip
   (with_reducible repeat (first | refine sA ?_ | refine sB ?_ | refine sC ?_ | refine sD ?_ | refine sE ?_ | refine sF ?_))
   first | refine ag (aG _ _) (fun _ h=>nomatch h) fun x b=>?_ | refine af (aG _ _) (fun _ h=>nomatch h) fun x b=>?_
   (with_reducible repeat (first | refine sA ?_ | refine sB ?_ | refine sC ?_ | refine sD ?_ | refine sE ?_ | refine sF ?_))
   first | refine ag (bU _) (fun _ h=>nomatch h) fun r6 b=>Sim.prop fun h=>?_ | refine af (bU _) (fun _ h=>nomatch h) fun r6 b=>Sim.prop fun h=>?_
   subst h
   (with_reducible repeat (first | refine sA ?_ | refine sB ?_ | refine sC ?_ | refine sD ?_ | refine sE ?_ | refine sF ?_))
   first | refine ag (aG _ _) (fun _ h=>nomatch h) fun x b=>?_ | refine af (aG _ _) (fun _ h=>nomatch h) fun x b=>?_
   (with_reducible repeat (first | refine sA ?_ | refine sB ?_ | refine sC ?_ | refine sD ?_ | refine sE ?_ | refine sF ?_))
   first | refine ag (hR.block _) (fun _ h=>nomatch h) fun r8 nr8=>?_ | refine af (hR.block _) (fun _ h=>nomatch h) fun r8 nr8=>?_
   refine bP [r8] [nr8] rfl (by decide) (by decide) (by kernel_rfl) (fun F hF=>(.cons _ _ _ _ (hF (NodeF nr8 r8) (by repeat (first | exact mz | apply ms))) .nil)) fun r10=>?_
   exact dF _ rfl rfl (fun F hF=>hF _ (by repeat (first | exact mz | apply ms)))
  ·skip
   exact dF _ rfl rfl (fun F hF=>hF _ (by repeat (first | exact mz | apply ms)))
 ·skip
  (with_reducible repeat (first | refine sA ?_ | refine sB ?_ | refine sC ?_ | refine sD ?_ | refine sE ?_ | refine sF ?_))
  first | refine ag (du _) (fun _ h=>nomatch h) fun r12 nr12=>?_ | refine af (du _) (fun _ h=>nomatch h) fun r12 nr12=>?_
  (with_reducible repeat (first | refine sA ?_ | refine sB ?_ | refine sC ?_ | refine sD ?_ | refine sE ?_ | refine sF ?_))
  first | refine ag (aA _ _) (fun _ h=>nomatch h) fun r13 b=>Sim.prop fun h=>?_ | refine af (aA _ _) (fun _ h=>nomatch h) fun r13 b=>Sim.prop fun h=>?_
  subst h
  refine gi NodeF ?_ fun nx15 x15=>?_
  ·skip
   (with_reducible repeat (first | refine sA ?_ | refine sB ?_ | refine sC ?_ | refine sD ?_ | refine sE ?_ | refine sF ?_))
   (first | refine qA (fun h=>?_) fun h=>?_ | refine qB (fun h=>?_) fun h=>?_ | refine qC (fun h=>?_) fun h=>?_ | refine qD (fun h=>?_) fun h=>?_ | refine qE (fun h=>?_) fun h=>?_) -- r13
   ·skip
    (with_reducible repeat (first | refine sA ?_ | refine sB ?_ | refine sC ?_ | refine sD ?_ | refine sE ?_ | refine sF ?_))
    first | refine ag (hR.block _) (fun _ h=>nomatch h) fun r14 nr14=>?_ | refine af (hR.block _) (fun _ h=>nomatch h) fun r14 nr14=>?_
    exact dF _ rfl rfl (fun F hF=>hF _ (by repeat (first | exact mz | apply ms)))
   ·skip
    exact dF _ rfl rfl (fun F hF=>hF _ (by repeat (first | exact mz | apply ms)))
  ·skip
   first | refine cP ?_ fun x20=>?_ | refine dB ?_ fun x20=>?_
   ·skip
    refine ju (by repeat (first | exact mz | apply ms)) ?_
    (with_reducible repeat (first | refine sA ?_ | refine sB ?_ | refine sC ?_ | refine sD ?_ | refine sE ?_ | refine sF ?_))
    refine qE (fun hy=>?_) (fun hy=>?_)
    ·skip
     refine ju (by repeat (first | exact mz | apply ms)) ?_
     exact aV _ rfl (by show cond (_&&_) _ _=_; rw [show (N.kind _==1)=true from hy]; rfl)
    ·skip
     exact aV _ rfl (by show cond (_&&_) _ _=_; rw [show (N.kind _==1)=false from hy]; rfl)
   ·skip
    (with_reducible repeat (first | refine sA ?_ | refine sB ?_ | refine sC ?_ | refine sD ?_ | refine sE ?_ | refine sF ?_))
    (first | refine qA (fun h=>?_) fun h=>?_ | refine qB (fun h=>?_) fun h=>?_ | refine qC (fun h=>?_) fun h=>?_ | refine qD (fun h=>?_) fun h=>?_ | refine qE (fun h=>?_) fun h=>?_) -- x20.1
    ·skip
     exact dV (β1:=Unit) (Rel1:=fun _ _ _=>Fact.prop True) (fS _) (fun _ h=>nomatch h) (by first | exact dW | exact ed _)
    ·skip
     refine bP [r1,x11,x15] [nr1,nx11,nx15] rfl (by decide) (by decide) (by kernel_rfl) (fun F hF=>(.cons _ _ _ _ (hF (NodeF nr1 r1) (by repeat (first | exact mz | apply ms))) (.cons _ _ _ _ (hF (NodeF nx11 x11) (by repeat (first | exact mz | apply ms))) (.cons _ _ _ _ (hF (NodeF nx15 x15) (by repeat (first | exact mz | apply ms))) .nil)))) fun r25=>?_
     (with_reducible repeat (first | refine sA ?_ | refine sB ?_ | refine sC ?_ | refine sD ?_ | refine sE ?_ | refine sF ?_))
     exact ay (t:=tP) _ rfl (fun F hF=>hF _ (by repeat (first | exact mz | apply ms)))
theorem ua {R:aY} (hR:cm R) (pb:Nat):Meets PG (PI pb) (aa fw #[.pointer (some (aL pb))]) tP (sn R) NodeF []:=by
 refine u6 (aL pb) ?_
 unfold jH sn
 (with_reducible repeat (first | refine sA ?_ | refine sB ?_ | refine sC ?_ | refine sD ?_ | refine sE ?_ | refine sF ?_))
 first | refine ag (aZ _) (fun _ h=>nomatch h) fun r1 b=>Sim.prop fun h=>?_ | refine af (aZ _) (fun _ h=>nomatch h) fun r1 b=>Sim.prop fun h=>?_
 subst h
 (with_reducible repeat (first | refine sA ?_ | refine sB ?_ | refine sC ?_ | refine sD ?_ | refine sE ?_ | refine sF ?_))
 first | refine ag (aG _ _) (fun _ h=>nomatch h) fun x b=>?_ | refine af (aG _ _) (fun _ h=>nomatch h) fun x b=>?_
 (with_reducible repeat (first | refine sA ?_ | refine sB ?_ | refine sC ?_ | refine sD ?_ | refine sE ?_ | refine sF ?_))
 first | refine ag (sr hR _) (fun _ h=>nomatch h) fun r3 nr3=>?_ | refine af (sr hR _) (fun _ h=>nomatch h) fun r3 nr3=>?_
 (with_reducible repeat (first | refine sA ?_ | refine sB ?_ | refine sC ?_ | refine sD ?_ | refine sE ?_ | refine sF ?_))
 first | refine ag (hR.block _) (fun _ h=>nomatch h) fun r4 nr4=>?_ | refine af (hR.block _) (fun _ h=>nomatch h) fun r4 nr4=>?_
 (with_reducible repeat (first | refine sA ?_ | refine sB ?_ | refine sC ?_ | refine sD ?_ | refine sE ?_ | refine sF ?_))
 first | refine ag (du _) (fun _ h=>nomatch h) fun r5 nr5=>?_ | refine af (du _) (fun _ h=>nomatch h) fun r5 nr5=>?_
 (with_reducible repeat (first | refine sA ?_ | refine sB ?_ | refine sC ?_ | refine sD ?_ | refine sE ?_ | refine sF ?_))
 first | refine ag (aA _ _) (fun _ h=>nomatch h) fun r6 b=>Sim.prop fun h=>?_ | refine af (aA _ _) (fun _ h=>nomatch h) fun r6 b=>Sim.prop fun h=>?_
 subst h
 (with_reducible repeat (first | refine sA ?_ | refine sB ?_ | refine sC ?_ | refine sD ?_ | refine sE ?_ | refine sF ?_))
 (first | refine qA (fun h=>?_) fun h=>?_ | refine qB (fun h=>?_) fun h=>?_ | refine qC (fun h=>?_) fun h=>?_ | refine qD (fun h=>?_) fun h=>?_ | refine qE (fun h=>?_) fun h=>?_) -- r6
 ·skip
  (with_reducible repeat (first | refine sA ?_ | refine sB ?_ | refine sC ?_ | refine sD ?_ | refine sE ?_ | refine sF ?_))
  first | refine ag (cc _ _) (fun _ h=>nomatch h) fun r7 b=>Sim.prop fun h=>?_ | refine af (cc _ _) (fun _ h=>nomatch h) fun r7 b=>Sim.prop fun h=>?_
  subst h
  (with_reducible repeat (first | refine sA ?_ | refine sB ?_ | refine sC ?_ | refine sD ?_ | refine sE ?_ | refine sF ?_))
  (first | refine qA (fun h=>?_) fun h=>?_ | refine qB (fun h=>?_) fun h=>?_ | refine qC (fun h=>?_) fun h=>?_ | refine qD (fun h=>?_) fun h=>?_ | refine qE (fun h=>?_) fun h=>?_) -- r7
  ·skip
   (with_reducible repeat (first | refine sA ?_ | refine sB ?_ | refine sC ?_ | refine sD ?_ | refine sE ?_ | refine sF ?_))
   first | refine ag (hR.branch _) (fun _ h=>nomatch h) fun r8 nr8=>?_ | refine af (hR.branch _) (fun _ h=>nomatch h) fun r8 nr8=>?_
   refine bP [r3,r4,r8] [nr3,nr4,nr8] rfl (by decide) (by decide) (by kernel_rfl) (fun F hF=>(.cons _ _ _ _ (hF (NodeF nr3 r3) (by repeat (first | exact mz | apply ms))) (.cons _ _ _ _ (hF (NodeF nr4 r4) (by repeat (first | exact mz | apply ms))) (.cons _ _ _ _ (hF (NodeF nr8 r8) (by repeat (first | exact mz | apply ms))) .nil)))) fun r10=>?_
   (with_reducible repeat (first | refine sA ?_ | refine sB ?_ | refine sC ?_ | refine sD ?_ | refine sE ?_ | refine sF ?_))
   exact ay (t:=tP) _ rfl (fun F hF=>hF _ (by repeat (first | exact mz | apply ms)))
  ·skip
   (with_reducible repeat (first | refine sA ?_ | refine sB ?_ | refine sC ?_ | refine sD ?_ | refine sE ?_ | refine sF ?_))
   first | refine ag (hR.block _) (fun _ h=>nomatch h) fun r11 nr11=>?_ | refine af (hR.block _) (fun _ h=>nomatch h) fun r11 nr11=>?_
   refine bP [r3,r4,r11] [nr3,nr4,nr11] rfl (by decide) (by decide) (by kernel_rfl) (fun F hF=>(.cons _ _ _ _ (hF (NodeF nr3 r3) (by repeat (first | exact mz | apply ms))) (.cons _ _ _ _ (hF (NodeF nr4 r4) (by repeat (first | exact mz | apply ms))) (.cons _ _ _ _ (hF (NodeF nr11 r11) (by repeat (first | exact mz | apply ms))) .nil)))) fun r13=>?_
   (with_reducible repeat (first | refine sA ?_ | refine sB ?_ | refine sC ?_ | refine sD ?_ | refine sE ?_ | refine sF ?_))
   exact ay (t:=tP) _ rfl (fun F hF=>hF _ (by repeat (first | exact mz | apply ms)))
 ·skip
  refine bP [r3,r4,r5] [nr3,nr4,nr5] rfl (by decide) (by decide) (by kernel_rfl) (fun F hF=>(.cons _ _ _ _ (hF (NodeF nr3 r3) (by repeat (first | exact mz | apply ms))) (.cons _ _ _ _ (hF (NodeF nr4 r4) (by repeat (first | exact mz | apply ms))) (.cons _ _ _ _ (hF (NodeF nr5 r5) (by repeat (first | exact mz | apply ms))) .nil)))) fun r15=>?_
  (with_reducible repeat (first | refine sA ?_ | refine sB ?_ | refine sC ?_ | refine sD ?_ | refine sE ?_ | refine sF ?_))
  exact ay (t:=tP) _ rfl (fun F hF=>hF _ (by repeat (first | exact mz | apply ms)))
theorem Jr {R:aY} (hR:cm R) (pb:Nat):Meets PG (PI pb) (aa lN #[.pointer (some (aL pb))]) tP (Fk R) NodeF []:=by
 refine zs (aL pb) ?_
 unfold mw Fk
 (with_reducible repeat (first | refine sA ?_ | refine sB ?_ | refine sC ?_ | refine sD ?_ | refine sE ?_ | refine sF ?_))
 first | refine ag (aZ _) (fun _ h=>nomatch h) fun r1 b=>Sim.prop fun h=>?_ | refine af (aZ _) (fun _ h=>nomatch h) fun r1 b=>Sim.prop fun h=>?_
 subst h
 (with_reducible repeat (first | refine sA ?_ | refine sB ?_ | refine sC ?_ | refine sD ?_ | refine sE ?_ | refine sF ?_))
 first | refine ag (aA _ _) (fun _ h=>nomatch h) fun r2 b=>Sim.prop fun h=>?_ | refine af (aA _ _) (fun _ h=>nomatch h) fun r2 b=>Sim.prop fun h=>?_
 subst h
 (with_reducible repeat (first | refine sA ?_ | refine sB ?_ | refine sC ?_ | refine sD ?_ | refine sE ?_ | refine sF ?_))
 (first | refine qA (fun h=>?_) fun h=>?_ | refine qB (fun h=>?_) fun h=>?_ | refine qC (fun h=>?_) fun h=>?_ | refine qD (fun h=>?_) fun h=>?_ | refine qE (fun h=>?_) fun h=>?_) -- r2
 ·skip
  (with_reducible repeat (first | refine sA ?_ | refine sB ?_ | refine sC ?_ | refine sD ?_ | refine sE ?_ | refine sF ?_))
  first | refine ag (aG _ _) (fun _ h=>nomatch h) fun x b=>?_ | refine af (aG _ _) (fun _ h=>nomatch h) fun x b=>?_
  (with_reducible repeat (first | refine sA ?_ | refine sB ?_ | refine sC ?_ | refine sD ?_ | refine sE ?_ | refine sF ?_))
  first | refine ag (fN hR _ _) (fun _ h=>nomatch h) fun r4 nr4=>?_ | refine af (fN hR _ _) (fun _ h=>nomatch h) fun r4 nr4=>?_
  (with_reducible repeat (first | refine sA ?_ | refine sB ?_ | refine sC ?_ | refine sD ?_ | refine sE ?_ | refine sF ?_))
  first | refine ag (aG _ _) (fun _ h=>nomatch h) fun x b=>?_ | refine af (aG _ _) (fun _ h=>nomatch h) fun x b=>?_
  (with_reducible repeat (first | refine sA ?_ | refine sB ?_ | refine sC ?_ | refine sD ?_ | refine sE ?_ | refine sF ?_))
  first | refine ag (hR.block _) (fun _ h=>nomatch h) fun r6 nr6=>?_ | refine af (hR.block _) (fun _ h=>nomatch h) fun r6 nr6=>?_
  refine bP [r4,r6] [nr4,nr6] rfl (by decide) (by decide) (by kernel_rfl) (fun F hF=>(.cons _ _ _ _ (hF (NodeF nr4 r4) (by repeat (first | exact mz | apply ms))) (.cons _ _ _ _ (hF (NodeF nr6 r6) (by repeat (first | exact mz | apply ms))) .nil))) fun r8=>?_
  (with_reducible repeat (first | refine sA ?_ | refine sB ?_ | refine sC ?_ | refine sD ?_ | refine sE ?_ | refine sF ?_))
  exact ay (t:=tP) _ rfl (fun F hF=>hF _ (by repeat (first | exact mz | apply ms)))
 ·skip
  (with_reducible repeat (first | refine sA ?_ | refine sB ?_ | refine sC ?_ | refine sD ?_ | refine sE ?_ | refine sF ?_))
  first | refine ag (eE _ _ (by decide) (by decide)) (fun _ h=>nomatch h) fun r9 b=>Sim.prop fun h=>?_ | refine af (eE _ _ (by decide) (by decide)) (fun _ h=>nomatch h) fun r9 b=>Sim.prop fun h=>?_
  subst h
  refine gd (c:=true) (z:=[.int .i64 0,.string kE,.int .i64 0,.int .i64 0]) (by kernel_rfl) (by kernel_rfl) rfl (by simp [Value.cells,Value.oneCell']) fun br10=>?_
  first | refine cP ?_ fun x17=>?_ | refine dB ?_ fun x17=>?_
  ·skip
   (with_reducible repeat (first | refine sA ?_ | refine sB ?_ | refine sC ?_ | refine sD ?_ | refine sE ?_ | refine sF ?_))
   first | refine ag (aZ _) (fun _ h=>nomatch h) fun r12 b=>Sim.prop fun h=>?_ | refine af (aZ _) (fun _ h=>nomatch h) fun r12 b=>Sim.prop fun h=>?_
   subst h
   (with_reducible repeat (first | refine sA ?_ | refine sB ?_ | refine sC ?_ | refine sD ?_ | refine sE ?_ | refine sF ?_))
   (first | refine qA (fun h=>?_) fun h=>?_ | refine qB (fun h=>?_) fun h=>?_ | refine qC (fun h=>?_) fun h=>?_ | refine qD (fun h=>?_) fun h=>?_ | refine qE (fun h=>?_) fun h=>?_) -- ((r12.1:Int)==1)
   ·skip
    refine nS (bs:=d3) (_,_,_,_,()) (by repeat (first | exact mz | apply ms)) (by kernel_rfl) rfl rfl ?_
    refine fp (i5 _ _ _) (fun _ h=>nomatch h) ?_
    (with_reducible repeat (first | refine sA ?_ | refine sB ?_ | refine sC ?_ | refine sD ?_ | refine sE ?_ | refine sF ?_))
    (first | refine qA (fun h=>?_) fun h=>?_ | refine qB (fun h=>?_) fun h=>?_ | refine qC (fun h=>?_) fun h=>?_ | refine qD (fun h=>?_) fun h=>?_ | refine qE (fun h=>?_) fun h=>?_) -- r14
    ·skip
     exact aV _ rfl (by first | rfl | (simp only [Tok.kind] at *; simp_all))
    ·skip
     refine nS (bs:=d3) (_,_,_,_,()) (by repeat (first | exact mz | apply ms)) (by kernel_rfl) rfl rfl ?_
     refine fp (i5 _ _ _) (fun _ h=>nomatch h) ?_
     exact aV _ rfl (by first | rfl | (simp only [Tok.kind] at *; simp_all))
   ·skip
    exact aV _ rfl (by first | rfl | (simp only [Tok.kind] at *; simp_all))
  ·skip
   (with_reducible repeat (first | refine sA ?_ | refine sB ?_ | refine sC ?_ | refine sD ?_ | refine sE ?_ | refine sF ?_))
   (first | refine qA (fun h=>?_) fun h=>?_ | refine qB (fun h=>?_) fun h=>?_ | refine qC (fun h=>?_) fun h=>?_ | refine qD (fun h=>?_) fun h=>?_ | refine qE (fun h=>?_) fun h=>?_) -- x17.1
   ·skip
    (with_reducible repeat (first | refine sA ?_ | refine sB ?_ | refine sC ?_ | refine sD ?_ | refine sE ?_ | refine sF ?_))
    first | refine ag (mU hR _ _ _) (fun _ h=>nomatch h) fun r18 nr18=>?_ | refine af (mU hR _ _ _) (fun _ h=>nomatch h) fun r18 nr18=>?_
    (with_reducible repeat (first | refine sA ?_ | refine sB ?_ | refine sC ?_ | refine sD ?_ | refine sE ?_ | refine sF ?_))
    exact ay (t:=tP) _ rfl (fun F hF=>hF _ (by repeat (first | exact mz | apply ms)))
   ·skip
    (with_reducible repeat (first | refine sA ?_ | refine sB ?_ | refine sC ?_ | refine sD ?_ | refine sE ?_ | refine sF ?_))
    first | refine ag (aA _ _) (fun _ h=>nomatch h) fun r19 b=>Sim.prop fun h=>?_ | refine af (aA _ _) (fun _ h=>nomatch h) fun r19 b=>Sim.prop fun h=>?_
    subst h
    refine iA ?_ fun x20=>?_
    ·skip
     (with_reducible repeat (first | refine sA ?_ | refine sB ?_ | refine sC ?_ | refine sD ?_ | refine sE ?_ | refine sF ?_))
     (first | refine qA (fun h=>?_) fun h=>?_ | refine qB (fun h=>?_) fun h=>?_ | refine qC (fun h=>?_) fun h=>?_ | refine qD (fun h=>?_) fun h=>?_ | refine qE (fun h=>?_) fun h=>?_) -- r19
     ·skip
      exact dN _ rfl rfl
     ·skip
      exact dN _ rfl rfl
    ·skip
     (with_reducible repeat (first | refine sA ?_ | refine sB ?_ | refine sC ?_ | refine sD ?_ | refine sE ?_ | refine sF ?_))
     first | refine ag (bU _) (fun _ h=>nomatch h) fun r21 b=>Sim.prop fun h=>?_ | refine af (bU _) (fun _ h=>nomatch h) fun r21 b=>Sim.prop fun h=>?_
     subst h
     (with_reducible repeat (first | refine sA ?_ | refine sB ?_ | refine sC ?_ | refine sD ?_ | refine sE ?_ | refine sF ?_))
     first | refine ag (fz hR _) (fun _ h=>nomatch h) fun r22 nr22=>?_ | refine af (fz hR _) (fun _ h=>nomatch h) fun r22 nr22=>?_
     (with_reducible repeat (first | refine sA ?_ | refine sB ?_ | refine sC ?_ | refine sD ?_ | refine sE ?_ | refine sF ?_))
     first | refine ag (du _) (fun _ h=>nomatch h) fun r23 nr23=>?_ | refine af (du _) (fun _ h=>nomatch h) fun r23 nr23=>?_
     (with_reducible repeat (first | refine sA ?_ | refine sB ?_ | refine sC ?_ | refine sD ?_ | refine sE ?_ | refine sF ?_))
     first | refine ag (aA _ _) (fun _ h=>nomatch h) fun r24 b=>Sim.prop fun h=>?_ | refine af (aA _ _) (fun _ h=>nomatch h) fun r24 b=>Sim.prop fun h=>?_
     subst h
     (with_reducible repeat (first | refine sA ?_ | refine sB ?_ | refine sC ?_ | refine sD ?_ | refine sE ?_ | refine sF ?_))
     (first | refine qA (fun h=>?_) fun h=>?_ | refine qB (fun h=>?_) fun h=>?_ | refine qC (fun h=>?_) fun h=>?_ | refine qD (fun h=>?_) fun h=>?_ | refine qE (fun h=>?_) fun h=>?_) -- r24
     ·skip
      (with_reducible repeat (first | refine sA ?_ | refine sB ?_ | refine sC ?_ | refine sD ?_ | refine sE ?_ | refine sF ?_))
      first | refine ag (hR.expr _) (fun _ h=>nomatch h) fun r25 nr25=>?_ | refine af (hR.expr _) (fun _ h=>nomatch h) fun r25 nr25=>?_
      (with_reducible repeat (first | refine sA ?_ | refine sB ?_ | refine sC ?_ | refine sD ?_ | refine sE ?_ | refine sF ?_))
      first | refine ag (aG _ _) (fun _ h=>nomatch h) fun x b=>?_ | refine af (aG _ _) (fun _ h=>nomatch h) fun x b=>?_
      refine bP [r22,r25] [nr22,nr25] rfl (by decide) (by decide) (by kernel_rfl) (fun F hF=>(.cons _ _ _ _ (hF (NodeF nr22 r22) (by repeat (first | exact mz | apply ms))) (.cons _ _ _ _ (hF (NodeF nr25 r25) (by repeat (first | exact mz | apply ms))) .nil))) fun r28=>?_
      (with_reducible repeat (first | refine sA ?_ | refine sB ?_ | refine sC ?_ | refine sD ?_ | refine sE ?_ | refine sF ?_))
      exact ay (t:=tP) _ rfl (fun F hF=>hF _ (by repeat (first | exact mz | apply ms)))
     ·skip
      (with_reducible repeat (first | refine sA ?_ | refine sB ?_ | refine sC ?_ | refine sD ?_ | refine sE ?_ | refine sF ?_))
      first | refine ag (aG _ _) (fun _ h=>nomatch h) fun x b=>?_ | refine af (aG _ _) (fun _ h=>nomatch h) fun x b=>?_
      refine bP [r22,r23] [nr22,nr23] rfl (by decide) (by decide) (by kernel_rfl) (fun F hF=>(.cons _ _ _ _ (hF (NodeF nr22 r22) (by repeat (first | exact mz | apply ms))) (.cons _ _ _ _ (hF (NodeF nr23 r23) (by repeat (first | exact mz | apply ms))) .nil))) fun r31=>?_
      (with_reducible repeat (first | refine sA ?_ | refine sB ?_ | refine sC ?_ | refine sD ?_ | refine sE ?_ | refine sF ?_))
      exact ay (t:=tP) _ rfl (fun F hF=>hF _ (by repeat (first | exact mz | apply ms)))
theorem Eb {R:aY} (hR:cm R) (pb:Nat) (a1:Int):Meets PG (PI pb) (aa kw #[.pointer (some (aL pb)),.int .i64 a1]) tP (BY R a1) NodeF []:=by
 refine xZ (aL pb) a1 ?_
 unfold la BY
 (with_reducible repeat (first | refine sA ?_ | refine sB ?_ | refine sC ?_ | refine sD ?_ | refine sE ?_ | refine sF ?_))
 first | refine ag (bU _) (fun _ h=>nomatch h) fun r1 b=>Sim.prop fun h=>?_ | refine af (bU _) (fun _ h=>nomatch h) fun r1 b=>Sim.prop fun h=>?_
 subst h
 (with_reducible repeat (first | refine sA ?_ | refine sB ?_ | refine sC ?_ | refine sD ?_ | refine sE ?_ | refine sF ?_))
 first | refine ag (i6 hR _) (fun _ h=>nomatch h) fun r2 nr2=>?_ | refine af (i6 hR _) (fun _ h=>nomatch h) fun r2 nr2=>?_
 (with_reducible repeat (first | refine sA ?_ | refine sB ?_ | refine sC ?_ | refine sD ?_ | refine sE ?_ | refine sF ?_))
 first | refine ag (du _) (fun _ h=>nomatch h) fun r3 nr3=>?_ | refine af (du _) (fun _ h=>nomatch h) fun r3 nr3=>?_
 (with_reducible repeat (first | refine sA ?_ | refine sB ?_ | refine sC ?_ | refine sD ?_ | refine sE ?_ | refine sF ?_))
 first | refine ag (aZ _) (fun _ h=>nomatch h) fun r4 b=>Sim.prop fun h=>?_ | refine af (aZ _) (fun _ h=>nomatch h) fun r4 b=>Sim.prop fun h=>?_
 subst h
 (with_reducible repeat (first | refine sA ?_ | refine sB ?_ | refine sC ?_ | refine sD ?_ | refine sE ?_ | refine sF ?_))
 first | refine ag (aA _ _) (fun _ h=>nomatch h) fun r5 b=>Sim.prop fun h=>?_ | refine af (aA _ _) (fun _ h=>nomatch h) fun r5 b=>Sim.prop fun h=>?_
 subst h
 refine gi NodeF ?_ fun nx10 x10=>?_
 ·skip
  (with_reducible repeat (first | refine sA ?_ | refine sB ?_ | refine sC ?_ | refine sD ?_ | refine sE ?_ | refine sF ?_))
  (first | refine qA (fun h=>?_) fun h=>?_ | refine qB (fun h=>?_) fun h=>?_ | refine qC (fun h=>?_) fun h=>?_ | refine qD (fun h=>?_) fun h=>?_ | refine qE (fun h=>?_) fun h=>?_) -- r5
  ·skip
   (with_reducible repeat (first | refine sA ?_ | refine sB ?_ | refine sC ?_ | refine sD ?_ | refine sE ?_ | refine sF ?_))
   first | refine ag (bU _) (fun _ h=>nomatch h) fun r6 b=>Sim.prop fun h=>?_ | refine af (bU _) (fun _ h=>nomatch h) fun r6 b=>Sim.prop fun h=>?_
   subst h
   (with_reducible repeat (first | refine sA ?_ | refine sB ?_ | refine sC ?_ | refine sD ?_ | refine sE ?_ | refine sF ?_))
   first | refine ag (lC hR _) (fun _ h=>nomatch h) fun r7 nr7=>?_ | refine af (lC hR _) (fun _ h=>nomatch h) fun r7 nr7=>?_
   refine bP [r7] [nr7] rfl (by decide) (by decide) (by kernel_rfl) (fun F hF=>(.cons _ _ _ _ (hF (NodeF nr7 r7) (by repeat (first | exact mz | apply ms))) .nil)) fun r9=>?_
   exact dF _ rfl rfl (fun F hF=>hF _ (by repeat (first | exact mz | apply ms)))
  ·skip
   exact dF _ rfl rfl (fun F hF=>hF _ (by repeat (first | exact mz | apply ms)))
 ·skip
  (with_reducible repeat (first | refine sA ?_ | refine sB ?_ | refine sC ?_ | refine sD ?_ | refine sE ?_ | refine sF ?_))
  first | refine ag (vZ hR _ _) (fun _ h=>nomatch h) fun r11 nr11=>?_ | refine af (vZ hR _ _) (fun _ h=>nomatch h) fun r11 nr11=>?_
  (with_reducible repeat (first | refine sA ?_ | refine sB ?_ | refine sC ?_ | refine sD ?_ | refine sE ?_ | refine sF ?_))
  first | refine ag (aG _ _) (fun _ h=>nomatch h) fun x b=>?_ | refine af (aG _ _) (fun _ h=>nomatch h) fun x b=>?_
  (with_reducible repeat (first | refine sA ?_ | refine sB ?_ | refine sC ?_ | refine sD ?_ | refine sE ?_ | refine sF ?_))
  refine iC (FZ _) (fun _ h=>nomatch h) fun r13 nr13 Kr13=>Sim.both (Sim.prop fun hk0=>?_)
  refine ea (x:={ ι:=Int × N,sp:=fun j=>cond (decide (j.1 > 1)) cD (do bC k_rc; pure (bw 42 r1 0 a1 [nr2,nx10,nr11,j.2])),J:=fun j vs L'=>Fact.ex fun K:al=>(Fact.prop (vs=[.int .i64 j.1]∧L'=K++[])).both (cR j.2 r13 K) }) ?_ fun i vs L'=>⟨?_,fun y=>?_⟩
  ·refine nw (δ:=Int × N) (fun k d=>membersCS R k d.1 d.2>>=fun cp=>cond (decide (cp.1 > 1)) cD (do bC k_rc; pure (bw 42 r1 0 a1 [nr2,nx10,nr11,cp.2])))
    (fun k d vs L'=>Fact.ex fun K:al=>(Fact.prop (vs=[.int .i64 d.1]∧L'=K++[]∧d.2.kids.length+2 * k≤2199023255552∧0≤d.1∧d.1≤d.2.kids.length)).both (cR d.2 r13 K)) R.fuel (0,nr13) (fun _=>rfl) rfl (fun F hF=>⟨Kr13,⟨rfl,rfl,?_,Int.le_refl _,?_⟩,hF _ (by repeat (first | exact mz | apply ms))⟩)
    (by rintro k d vs L' F ⟨K,⟨rfl,_⟩,_⟩; exact ⟨(d.1,()),rfl⟩) ?_
   ·have:=hR.fuel; rw [hk0]; simp; omega
   ·rw [hk0]; simp
   rintro k ⟨c,n⟩ L' ⟨c',⟨⟩⟩
   refine Sim.ex fun K=>Sim.both (Sim.prop fun ⟨hv,hL,hn,hc0,hc1⟩=>?_)
   subst hL
   obtain rfl:c=c':=by
    have:=(List.cons.inj hv).1
    cases this; rfl
   replace hn:n.kids.length+2 * (k+1)≤2199023255552:=hn
   replace hc0:0≤c:=hc0
   have hc2:(c:Int)≤((N.kids n).length:Int):=hc1
   clear hc1
   have hc0':(0:Int)≤c:=hc0
   dsimp only
   rw [membersCS.eq_2]
   (with_reducible repeat (first | refine sA ?_ | refine sB ?_ | refine sC ?_ | refine sD ?_ | refine sE ?_ | refine sF ?_))
   refine ag (cc _ _) (fun _ h=>nomatch h) fun r15 b=>Sim.prop fun h=>?_
   subst h
   refine qD (fun h=>?_) (fun h=>?_)
   ·(with_reducible repeat (first | refine sA ?_ | refine sB ?_ | refine sC ?_ | refine sD ?_ | refine sE ?_ | refine sF ?_))
    refine ag (Jr hR _) (fun _ h=>nomatch h) fun r16 nr16=>?_
    refine ju (by repeat (first | exact mz | apply ms)) ?_
    refine yD (fun c2=>fun st=>if c2=(if nr16.kind==46 then c+1 else c) then (membersCS R k c2 (n.push nr16)>>=fun cp=>cond (decide (cp.1 > 1)) cD (do bC k_rc; pure (bw 42 r1 0 a1 [nr2,nx10,nr11,cp.2]))) st else none) ?_ fun x19=>?_
    ·refine qE (fun h=>?_) (fun h=>?_)
     ·have hw:IntKind.i64.wrap (c+1)=c+1:=aS (by omega) (by omega)
      rw [hw]
      refine dN _ rfl ?_
      have h':(nr16.kind==46)=true:=h
      rw [h']; funext st; simp
     ·refine dN _ rfl ?_
      have h':(nr16.kind==46)=false:=h
      rw [h']; funext st; simp
    ·by_cases hx:x19=(if nr16.kind==46 then c+1 else c)
     ·refine Sim.spec (s':=(membersCS R k x19 (n.push nr16)>>=fun cp=>cond (decide (cp.1 > 1)) cD (do bC k_rc; pure (bw 42 r1 0 a1 [nr2,nx10,nr11,cp.2])))) (by funext st; simp only [if_pos hx]) ?_
      refine Gq (n:=n) (by repeat (first | exact mz | apply ms)) (by repeat (first | exact mz | apply ms)) (by omega) fun K=>?_
      refine ct rfl ⟨(k,(x19,n.push nr16)),Nat.lt_succ_self k⟩ rfl fun F hF=>⟨K,⟨rfl,rfl,?_,?_,?_⟩,hF _ (List.mem_cons_self ..)⟩
      ·show (n.push nr16).kids.length+2 * k≤2199023255552; rw [N.push_len]; omega
      ·have h9:(0:Int)≤(if nr16.kind==46 then c+1 else c):=by split<;>omega
       exact hx.symm▸h9
      ·have h9:(if nr16.kind==46 then c+1 else c)≤(((n.push nr16).kids.length:Nat):Int):=by rw [N.push_len]; split<;>(push_cast; omega)
       exact hx.symm▸h9
     ·intro r w F H st res S hs
      simp only [if_neg hx] at hs; cases hs
   ·refine ct rfl (c,n) rfl fun F hF=>⟨K,⟨rfl,rfl⟩,hF _ (by repeat (first | exact mz | apply ms))⟩
  ·rintro F ⟨K,⟨rfl,_⟩,_⟩; exact ⟨(i.1,()),rfl⟩
  ·obtain ⟨y,⟨⟩⟩:=y
   refine Sim.ex fun K=>Sim.both (Sim.prop fun ⟨hv,hL⟩=>?_)
   subst hL
   obtain rfl:y=i.1:=by
    have:=(List.cons.inj hv).1
    cases this; rfl
   refine qA (fun h=>?_) (fun h=>?_)
   ·exact dV (β1:=Unit) (Rel1:=fun _ _ _=>Fact.prop True) (fS _) (fun _ h=>nomatch h) (by first | exact dW | exact ed _)
   ·refine ag (aG _ _) (fun _ h=>nomatch h) fun x b=>?_
    refine c7 (n:=i.2) (x:=r13) (by repeat (first | exact mz | apply ms)) ?_
    refine bP [r2,x10,r11,r13] [nr2,nx10,nr11,i.2] rfl (by decide) (by decide) (by kernel_rfl) (fun F hF=>(.cons _ _ _ _ (hF (NodeF nr2 r2) (by repeat (first | exact mz | apply ms))) (.cons _ _ _ _ (hF (NodeF nx10 x10) (by repeat (first | exact mz | apply ms))) (.cons _ _ _ _ (hF (NodeF nr11 r11) (by repeat (first | exact mz | apply ms))) (.cons _ _ _ _ (hF (NodeF i.2 r13) (by repeat (first | exact mz | apply ms))) .nil))))) fun r33=>?_
    exact ay (t:=tP) _ rfl (fun F hF=>hF _ (by repeat (first | exact mz | apply ms)))
theorem uP {R:aY} (hR:cm R) (pb:Nat) (n:Int) (pos:Int):Meets PG (PI pb) (aa jb #[.pointer (some (aL pb)),.int .i64 n,.int .i64 pos]) tP (A3 R n pos) NodeF []:=by
 refine AB (aL pb) n pos ?_
 unfold mE A3
 (with_reducible repeat (first | refine sA ?_ | refine sB ?_ | refine sC ?_ | refine sD ?_ | refine sE ?_ | refine sF ?_))
 first | refine ag (aG _ _) (fun _ h=>nomatch h) fun x b=>?_ | refine af (aG _ _) (fun _ h=>nomatch h) fun x b=>?_
 (with_reducible repeat (first | refine sA ?_ | refine sB ?_ | refine sC ?_ | refine sD ?_ | refine sE ?_ | refine sF ?_))
 first | refine ag (bU _) (fun _ h=>nomatch h) fun r2 b=>Sim.prop fun h=>?_ | refine af (bU _) (fun _ h=>nomatch h) fun r2 b=>Sim.prop fun h=>?_
 subst h
 refine gb fun r3 Kr3=>?_
 (with_reducible repeat (first | refine sA ?_ | refine sB ?_ | refine sC ?_ | refine sD ?_ | refine sE ?_ | refine sF ?_))
 first | refine ag (aG _ _) (fun _ h=>nomatch h) fun x b=>?_ | refine af (aG _ _) (fun _ h=>nomatch h) fun x b=>?_
 refine lI (fun n=>do bC k_rc; pure n) r3 [] ?_ fun n K=>?_
 ·skip
  refine gX (BI R) R.fuel _ (fun _=>rfl) rfl (by have:=hR.fuel; simp [bw,N.kids]; omega) (by repeat (first | exact mz | apply ms)) fun k n K hn=>?_
  (with_reducible repeat (first | refine sA ?_ | refine sB ?_ | refine sC ?_ | refine sD ?_ | refine sE ?_ | refine sF ?_))
  first | refine ag (cc _ _) (fun _ h=>nomatch h) fun r6 b=>Sim.prop fun h=>?_ | refine af (cc _ _) (fun _ h=>nomatch h) fun r6 b=>Sim.prop fun h=>?_
  subst h
  (with_reducible repeat (first | refine sA ?_ | refine sB ?_ | refine sC ?_ | refine sD ?_ | refine sE ?_ | refine sF ?_))
  (first | refine qA (fun h=>?_) fun h=>?_ | refine qB (fun h=>?_) fun h=>?_ | refine qC (fun h=>?_) fun h=>?_ | refine qD (fun h=>?_) fun h=>?_ | refine qE (fun h=>?_) fun h=>?_) -- (!r6)
  ·skip
   (with_reducible repeat (first | refine sA ?_ | refine sB ?_ | refine sC ?_ | refine sD ?_ | refine sE ?_ | refine sF ?_))
   first | refine ag (aZ _) (fun _ h=>nomatch h) fun r7 b=>Sim.prop fun h=>?_ | refine af (aZ _) (fun _ h=>nomatch h) fun r7 b=>Sim.prop fun h=>?_
   subst h
   (with_reducible repeat (first | refine sA ?_ | refine sB ?_ | refine sC ?_ | refine sD ?_ | refine sE ?_ | refine sF ?_))
   first | refine ag (bU _) (fun _ h=>nomatch h) fun r8 b=>Sim.prop fun h=>?_ | refine af (bU _) (fun _ h=>nomatch h) fun r8 b=>Sim.prop fun h=>?_
   subst h
   (with_reducible repeat (first | refine sA ?_ | refine sB ?_ | refine sC ?_ | refine sD ?_ | refine sE ?_ | refine sF ?_))
   first | refine ag (du _) (fun _ h=>nomatch h) fun r9 nr9=>?_ | refine af (du _) (fun _ h=>nomatch h) fun r9 nr9=>?_
   (with_reducible repeat (first | refine sA ?_ | refine sB ?_ | refine sC ?_ | refine sD ?_ | refine sE ?_ | refine sF ?_))
   first | refine ag (aA _ _) (fun _ h=>nomatch h) fun r10 b=>Sim.prop fun h=>?_ | refine af (aA _ _) (fun _ h=>nomatch h) fun r10 b=>Sim.prop fun h=>?_
   subst h
   refine gi NodeF ?_ fun nx12 x12=>?_
   ·skip
    (with_reducible repeat (first | refine sA ?_ | refine sB ?_ | refine sC ?_ | refine sD ?_ | refine sE ?_ | refine sF ?_))
    (first | refine qA (fun h=>?_) fun h=>?_ | refine qB (fun h=>?_) fun h=>?_ | refine qC (fun h=>?_) fun h=>?_ | refine qD (fun h=>?_) fun h=>?_ | refine qE (fun h=>?_) fun h=>?_) -- r10
    ·skip
     (with_reducible repeat (first | refine sA ?_ | refine sB ?_ | refine sC ?_ | refine sD ?_ | refine sE ?_ | refine sF ?_))
     first | refine ag (hR.expr _) (fun _ h=>nomatch h) fun r11 nr11=>?_ | refine af (hR.expr _) (fun _ h=>nomatch h) fun r11 nr11=>?_
     exact dF _ rfl rfl (fun F hF=>hF _ (by repeat (first | exact mz | apply ms)))
    ·skip
     exact dF _ rfl rfl (fun F hF=>hF _ (by repeat (first | exact mz | apply ms)))
   ·skip
    refine f9 (by repeat (first | exact mz | apply ms)) fun b sl ps K2 hx hb=>?_
    refine eU [x12] [nx12] rfl (by decide) (by decide) (by kernel_rfl) (fun F hF=>(.cons _ _ _ _ (hF (NodeF nx12 x12) (by repeat (first | exact mz | apply ms))) .nil)) (fun p hp=>by first | exact absurd hp List.not_mem_nil | (simp at hp; simp [hp])) fun r16=>?_
    subst hx
    refine ga hb (by repeat (first | exact mz | apply ms)) (by repeat (first | exact mz | apply ms)) (by omega) fun K=>?_
    (with_reducible repeat (first | refine sA ?_ | refine sB ?_ | refine sC ?_ | refine sD ?_ | refine sE ?_ | refine sF ?_))
    first | refine ag (aA _ _) (fun _ h=>nomatch h) fun r21 b=>Sim.prop fun h=>?_ | refine af (aA _ _) (fun _ h=>nomatch h) fun r21 b=>Sim.prop fun h=>?_
    subst h
    (with_reducible repeat (first | refine sA ?_ | refine sB ?_ | refine sC ?_ | refine sD ?_ | refine sE ?_ | refine sF ?_))
    (first | refine qA (fun h=>?_) fun h=>?_ | refine qB (fun h=>?_) fun h=>?_ | refine qC (fun h=>?_) fun h=>?_ | refine qD (fun h=>?_) fun h=>?_ | refine qE (fun h=>?_) fun h=>?_) -- (!r21)
    ·skip
     exact f8 _ rfl rfl (by repeat (first | exact mz | apply ms))
    ·skip
     (first | refine jy _ rfl (by simp [N.push_len] at hn ⊢; omega) (by repeat (first | exact mz | apply ms)) | refine jz _ (by decide) rfl (by simp [N.push_len] at hn ⊢; omega) (by repeat (first | exact mz | apply ms)))
  ·skip
   exact f8 _ rfl rfl (by repeat (first | exact mz | apply ms))
 ·skip
  (with_reducible repeat (first | refine sA ?_ | refine sB ?_ | refine sC ?_ | refine sD ?_ | refine sE ?_ | refine sF ?_))
  first | refine ag (aG _ _) (fun _ h=>nomatch h) fun x b=>?_ | refine af (aG _ _) (fun _ h=>nomatch h) fun x b=>?_
  refine c7 (n:=_) (x:=r3) (by repeat (first | exact mz | apply ms)) ?_
  (with_reducible repeat (first | refine sA ?_ | refine sB ?_ | refine sC ?_ | refine sD ?_ | refine sE ?_ | refine sF ?_))
  exact ay (t:=tP) _ rfl (fun F hF=>hF _ (by repeat (first | exact mz | apply ms)))
theorem tJ {R:aY} (hR:cm R) (pb:Nat) (a1:Int):Meets PG (PI pb) (aa ii #[.pointer (some (aL pb)),.int .i64 a1]) tP (qR R a1) NodeF []:=by
 refine rr (aL pb) a1 ?_
 unfold g9 qR
 (with_reducible repeat (first | refine sA ?_ | refine sB ?_ | refine sC ?_ | refine sD ?_ | refine sE ?_ | refine sF ?_))
 first | refine ag (bU _) (fun _ h=>nomatch h) fun r1 b=>Sim.prop fun h=>?_ | refine af (bU _) (fun _ h=>nomatch h) fun r1 b=>Sim.prop fun h=>?_
 subst h
 refine gb fun r2 Kr2=>?_
 (with_reducible repeat (first | refine sA ?_ | refine sB ?_ | refine sC ?_ | refine sD ?_ | refine sE ?_ | refine sF ?_))
 first | refine ag (aG _ _) (fun _ h=>nomatch h) fun x b=>?_ | refine af (aG _ _) (fun _ h=>nomatch h) fun x b=>?_
 refine lI (fun n=>do bC k_rc; pure n) r2 [] ?_ fun n K=>?_
 ·skip
  refine gX (sa R) R.fuel _ (fun _=>rfl) rfl (by have:=hR.fuel; simp [bw,N.kids]; omega) (by repeat (first | exact mz | apply ms)) fun k n K hn=>?_
  (with_reducible repeat (first | refine sA ?_ | refine sB ?_ | refine sC ?_ | refine sD ?_ | refine sE ?_ | refine sF ?_))
  first | refine ag (cc _ _) (fun _ h=>nomatch h) fun r5 b=>Sim.prop fun h=>?_ | refine af (cc _ _) (fun _ h=>nomatch h) fun r5 b=>Sim.prop fun h=>?_
  subst h
  (with_reducible repeat (first | refine sA ?_ | refine sB ?_ | refine sC ?_ | refine sD ?_ | refine sE ?_ | refine sF ?_))
  (first | refine qA (fun h=>?_) fun h=>?_ | refine qB (fun h=>?_) fun h=>?_ | refine qC (fun h=>?_) fun h=>?_ | refine qD (fun h=>?_) fun h=>?_ | refine qE (fun h=>?_) fun h=>?_) -- (!r5)
  ·skip
   (with_reducible repeat (first | refine sA ?_ | refine sB ?_ | refine sC ?_ | refine sD ?_ | refine sE ?_ | refine sF ?_))
   first | refine ag (aZ _) (fun _ h=>nomatch h) fun r6 b=>Sim.prop fun h=>?_ | refine af (aZ _) (fun _ h=>nomatch h) fun r6 b=>Sim.prop fun h=>?_
   subst h
   refine gd (c:=true) (z:=[.int .i64 0,.string kE,.int .i64 0,.int .i64 0]) (by kernel_rfl) (by kernel_rfl) rfl (by simp [Value.cells,Value.oneCell']) fun br7=>?_
   (with_reducible repeat (first | refine sA ?_ | refine sB ?_ | refine sC ?_ | refine sD ?_ | refine sE ?_ | refine sF ?_))
   first | refine ag (aA _ _) (fun _ h=>nomatch h) fun r9 b=>Sim.prop fun h=>?_ | refine af (aA _ _) (fun _ h=>nomatch h) fun r9 b=>Sim.prop fun h=>?_
   subst h
   (with_reducible repeat (first | refine sA ?_ | refine sB ?_ | refine sC ?_ | refine sD ?_ | refine sE ?_ | refine sF ?_))
   (first | refine qA (fun h=>?_) fun h=>?_ | refine qB (fun h=>?_) fun h=>?_ | refine qC (fun h=>?_) fun h=>?_ | refine qD (fun h=>?_) fun h=>?_ | refine qE (fun h=>?_) fun h=>?_) -- (!r9)
   ·skip
    refine f9 (by repeat (first | exact mz | apply ms)) fun b sl ps K2 hx hb=>?_
    (with_reducible repeat (first | refine sA ?_ | refine sB ?_ | refine sC ?_ | refine sD ?_ | refine sE ?_ | refine sF ?_))
    first | refine dT (hR.statement _) (fun _ h=>nomatch h) fun r12 nr12=>?_ | refine im (hR.statement _) (fun _ h=>nomatch h) fun r12 nr12=>?_
    subst hx
    refine ga hb (by repeat (first | exact mz | apply ms)) (by repeat (first | exact mz | apply ms)) (by omega) fun K=>?_
    (first | refine jy _ rfl (by simp [N.push_len] at hn ⊢; omega) (by repeat (first | exact mz | apply ms)) | refine jz _ (by decide) rfl (by simp [N.push_len] at hn ⊢; omega) (by repeat (first | exact mz | apply ms)))
   ·skip
    first | refine cP ?_ fun x19=>?_ | refine dB ?_ fun x19=>?_
    ·skip
     (with_reducible repeat (first | refine sA ?_ | refine sB ?_ | refine sC ?_ | refine sD ?_ | refine sE ?_ | refine sF ?_))
     first | refine ag (cc _ _) (fun _ h=>nomatch h) fun r17 b=>Sim.prop fun h=>?_ | refine af (cc _ _) (fun _ h=>nomatch h) fun r17 b=>Sim.prop fun h=>?_
     subst h
     (with_reducible repeat (first | refine sA ?_ | refine sB ?_ | refine sC ?_ | refine sD ?_ | refine sE ?_ | refine sF ?_))
     (first | refine qA (fun h=>?_) fun h=>?_ | refine qB (fun h=>?_) fun h=>?_ | refine qC (fun h=>?_) fun h=>?_ | refine qD (fun h=>?_) fun h=>?_ | refine qE (fun h=>?_) fun h=>?_) -- r17
     ·skip
      exact aV _ rfl (by first | rfl | (simp only [Tok.kind] at *; simp_all))
     ·skip
      (with_reducible repeat (first | refine sA ?_ | refine sB ?_ | refine sC ?_ | refine sD ?_ | refine sE ?_ | refine sF ?_))
      first | refine ag (aZ _) (fun _ h=>nomatch h) fun r18 b=>Sim.prop fun h=>?_ | refine af (aZ _) (fun _ h=>nomatch h) fun r18 b=>Sim.prop fun h=>?_
      subst h
      exact aV _ rfl (by first | rfl | (simp only [Tok.kind] at *; simp_all))
    ·skip
     first | refine jK ?_ ?_ | refine fB cD ?_ ?_
     ·skip
      (with_reducible repeat (first | refine sA ?_ | refine sB ?_ | refine sC ?_ | refine sD ?_ | refine sE ?_ | refine sF ?_))
      (first | refine qA (fun h=>?_) fun h=>?_ | refine qB (fun h=>?_) fun h=>?_ | refine qC (fun h=>?_) fun h=>?_ | refine qD (fun h=>?_) fun h=>?_ | refine qE (fun h=>?_) fun h=>?_) -- x19.1
      ·skip
       exact dV (β1:=Unit) (Rel1:=fun _ _ _=>Fact.prop True) (fS _) (fun _ h=>nomatch h) (by first | exact dW | exact ed _)
      ·skip
       exact gc rfl rfl
     ·skip
      (with_reducible repeat (first | refine sA ?_ | refine sB ?_ | refine sC ?_ | refine sD ?_ | refine sE ?_ | refine sF ?_))
      first | refine ag (aZ _) (fun _ h=>nomatch h) fun r22 b=>Sim.prop fun h=>?_ | refine af (aZ _) (fun _ h=>nomatch h) fun r22 b=>Sim.prop fun h=>?_
      subst h
      refine ag (hR.declaration _ _) (fun _ h=>nomatch h) fun r23 o23=>?_
      cases o23 with
      | none =>
       refine Sim.prop fun hp=>?_
       subst hp
       refine jA (fun c=>cond c cD Sp.stop) ?_ fun x29=>?_
       ·refine y6 (by kernel_rfl) (qE (fun h=>?_) (fun h=>by cases h))
        exact aV _ rfl rfl
       ·refine fB Sp.stop ?_ Bt
        refine qA (fun h=>?_) (fun h=>?_)
        ·exact dV (β1:=Unit) (Rel1:=fun _ _ _=>Fact.prop True) (fS _) (fun _ h=>nomatch h) (by first | exact dW | exact ed _)
        ·exact gc rfl rfl
      | some n23 =>
       show Sim PG (PI pb) tP (pl NodeF) _ none _ (cond (n23.kind==47&&n23.num==1) cD (sa R k (n.push (bw 50 kE 0 (Tok.pos r6) [n23])))) _ (NodeF n23 r23::_)
       refine i9 (n:=n23) (x:=r23) (List.mem_cons_self ..) fun b23 sl23 h23=>?_
       refine dB ?_ fun x29=>?_
       ·refine y6 (by kernel_rfl) (qE (fun h=>by rw [h23] at h; cases h) (fun h=>?_))
        refine ju (n:=n23) (by repeat (first | exact mz | apply ms)) ?_
        refine qE (fun h47=>?_) (fun h47=>?_)
        ·refine Iy (n:=n23) (by repeat (first | exact mz | apply ms)) ?_
         exact aV _ rfl (by show cond (n23.kind==47&&n23.num==1) _ _=_; rw [show (n23.kind==47)=true from h47]; rfl)
        ·exact aV _ rfl (by show cond (n23.kind==47&&n23.num==1) _ _=_; rw [show (n23.kind==47)=false from h47]; rfl)
       ·refine jK ?_ ?_
        ·refine qA (fun h=>?_) (fun h=>?_)
         ·exact dV (β1:=Unit) (Rel1:=fun _ _ _=>Fact.prop True) (fS _) (fun _ h=>nomatch h) (by first | exact dW | exact ed _)
         ·exact gc rfl rfl
        ·refine f9 (n:=n) (by repeat (first | exact mz | apply ms)) fun b sl ps K2 hx hb=>?_
         refine cL (b1:=.int .i64) _ (by repeat (first | exact mz | apply ms)) (by kernel_rfl) rfl rfl ?_
         refine eU [r23] [n23] rfl (by decide) (by decide) (by kernel_rfl) (fun F hF=>(.cons _ _ _ _ (hF (NodeF n23 r23) (by repeat (first | exact mz | apply ms))) .nil)) (fun p hp=>by first | exact absurd hp List.not_mem_nil | (simp at hp; simp [hp])) fun r36=>?_
         subst hx
         refine ga (n:=n) hb (by repeat (first | exact mz | apply ms)) (by repeat (first | exact mz | apply ms)) (by omega) fun K=>?_
         (first | refine jy _ rfl (by simp [N.push_len] at hn ⊢; omega) (by repeat (first | exact mz | apply ms)) | refine jz _ (by decide) rfl (by simp [N.push_len] at hn ⊢; omega) (by repeat (first | exact mz | apply ms)))
  ·skip
   exact f8 _ rfl rfl (by repeat (first | exact mz | apply ms))
 ·skip
  (with_reducible repeat (first | refine sA ?_ | refine sB ?_ | refine sC ?_ | refine sD ?_ | refine sE ?_ | refine sF ?_))
  first | refine ag (aG _ _) (fun _ h=>nomatch h) fun x b=>?_ | refine af (aG _ _) (fun _ h=>nomatch h) fun x b=>?_
  refine c7 (n:=_) (x:=r2) (by repeat (first | exact mz | apply ms)) ?_
  (with_reducible repeat (first | refine sA ?_ | refine sB ?_ | refine sC ?_ | refine sD ?_ | refine sE ?_ | refine sF ?_))
  exact ay (t:=tP) _ rfl (fun F hF=>hF _ (by repeat (first | exact mz | apply ms)))
set_option maxHeartbeats 2000000 in
theorem q4 {R:aY} (hR:cm R) (pb:Nat) (a1:Tok):Meets PG (PI pb) (aa dM #[.pointer (some (aL pb)),.agg #[.int .i64 a1.1,.string a1.2.1,.int .i64 a1.2.2.1,.int .i64 a1.2.2.2.1]]) tP (jX R a1) Jq []:=by
 refine qs (aL pb) a1 ?_
 unfold gu jX
 refine jj fun br1=>?_
 first | refine cP ?_ fun x5=>?_ | refine dB ?_ fun x5=>?_
 ·skip
  (with_reducible repeat (first | refine sA ?_ | refine sB ?_ | refine sC ?_ | refine sD ?_ | refine sE ?_ | refine sF ?_))
  first | refine ag (cc _ _) (fun _ h=>nomatch h) fun r2 b=>Sim.prop fun h=>?_ | refine af (cc _ _) (fun _ h=>nomatch h) fun r2 b=>Sim.prop fun h=>?_
  subst h
  (with_reducible repeat (first | refine sA ?_ | refine sB ?_ | refine sC ?_ | refine sD ?_ | refine sE ?_ | refine sF ?_))
  (first | refine qA (fun h=>?_) fun h=>?_ | refine qB (fun h=>?_) fun h=>?_ | refine qC (fun h=>?_) fun h=>?_ | refine qD (fun h=>?_) fun h=>?_ | refine qE (fun h=>?_) fun h=>?_) -- r2
  ·skip
   (with_reducible repeat (first | refine sA ?_ | refine sB ?_ | refine sC ?_ | refine sD ?_ | refine sE ?_ | refine sF ?_))
   first | refine ag (eE _ _ (by decide) (by decide)) (fun _ h=>nomatch h) fun r3 b=>Sim.prop fun h=>?_ | refine af (eE _ _ (by decide) (by decide)) (fun _ h=>nomatch h) fun r3 b=>Sim.prop fun h=>?_
   subst h
   refine fp (i5 _ _ _) (fun _ h=>nomatch h) ?_
   exact aV _ rfl (by first | rfl | (simp only [Tok.kind] at *; simp_all))
  ·skip
   exact aV _ rfl (by first | rfl | (simp only [Tok.kind] at *; simp_all))
 ·skip
  (with_reducible repeat (first | refine sA ?_ | refine sB ?_ | refine sC ?_ | refine sD ?_ | refine sE ?_ | refine sF ?_))
  (first | refine qA (fun h=>?_) fun h=>?_ | refine qB (fun h=>?_) fun h=>?_ | refine qC (fun h=>?_) fun h=>?_ | refine qD (fun h=>?_) fun h=>?_ | refine qE (fun h=>?_) fun h=>?_) -- x5.1
  ·skip
   (with_reducible repeat (first | refine sA ?_ | refine sB ?_ | refine sC ?_ | refine sD ?_ | refine sE ?_ | refine sF ?_))
   first | refine ag (cZ _) (fun _ h=>nomatch h) fun r6 b=>Sim.prop fun h=>?_ | refine af (cZ _) (fun _ h=>nomatch h) fun r6 b=>Sim.prop fun h=>?_
   subst h
   refine aN (b1:=.int .i64) _ (by repeat (first | exact mz | apply ms)) (by kernel_rfl) rfl rfl ?_
   (with_reducible repeat (first | refine sA ?_ | refine sB ?_ | refine sC ?_ | refine sD ?_ | refine sE ?_ | refine sF ?_))
   first | refine ag (uP hR _ _ _) (fun _ h=>nomatch h) fun r8 nr8=>?_ | refine af (uP hR _ _ _) (fun _ h=>nomatch h) fun r8 nr8=>?_
   (with_reducible repeat (first | refine sA ?_ | refine sB ?_ | refine sC ?_ | refine sD ?_ | refine sE ?_ | refine sF ?_))
   exact ay (t:=tP) _ rfl (fun F hF=>hF _ (by repeat (first | exact mz | apply ms)))
  ·skip
   (with_reducible repeat (first | refine sA ?_ | refine sB ?_ | refine sC ?_ | refine sD ?_ | refine sE ?_ | refine sF ?_))
   first | refine ag (aA _ _) (fun _ h=>nomatch h) fun r9 b=>Sim.prop fun h=>?_ | refine af (aA _ _) (fun _ h=>nomatch h) fun r9 b=>Sim.prop fun h=>?_
   subst h
   (with_reducible repeat (first | refine sA ?_ | refine sB ?_ | refine sC ?_ | refine sD ?_ | refine sE ?_ | refine sF ?_))
   (first | refine qA (fun h=>?_) fun h=>?_ | refine qB (fun h=>?_) fun h=>?_ | refine qC (fun h=>?_) fun h=>?_ | refine qD (fun h=>?_) fun h=>?_ | refine qE (fun h=>?_) fun h=>?_) -- r9
   ·skip
    refine aN (b1:=.int .i64) _ (by repeat (first | exact mz | apply ms)) (by kernel_rfl) rfl rfl ?_
    (with_reducible repeat (first | refine sA ?_ | refine sB ?_ | refine sC ?_ | refine sD ?_ | refine sE ?_ | refine sF ?_))
    first | refine ag (iG hR _ _ _) (fun _ h=>nomatch h) fun r11 nr11=>?_ | refine af (iG hR _ _ _) (fun _ h=>nomatch h) fun r11 nr11=>?_
    (with_reducible repeat (first | refine sA ?_ | refine sB ?_ | refine sC ?_ | refine sD ?_ | refine sE ?_ | refine sF ?_))
    first | refine ag (aG _ _) (fun _ h=>nomatch h) fun x b=>?_ | refine af (aG _ _) (fun _ h=>nomatch h) fun x b=>?_
    (with_reducible repeat (first | refine sA ?_ | refine sB ?_ | refine sC ?_ | refine sD ?_ | refine sE ?_ | refine sF ?_))
    exact ay (t:=tP) _ rfl (fun F hF=>hF _ (by repeat (first | exact mz | apply ms)))
   ·skip
    (with_reducible repeat (first | refine sA ?_ | refine sB ?_ | refine sC ?_ | refine sD ?_ | refine sE ?_ | refine sF ?_))
    first | refine ag (aA _ _) (fun _ h=>nomatch h) fun r13 b=>Sim.prop fun h=>?_ | refine af (aA _ _) (fun _ h=>nomatch h) fun r13 b=>Sim.prop fun h=>?_
    subst h
    (with_reducible repeat (first | refine sA ?_ | refine sB ?_ | refine sC ?_ | refine sD ?_ | refine sE ?_ | refine sF ?_))
    (first | refine qA (fun h=>?_) fun h=>?_ | refine qB (fun h=>?_) fun h=>?_ | refine qC (fun h=>?_) fun h=>?_ | refine qD (fun h=>?_) fun h=>?_ | refine qE (fun h=>?_) fun h=>?_) -- r13
    ·skip
     refine aN (b1:=.int .i64) _ (by repeat (first | exact mz | apply ms)) (by kernel_rfl) rfl rfl ?_
     (with_reducible repeat (first | refine sA ?_ | refine sB ?_ | refine sC ?_ | refine sD ?_ | refine sE ?_ | refine sF ?_))
     first | refine ag (iG hR _ _ _) (fun _ h=>nomatch h) fun r15 nr15=>?_ | refine af (iG hR _ _ _) (fun _ h=>nomatch h) fun r15 nr15=>?_
     (with_reducible repeat (first | refine sA ?_ | refine sB ?_ | refine sC ?_ | refine sD ?_ | refine sE ?_ | refine sF ?_))
     first | refine ag (aG _ _) (fun _ h=>nomatch h) fun x b=>?_ | refine af (aG _ _) (fun _ h=>nomatch h) fun x b=>?_
     (with_reducible repeat (first | refine sA ?_ | refine sB ?_ | refine sC ?_ | refine sD ?_ | refine sE ?_ | refine sF ?_))
     exact ay (t:=tP) _ rfl (fun F hF=>hF _ (by repeat (first | exact mz | apply ms)))
    ·skip
     (with_reducible repeat (first | refine sA ?_ | refine sB ?_ | refine sC ?_ | refine sD ?_ | refine sE ?_ | refine sF ?_))
     first | refine ag (aA _ _) (fun _ h=>nomatch h) fun r17 b=>Sim.prop fun h=>?_ | refine af (aA _ _) (fun _ h=>nomatch h) fun r17 b=>Sim.prop fun h=>?_
     subst h
     (with_reducible repeat (first | refine sA ?_ | refine sB ?_ | refine sC ?_ | refine sD ?_ | refine sE ?_ | refine sF ?_))
     (first | refine qA (fun h=>?_) fun h=>?_ | refine qB (fun h=>?_) fun h=>?_ | refine qC (fun h=>?_) fun h=>?_ | refine qD (fun h=>?_) fun h=>?_ | refine qE (fun h=>?_) fun h=>?_) -- r17
     ·skip
      refine aN (b1:=.int .i64) _ (by repeat (first | exact mz | apply ms)) (by kernel_rfl) rfl rfl ?_
      (with_reducible repeat (first | refine sA ?_ | refine sB ?_ | refine sC ?_ | refine sD ?_ | refine sE ?_ | refine sF ?_))
      first | refine ag (mU hR _ _ _) (fun _ h=>nomatch h) fun r19 nr19=>?_ | refine af (mU hR _ _ _) (fun _ h=>nomatch h) fun r19 nr19=>?_
      (with_reducible repeat (first | refine sA ?_ | refine sB ?_ | refine sC ?_ | refine sD ?_ | refine sE ?_ | refine sF ?_))
      exact ay (t:=tP) _ rfl (fun F hF=>hF _ (by repeat (first | exact mz | apply ms)))
     ·skip
      (with_reducible repeat (first | refine sA ?_ | refine sB ?_ | refine sC ?_ | refine sD ?_ | refine sE ?_ | refine sF ?_))
      first | refine ag (aA _ _) (fun _ h=>nomatch h) fun r20 b=>Sim.prop fun h=>?_ | refine af (aA _ _) (fun _ h=>nomatch h) fun r20 b=>Sim.prop fun h=>?_
      subst h
      (with_reducible repeat (first | refine sA ?_ | refine sB ?_ | refine sC ?_ | refine sD ?_ | refine sE ?_ | refine sF ?_))
      (first | refine qA (fun h=>?_) fun h=>?_ | refine qB (fun h=>?_) fun h=>?_ | refine qC (fun h=>?_) fun h=>?_ | refine qD (fun h=>?_) fun h=>?_ | refine qE (fun h=>?_) fun h=>?_) -- r20
      ·skip
       refine aN (b1:=.int .i64) _ (by repeat (first | exact mz | apply ms)) (by kernel_rfl) rfl rfl ?_
       (with_reducible repeat (first | refine sA ?_ | refine sB ?_ | refine sC ?_ | refine sD ?_ | refine sE ?_ | refine sF ?_))
       first | refine ag (Eb hR _ _) (fun _ h=>nomatch h) fun r22 nr22=>?_ | refine af (Eb hR _ _) (fun _ h=>nomatch h) fun r22 nr22=>?_
       (with_reducible repeat (first | refine sA ?_ | refine sB ?_ | refine sC ?_ | refine sD ?_ | refine sE ?_ | refine sF ?_))
       exact ay (t:=tP) _ rfl (fun F hF=>hF _ (by repeat (first | exact mz | apply ms)))
      ·skip
       (with_reducible repeat (first | refine sA ?_ | refine sB ?_ | refine sC ?_ | refine sD ?_ | refine sE ?_ | refine sF ?_))
       first | refine ag (cc _ _) (fun _ h=>nomatch h) fun r23 b=>Sim.prop fun h=>?_ | refine af (cc _ _) (fun _ h=>nomatch h) fun r23 b=>Sim.prop fun h=>?_
       subst h
       (with_reducible repeat (first | refine sA ?_ | refine sB ?_ | refine sC ?_ | refine sD ?_ | refine sE ?_ | refine sF ?_))
       (first | refine qA (fun h=>?_) fun h=>?_ | refine qB (fun h=>?_) fun h=>?_ | refine qC (fun h=>?_) fun h=>?_ | refine qD (fun h=>?_) fun h=>?_ | refine qE (fun h=>?_) fun h=>?_) -- r23
       ·skip
        refine aN (b1:=.int .i64) _ (by repeat (first | exact mz | apply ms)) (by kernel_rfl) rfl rfl ?_
        (with_reducible repeat (first | refine sA ?_ | refine sB ?_ | refine sC ?_ | refine sD ?_ | refine sE ?_ | refine sF ?_))
        first | refine ag (uP hR _ _ _) (fun _ h=>nomatch h) fun r25 nr25=>?_ | refine af (uP hR _ _ _) (fun _ h=>nomatch h) fun r25 nr25=>?_
        (with_reducible repeat (first | refine sA ?_ | refine sB ?_ | refine sC ?_ | refine sD ?_ | refine sE ?_ | refine sF ?_))
        exact ay (t:=tP) _ rfl (fun F hF=>hF _ (by repeat (first | exact mz | apply ms)))
       ·skip
        (with_reducible repeat (first | refine sA ?_ | refine sB ?_ | refine sC ?_ | refine sD ?_ | refine sE ?_ | refine sF ?_))
        first | refine ag (aA _ _) (fun _ h=>nomatch h) fun r26 b=>Sim.prop fun h=>?_ | refine af (aA _ _) (fun _ h=>nomatch h) fun r26 b=>Sim.prop fun h=>?_
        subst h
        (with_reducible repeat (first | refine sA ?_ | refine sB ?_ | refine sC ?_ | refine sD ?_ | refine sE ?_ | refine sF ?_))
        (first | refine qA (fun h=>?_) fun h=>?_ | refine qB (fun h=>?_) fun h=>?_ | refine qC (fun h=>?_) fun h=>?_ | refine qD (fun h=>?_) fun h=>?_ | refine qE (fun h=>?_) fun h=>?_) -- r26
        ·skip
         refine aN (b1:=.int .i64) _ (by repeat (first | exact mz | apply ms)) (by kernel_rfl) rfl rfl ?_
         (with_reducible repeat (first | refine sA ?_ | refine sB ?_ | refine sC ?_ | refine sD ?_ | refine sE ?_ | refine sF ?_))
         first | refine ag (tJ hR _ _) (fun _ h=>nomatch h) fun r28 nr28=>?_ | refine af (tJ hR _ _) (fun _ h=>nomatch h) fun r28 nr28=>?_
         (with_reducible repeat (first | refine sA ?_ | refine sB ?_ | refine sC ?_ | refine sD ?_ | refine sE ?_ | refine sF ?_))
         exact ay (t:=tP) _ rfl (fun F hF=>hF _ (by repeat (first | exact mz | apply ms)))
        ·skip
         (with_reducible repeat (first | refine sA ?_ | refine sB ?_ | refine sC ?_ | refine sD ?_ | refine sE ?_ | refine sF ?_))
         first | refine ag (aA _ _) (fun _ h=>nomatch h) fun r29 b=>Sim.prop fun h=>?_ | refine af (aA _ _) (fun _ h=>nomatch h) fun r29 b=>Sim.prop fun h=>?_
         subst h
         (with_reducible repeat (first | refine sA ?_ | refine sB ?_ | refine sC ?_ | refine sD ?_ | refine sE ?_ | refine sF ?_))
         (first | refine qA (fun h=>?_) fun h=>?_ | refine qB (fun h=>?_) fun h=>?_ | refine qC (fun h=>?_) fun h=>?_ | refine qD (fun h=>?_) fun h=>?_ | refine qE (fun h=>?_) fun h=>?_) -- r29
         ·skip
          (with_reducible repeat (first | refine sA ?_ | refine sB ?_ | refine sC ?_ | refine sD ?_ | refine sE ?_ | refine sF ?_))
          first | refine ag (bU _) (fun _ h=>nomatch h) fun r30 b=>Sim.prop fun h=>?_ | refine af (bU _) (fun _ h=>nomatch h) fun r30 b=>Sim.prop fun h=>?_
          subst h
          (with_reducible repeat (first | refine sA ?_ | refine sB ?_ | refine sC ?_ | refine sD ?_ | refine sE ?_ | refine sF ?_))
          first | refine ag (i6 hR _) (fun _ h=>nomatch h) fun r31 nr31=>?_ | refine af (i6 hR _) (fun _ h=>nomatch h) fun r31 nr31=>?_
          (with_reducible repeat (first | refine sA ?_ | refine sB ?_ | refine sC ?_ | refine sD ?_ | refine sE ?_ | refine sF ?_))
          first | refine ag (vZ hR _ _) (fun _ h=>nomatch h) fun r32 nr32=>?_ | refine af (vZ hR _ _) (fun _ h=>nomatch h) fun r32 nr32=>?_
          refine c8 [] (fun _ h=>nomatch h) ?_
          refine cL (b1:=.int .i64) _ (by repeat (first | exact mz | apply ms)) (by kernel_rfl) rfl rfl ?_
          (with_reducible repeat (first | refine sA ?_ | refine sB ?_ | refine sC ?_ | refine sD ?_ | refine sE ?_ | refine sF ?_))
          first | refine dT (kk hR _) (fun _ h=>nomatch h) fun r34 nr34=>?_ | refine im (kk hR _) (fun _ h=>nomatch h) fun r34 nr34=>?_
          refine eU [r31,r32,r34] [nr31,nr32,nr34] rfl (by decide) (by decide) (by kernel_rfl) (fun F hF=>(.cons _ _ _ _ (hF (NodeF nr31 r31) (by repeat (first | exact mz | apply ms))) (.cons _ _ _ _ (hF (NodeF nr32 r32) (by repeat (first | exact mz | apply ms))) (.cons _ _ _ _ (hF (NodeF nr34 r34) (by repeat (first | exact mz | apply ms))) .nil)))) (fun p hp=>by first | exact absurd hp List.not_mem_nil | (simp at hp; simp [hp])) fun r36=>?_
          (with_reducible repeat (first | refine sA ?_ | refine sB ?_ | refine sC ?_ | refine sD ?_ | refine sE ?_ | refine sF ?_))
          exact ay (t:=tP) _ rfl (fun F hF=>hF _ (by repeat (first | exact mz | apply ms)))
         ·skip
          (with_reducible repeat (first | refine sA ?_ | refine sB ?_ | refine sC ?_ | refine sD ?_ | refine sE ?_ | refine sF ?_))
          first | refine ag (aA _ _) (fun _ h=>nomatch h) fun r37 b=>Sim.prop fun h=>?_ | refine af (aA _ _) (fun _ h=>nomatch h) fun r37 b=>Sim.prop fun h=>?_
          subst h
          (with_reducible repeat (first | refine sA ?_ | refine sB ?_ | refine sC ?_ | refine sD ?_ | refine sE ?_ | refine sF ?_))
          (first | refine qA (fun h=>?_) fun h=>?_ | refine qB (fun h=>?_) fun h=>?_ | refine qC (fun h=>?_) fun h=>?_ | refine qD (fun h=>?_) fun h=>?_ | refine qE (fun h=>?_) fun h=>?_) -- r37
          ·skip
           (with_reducible repeat (first | refine sA ?_ | refine sB ?_ | refine sC ?_ | refine sD ?_ | refine sE ?_ | refine sF ?_))
           first | refine ag (bU _) (fun _ h=>nomatch h) fun r38 b=>Sim.prop fun h=>?_ | refine af (bU _) (fun _ h=>nomatch h) fun r38 b=>Sim.prop fun h=>?_
           subst h
           (with_reducible repeat (first | refine sA ?_ | refine sB ?_ | refine sC ?_ | refine sD ?_ | refine sE ?_ | refine sF ?_))
           first | refine ag (i6 hR _) (fun _ h=>nomatch h) fun r39 nr39=>?_ | refine af (i6 hR _) (fun _ h=>nomatch h) fun r39 nr39=>?_
           (with_reducible repeat (first | refine sA ?_ | refine sB ?_ | refine sC ?_ | refine sD ?_ | refine sE ?_ | refine sF ?_))
           first | refine ag (aG _ _) (fun _ h=>nomatch h) fun x b=>?_ | refine af (aG _ _) (fun _ h=>nomatch h) fun x b=>?_
           (with_reducible repeat (first | refine sA ?_ | refine sB ?_ | refine sC ?_ | refine sD ?_ | refine sE ?_ | refine sF ?_))
           first | refine ag (hR.typed _) (fun _ h=>nomatch h) fun r41 nr41=>?_ | refine af (hR.typed _) (fun _ h=>nomatch h) fun r41 nr41=>?_
           (with_reducible repeat (first | refine sA ?_ | refine sB ?_ | refine sC ?_ | refine sD ?_ | refine sE ?_ | refine sF ?_))
           first | refine ag (aG _ _) (fun _ h=>nomatch h) fun x b=>?_ | refine af (aG _ _) (fun _ h=>nomatch h) fun x b=>?_
           refine aN (b1:=.int .i64) _ (by repeat (first | exact mz | apply ms)) (by kernel_rfl) rfl rfl ?_
           refine bP [r39,r41] [nr39,nr41] rfl (by decide) (by decide) (by kernel_rfl) (fun F hF=>(.cons _ _ _ _ (hF (NodeF nr39 r39) (by repeat (first | exact mz | apply ms))) (.cons _ _ _ _ (hF (NodeF nr41 r41) (by repeat (first | exact mz | apply ms))) .nil))) fun r45=>?_
           (with_reducible repeat (first | refine sA ?_ | refine sB ?_ | refine sC ?_ | refine sD ?_ | refine sE ?_ | refine sF ?_))
           exact ay (t:=tP) _ rfl (fun F hF=>hF _ (by repeat (first | exact mz | apply ms)))
          ·skip
           (with_reducible repeat (first | refine sA ?_ | refine sB ?_ | refine sC ?_ | refine sD ?_ | refine sE ?_ | refine sF ?_))
           exact ay (t:=tP) none rfl (fun F _=>rfl)
set_option maxHeartbeats 2000000 in
theorem DK {R:aY} (hR:cm R) (pb:Nat):Meets PG (PI pb) (aa di #[.pointer (some (aL pb))]) tP (qc R) NodeF []:=by
 refine rf (aL pb) ?_
 unfold ic qc
 (with_reducible repeat (first | refine sA ?_ | refine sB ?_ | refine sC ?_ | refine sD ?_ | refine sE ?_ | refine sF ?_))
 first | refine ag (aZ _) (fun _ h=>nomatch h) fun r1 b=>Sim.prop fun h=>?_ | refine af (aZ _) (fun _ h=>nomatch h) fun r1 b=>Sim.prop fun h=>?_
 subst h
 refine gd (c:=true) (z:=[.int .i64 0,.string kE,.int .i64 0,.int .i64 0]) (by kernel_rfl) (by kernel_rfl) rfl (by simp [Value.cells,Value.oneCell']) fun br2=>?_
 refine aN (b1:=.int .i64) _ (by repeat (first | exact mz | apply ms)) (by kernel_rfl) rfl rfl ?_
 refine fB (ll R r1) ?_ ?_
 ·skip
  (with_reducible repeat (first | refine sA ?_ | refine sB ?_ | refine sC ?_ | refine sD ?_ | refine sE ?_ | refine sF ?_))
  (first | refine qA (fun h=>?_) fun h=>?_ | refine qB (fun h=>?_) fun h=>?_ | refine qC (fun h=>?_) fun h=>?_ | refine qD (fun h=>?_) fun h=>?_ | refine qE (fun h=>?_) fun h=>?_) -- ((r4:Int)==2)
  ·skip
   refine nS (bs:=d3) r1 (by repeat (first | exact mz | apply ms)) (by kernel_rfl) rfl rfl ?_
   refine ag (q4 hR _ _) (fun _ h=>nomatch h) fun r6 o6=>?_
   cases o6 with
   | none =>
    refine Sim.prop fun hp=>?_
    subst hp
    refine yM (by kernel_rfl) (qE (fun h=>by cases h) (fun h=>?_))
    exact gc rfl rfl
   | some n6 =>
    refine i9 (n:=n6) (x:=r6) (List.mem_cons_self ..) fun b6 sl6 h6=>?_
    refine yM (by kernel_rfl) (qE (fun h=>?_) (fun h=>by rw [h6] at h; cases h))
    exact ay (t:=tP) _ rfl (fun F hF=>hF (NodeF n6 r6) (List.mem_cons_of_mem _ (List.mem_cons_self ..)))
  ·skip
   exact gc rfl rfl
 ·unfold ll
  (with_reducible repeat (first | refine sA ?_ | refine sB ?_ | refine sC ?_ | refine sD ?_ | refine sE ?_ | refine sF ?_))
  first | refine ag (cc _ _) (fun _ h=>nomatch h) fun r9 b=>Sim.prop fun h=>?_ | refine af (cc _ _) (fun _ h=>nomatch h) fun r9 b=>Sim.prop fun h=>?_
  subst h
  (with_reducible repeat (first | refine sA ?_ | refine sB ?_ | refine sC ?_ | refine sD ?_ | refine sE ?_ | refine sF ?_))
  (first | refine qA (fun h=>?_) fun h=>?_ | refine qB (fun h=>?_) fun h=>?_ | refine qC (fun h=>?_) fun h=>?_ | refine qD (fun h=>?_) fun h=>?_ | refine qE (fun h=>?_) fun h=>?_) -- r9
  ·skip
   (with_reducible repeat (first | refine sA ?_ | refine sB ?_ | refine sC ?_ | refine sD ?_ | refine sE ?_ | refine sF ?_))
   first | refine ag (hR.block _) (fun _ h=>nomatch h) fun r10 nr10=>?_ | refine af (hR.block _) (fun _ h=>nomatch h) fun r10 nr10=>?_
   (with_reducible repeat (first | refine sA ?_ | refine sB ?_ | refine sC ?_ | refine sD ?_ | refine sE ?_ | refine sF ?_))
   exact ay (t:=tP) _ rfl (fun F hF=>hF _ (by repeat (first | exact mz | apply ms)))
  ·skip
   (with_reducible repeat (first | refine sA ?_ | refine sB ?_ | refine sC ?_ | refine sD ?_ | refine sE ?_ | refine sF ?_))
   first | refine ag (aA _ _) (fun _ h=>nomatch h) fun r11 b=>Sim.prop fun h=>?_ | refine af (aA _ _) (fun _ h=>nomatch h) fun r11 b=>Sim.prop fun h=>?_
   subst h
   (with_reducible repeat (first | refine sA ?_ | refine sB ?_ | refine sC ?_ | refine sD ?_ | refine sE ?_ | refine sF ?_))
   (first | refine qA (fun h=>?_) fun h=>?_ | refine qB (fun h=>?_) fun h=>?_ | refine qC (fun h=>?_) fun h=>?_ | refine qD (fun h=>?_) fun h=>?_ | refine qE (fun h=>?_) fun h=>?_) -- r11
   ·skip
    refine aN (b1:=.int .i64) _ (by repeat (first | exact mz | apply ms)) (by kernel_rfl) rfl rfl ?_
    refine fH fun r13=>?_
    (with_reducible repeat (first | refine sA ?_ | refine sB ?_ | refine sC ?_ | refine sD ?_ | refine sE ?_ | refine sF ?_))
    exact ay (t:=tP) _ rfl (fun F hF=>hF _ (by repeat (first | exact mz | apply ms)))
   ·skip
    (with_reducible repeat (first | refine sA ?_ | refine sB ?_ | refine sC ?_ | refine sD ?_ | refine sE ?_ | refine sF ?_))
    first | refine ag (cc _ _) (fun _ h=>nomatch h) fun r14 b=>Sim.prop fun h=>?_ | refine af (cc _ _) (fun _ h=>nomatch h) fun r14 b=>Sim.prop fun h=>?_
    subst h
    (with_reducible repeat (first | refine sA ?_ | refine sB ?_ | refine sC ?_ | refine sD ?_ | refine sE ?_ | refine sF ?_))
    (first | refine qA (fun h=>?_) fun h=>?_ | refine qB (fun h=>?_) fun h=>?_ | refine qC (fun h=>?_) fun h=>?_ | refine qD (fun h=>?_) fun h=>?_ | refine qE (fun h=>?_) fun h=>?_) -- r14
    ·skip
     (with_reducible repeat (first | refine sA ?_ | refine sB ?_ | refine sC ?_ | refine sD ?_ | refine sE ?_ | refine sF ?_))
     first | refine ag (ua hR _) (fun _ h=>nomatch h) fun r15 nr15=>?_ | refine af (ua hR _) (fun _ h=>nomatch h) fun r15 nr15=>?_
     (with_reducible repeat (first | refine sA ?_ | refine sB ?_ | refine sC ?_ | refine sD ?_ | refine sE ?_ | refine sF ?_))
     exact ay (t:=tP) _ rfl (fun F hF=>hF _ (by repeat (first | exact mz | apply ms)))
    ·skip
     (with_reducible repeat (first | refine sA ?_ | refine sB ?_ | refine sC ?_ | refine sD ?_ | refine sE ?_ | refine sF ?_))
     first | refine ag (aA _ _) (fun _ h=>nomatch h) fun r16 b=>Sim.prop fun h=>?_ | refine af (aA _ _) (fun _ h=>nomatch h) fun r16 b=>Sim.prop fun h=>?_
     subst h
     (with_reducible repeat (first | refine sA ?_ | refine sB ?_ | refine sC ?_ | refine sD ?_ | refine sE ?_ | refine sF ?_))
     (first | refine qA (fun h=>?_) fun h=>?_ | refine qB (fun h=>?_) fun h=>?_ | refine qC (fun h=>?_) fun h=>?_ | refine qD (fun h=>?_) fun h=>?_ | refine qE (fun h=>?_) fun h=>?_) -- r16
     ·skip
      (with_reducible repeat (first | refine sA ?_ | refine sB ?_ | refine sC ?_ | refine sD ?_ | refine sE ?_ | refine sF ?_))
      first | refine ag (sr hR _) (fun _ h=>nomatch h) fun r17 nr17=>?_ | refine af (sr hR _) (fun _ h=>nomatch h) fun r17 nr17=>?_
      refine c8 [] (fun _ h=>nomatch h) ?_
      refine cL (b1:=.int .i64) _ (by repeat (first | exact mz | apply ms)) (by kernel_rfl) rfl rfl ?_
      (with_reducible repeat (first | refine sA ?_ | refine sB ?_ | refine sC ?_ | refine sD ?_ | refine sE ?_ | refine sF ?_))
      first | refine dT (hR.block _) (fun _ h=>nomatch h) fun r19 nr19=>?_ | refine im (hR.block _) (fun _ h=>nomatch h) fun r19 nr19=>?_
      refine eU [r17,r19] [nr17,nr19] rfl (by decide) (by decide) (by kernel_rfl) (fun F hF=>(.cons _ _ _ _ (hF (NodeF nr17 r17) (by repeat (first | exact mz | apply ms))) (.cons _ _ _ _ (hF (NodeF nr19 r19) (by repeat (first | exact mz | apply ms))) .nil))) (fun p hp=>by first | exact absurd hp List.not_mem_nil | (simp at hp; simp [hp])) fun r21=>?_
      (with_reducible repeat (first | refine sA ?_ | refine sB ?_ | refine sC ?_ | refine sD ?_ | refine sE ?_ | refine sF ?_))
      exact ay (t:=tP) _ rfl (fun F hF=>hF _ (by repeat (first | exact mz | apply ms)))
     ·skip
      (with_reducible repeat (first | refine sA ?_ | refine sB ?_ | refine sC ?_ | refine sD ?_ | refine sE ?_ | refine sF ?_))
      first | refine ag (aA _ _) (fun _ h=>nomatch h) fun r22 b=>Sim.prop fun h=>?_ | refine af (aA _ _) (fun _ h=>nomatch h) fun r22 b=>Sim.prop fun h=>?_
      subst h
      (with_reducible repeat (first | refine sA ?_ | refine sB ?_ | refine sC ?_ | refine sD ?_ | refine sE ?_ | refine sF ?_))
      (first | refine qA (fun h=>?_) fun h=>?_ | refine qB (fun h=>?_) fun h=>?_ | refine qC (fun h=>?_) fun h=>?_ | refine qD (fun h=>?_) fun h=>?_ | refine qE (fun h=>?_) fun h=>?_) -- r22
      ·skip
       refine aN (b1:=.int .i64) _ (by repeat (first | exact mz | apply ms)) (by kernel_rfl) rfl rfl ?_
       (with_reducible repeat (first | refine sA ?_ | refine sB ?_ | refine sC ?_ | refine sD ?_ | refine sE ?_ | refine sF ?_))
       first | refine ag (Fy hR _ _) (fun _ h=>nomatch h) fun r24 nr24=>?_ | refine af (Fy hR _ _) (fun _ h=>nomatch h) fun r24 nr24=>?_
       (with_reducible repeat (first | refine sA ?_ | refine sB ?_ | refine sC ?_ | refine sD ?_ | refine sE ?_ | refine sF ?_))
       exact ay (t:=tP) _ rfl (fun F hF=>hF _ (by repeat (first | exact mz | apply ms)))
      ·skip
       (with_reducible repeat (first | refine sA ?_ | refine sB ?_ | refine sC ?_ | refine sD ?_ | refine sE ?_ | refine sF ?_))
       first | refine ag (aA _ _) (fun _ h=>nomatch h) fun r25 b=>Sim.prop fun h=>?_ | refine af (aA _ _) (fun _ h=>nomatch h) fun r25 b=>Sim.prop fun h=>?_
       subst h
       (with_reducible repeat (first | refine sA ?_ | refine sB ?_ | refine sC ?_ | refine sD ?_ | refine sE ?_ | refine sF ?_))
       (first | refine qA (fun h=>?_) fun h=>?_ | refine qB (fun h=>?_) fun h=>?_ | refine qC (fun h=>?_) fun h=>?_ | refine qD (fun h=>?_) fun h=>?_ | refine qE (fun h=>?_) fun h=>?_) -- r25
       ·skip
        refine aN (b1:=.int .i64) _ (by repeat (first | exact mz | apply ms)) (by kernel_rfl) rfl rfl ?_
        (with_reducible repeat (first | refine sA ?_ | refine sB ?_ | refine sC ?_ | refine sD ?_ | refine sE ?_ | refine sF ?_))
        first | refine ag (m1 hR _ _ _ _) (fun _ h=>nomatch h) fun r27 nr27=>?_ | refine af (m1 hR _ _ _ _) (fun _ h=>nomatch h) fun r27 nr27=>?_
        (with_reducible repeat (first | refine sA ?_ | refine sB ?_ | refine sC ?_ | refine sD ?_ | refine sE ?_ | refine sF ?_))
        exact ay (t:=tP) _ rfl (fun F hF=>hF _ (by repeat (first | exact mz | apply ms)))
       ·skip
        (with_reducible repeat (first | refine sA ?_ | refine sB ?_ | refine sC ?_ | refine sD ?_ | refine sE ?_ | refine sF ?_))
        first | refine ag (aA _ _) (fun _ h=>nomatch h) fun r28 b=>Sim.prop fun h=>?_ | refine af (aA _ _) (fun _ h=>nomatch h) fun r28 b=>Sim.prop fun h=>?_
        subst h
        (with_reducible repeat (first | refine sA ?_ | refine sB ?_ | refine sC ?_ | refine sD ?_ | refine sE ?_ | refine sF ?_))
        (first | refine qA (fun h=>?_) fun h=>?_ | refine qB (fun h=>?_) fun h=>?_ | refine qC (fun h=>?_) fun h=>?_ | refine qD (fun h=>?_) fun h=>?_ | refine qE (fun h=>?_) fun h=>?_) -- r28
        ·skip
         refine aN (b1:=.int .i64) _ (by repeat (first | exact mz | apply ms)) (by kernel_rfl) rfl rfl ?_
         (with_reducible repeat (first | refine sA ?_ | refine sB ?_ | refine sC ?_ | refine sD ?_ | refine sE ?_ | refine sF ?_))
         first | refine ag (m1 hR _ _ _ _) (fun _ h=>nomatch h) fun r30 nr30=>?_ | refine af (m1 hR _ _ _ _) (fun _ h=>nomatch h) fun r30 nr30=>?_
         (with_reducible repeat (first | refine sA ?_ | refine sB ?_ | refine sC ?_ | refine sD ?_ | refine sE ?_ | refine sF ?_))
         exact ay (t:=tP) _ rfl (fun F hF=>hF _ (by repeat (first | exact mz | apply ms)))
        ·skip
         (with_reducible repeat (first | refine sA ?_ | refine sB ?_ | refine sC ?_ | refine sD ?_ | refine sE ?_ | refine sF ?_))
         first | refine ag (aA _ _) (fun _ h=>nomatch h) fun r31 b=>Sim.prop fun h=>?_ | refine af (aA _ _) (fun _ h=>nomatch h) fun r31 b=>Sim.prop fun h=>?_
         subst h
         (with_reducible repeat (first | refine sA ?_ | refine sB ?_ | refine sC ?_ | refine sD ?_ | refine sE ?_ | refine sF ?_))
         (first | refine qA (fun h=>?_) fun h=>?_ | refine qB (fun h=>?_) fun h=>?_ | refine qC (fun h=>?_) fun h=>?_ | refine qD (fun h=>?_) fun h=>?_ | refine qE (fun h=>?_) fun h=>?_) -- r31
         ·skip
          (with_reducible repeat (first | refine sA ?_ | refine sB ?_ | refine sC ?_ | refine sD ?_ | refine sE ?_ | refine sF ?_))
          first | refine ag (aG _ _) (fun _ h=>nomatch h) fun x b=>?_ | refine af (aG _ _) (fun _ h=>nomatch h) fun x b=>?_
          refine aN (b1:=.int .i64) _ (by repeat (first | exact mz | apply ms)) (by kernel_rfl) rfl rfl ?_
          refine fH fun r34=>?_
          (with_reducible repeat (first | refine sA ?_ | refine sB ?_ | refine sC ?_ | refine sD ?_ | refine sE ?_ | refine sF ?_))
          exact ay (t:=tP) _ rfl (fun F hF=>hF _ (by repeat (first | exact mz | apply ms)))
         ·skip
          (with_reducible repeat (first | refine sA ?_ | refine sB ?_ | refine sC ?_ | refine sD ?_ | refine sE ?_ | refine sF ?_))
          first | refine ag (aA _ _) (fun _ h=>nomatch h) fun r35 b=>Sim.prop fun h=>?_ | refine af (aA _ _) (fun _ h=>nomatch h) fun r35 b=>Sim.prop fun h=>?_
          subst h
          (with_reducible repeat (first | refine sA ?_ | refine sB ?_ | refine sC ?_ | refine sD ?_ | refine sE ?_ | refine sF ?_))
          (first | refine qA (fun h=>?_) fun h=>?_ | refine qB (fun h=>?_) fun h=>?_ | refine qC (fun h=>?_) fun h=>?_ | refine qD (fun h=>?_) fun h=>?_ | refine qE (fun h=>?_) fun h=>?_) -- r35
          ·skip
           (with_reducible repeat (first | refine sA ?_ | refine sB ?_ | refine sC ?_ | refine sD ?_ | refine sE ?_ | refine sF ?_))
           first | refine ag (aG _ _) (fun _ h=>nomatch h) fun x b=>?_ | refine af (aG _ _) (fun _ h=>nomatch h) fun x b=>?_
           refine aN (b1:=.int .i64) _ (by repeat (first | exact mz | apply ms)) (by kernel_rfl) rfl rfl ?_
           refine fH fun r38=>?_
           (with_reducible repeat (first | refine sA ?_ | refine sB ?_ | refine sC ?_ | refine sD ?_ | refine sE ?_ | refine sF ?_))
           exact ay (t:=tP) _ rfl (fun F hF=>hF _ (by repeat (first | exact mz | apply ms)))
          ·skip
           (with_reducible repeat (first | refine sA ?_ | refine sB ?_ | refine sC ?_ | refine sD ?_ | refine sE ?_ | refine sF ?_))
           first | refine ag (aA _ _) (fun _ h=>nomatch h) fun r39 b=>Sim.prop fun h=>?_ | refine af (aA _ _) (fun _ h=>nomatch h) fun r39 b=>Sim.prop fun h=>?_
           subst h
           (with_reducible repeat (first | refine sA ?_ | refine sB ?_ | refine sC ?_ | refine sD ?_ | refine sE ?_ | refine sF ?_))
           (first | refine qA (fun h=>?_) fun h=>?_ | refine qB (fun h=>?_) fun h=>?_ | refine qC (fun h=>?_) fun h=>?_ | refine qD (fun h=>?_) fun h=>?_ | refine qE (fun h=>?_) fun h=>?_) -- r39
           ·skip
            refine aN (b1:=.int .i64) _ (by repeat (first | exact mz | apply ms)) (by kernel_rfl) rfl rfl ?_
            (with_reducible repeat (first | refine sA ?_ | refine sB ?_ | refine sC ?_ | refine sD ?_ | refine sE ?_ | refine sF ?_))
            first | refine ag (HW hR _ _) (fun _ h=>nomatch h) fun r41 nr41=>?_ | refine af (HW hR _ _) (fun _ h=>nomatch h) fun r41 nr41=>?_
            (with_reducible repeat (first | refine sA ?_ | refine sB ?_ | refine sC ?_ | refine sD ?_ | refine sE ?_ | refine sF ?_))
            exact ay (t:=tP) _ rfl (fun F hF=>hF _ (by repeat (first | exact mz | apply ms)))
           ·skip
            refine aN (b1:=.int .i64) _ (by repeat (first | exact mz | apply ms)) (by kernel_rfl) rfl rfl ?_
            (with_reducible repeat (first | refine sA ?_ | refine sB ?_ | refine sC ?_ | refine sD ?_ | refine sE ?_ | refine sF ?_))
            first | refine ag (m1 hR _ _ _ _) (fun _ h=>nomatch h) fun r43 nr43=>?_ | refine af (m1 hR _ _ _ _) (fun _ h=>nomatch h) fun r43 nr43=>?_
            (with_reducible repeat (first | refine sA ?_ | refine sB ?_ | refine sC ?_ | refine sD ?_ | refine sE ?_ | refine sF ?_))
            exact ay (t:=tP) _ rfl (fun F hF=>hF _ (by repeat (first | exact mz | apply ms)))
end Go.Proofs.YtjlgcpgjdgeejaaGreatDoor
end

section
namespace Go.Proofs.YtjlgcpgjdgeejaaGreatDoor
open Go
set_option maxRecDepth 100000
theorem gh {β:Type} {t:Ty} {Rel:β→t.den→Fact} {s0:Sem Next} {I:av Int PSt}:Meets PG I s0 t (Sp.stop:PM β) Rel []:=fun r w F H st res hs=>by cases hs
theorem HD (hnum:E4):∀ n,n≤549755813888→cm (gx n):=by
 intro n
 induction n with
 | zero=>exact fun _=>⟨Nat.zero_le _,hnum,fun _=>gh,fun _=>gh,fun _=>gh,fun _=>gh,fun _=>gh,fun _=>gh,fun _ _=>gh⟩
 | succ n ih =>
  intro h
  have hR:=ih (by omega)
  have hf:(gx (n+1)).fuel=n+1:=by
   have:∀ n,(gx n).fuel=n:=fun n=>by induction n with
    | zero=>rfl
    | succ n ih=>show (gx n).fuel+1=n+1; rw [ih]
   exact this _
  exact ⟨by rw [hf]; exact h,hnum,fun pb=>Jl hR pb,fun pb=>IN hR pb,fun pb=>ID hR pb,fun pb=>El hR pb,fun pb=>ua hR pb,fun pb=>DK hR pb,fun pb t=>q4 hR pb t⟩
end Go.Proofs.YtjlgcpgjdgeejaaGreatDoor
end

section
namespace Go.Proofs.YtjlgcpgjdgeejaaGreatDoor
open Go
set_option linter.unusedSimpArgs false
set_option linter.unusedVariables false
set_option linter.constructorNameAsVariable false
theorem Buf.open {e:TypeId} {size:Nat} {x:aI} {xs:List Value} {K:al} (h:Buf e size x xs K) (hp:0 < x.2.1) :
  ∃ g cells,K=[(g,aq e cells)]∧x.1=some ⟨g,0,none⟩∧xs.length=x.2.1 * size∧x.2.1≤x.2.2∧x.2.2≤maxLen∧cells.length=x.2.2 * size∧cells.take (x.2.1 * size)=xs:=by
 rcases h with ⟨_,rfl,_⟩ | h
 ·simp at hp
 ·exact h
theorem Buf.take {e:TypeId} {size m:Nat} {x:aI} {xs:List Value} {K:al} (h:Buf e size x xs K) (hm:m≤x.2.1):Buf e size (x.1,m,x.2.2) (xs.take (m * size)) K:=by
 rcases h with ⟨rfl,rfl,rfl⟩ | ⟨g,cells,h1,h2,h3,h4,h5,h6,h7⟩
 ·have:m=0:=by simpa using hm
  subst this
  exact .inl ⟨rfl,rfl,by simp⟩
 ·refine .inr ⟨g,cells,h1,h2,?_,Nat.le_trans hm h4,h5,h6,?_⟩
  ·have:=Nat.mul_le_mul_right size hm
   simp only [List.length_take,h3]; omega
  ·show cells.take (m * size)=_
   have:=Nat.mul_le_mul_right size hm
   rw [← h7,List.take_take,Nat.min_eq_left this]
theorem Buf.row {e:TypeId} {size i:Nat} {x:aI} {cells xs:List Value} (h7:cells.take (x.2.1 * size)=xs) (hi:i < x.2.1):(cells.drop (i * size)).take size=(xs.drop (i * size)).take size:=by
 rw [← h7,List.drop_take,List.take_take]
 congr 1
 have:i * size+size≤x.2.1 * size:=by rw [← Nat.succ_mul]; exact Nat.mul_le_mul_right _ hi
 omega
theorem vX (l:List Value) (o:Nat) (vs:List Value) (h:o+vs.length≤l.length):(bB l o vs).length=l.length:=by
 simp [bB]; omega
theorem Dp (l:List Value) (o n:Nat) (vs:List Value) (h:o+vs.length≤n) (hn:n≤l.length):(bB l o vs).take n=bB (l.take n) o vs:=by
 unfold bB
 rw [List.take_append,List.take_append,List.take_of_length_le (l:=l.take o) (by simp; omega),List.take_of_length_le (l:=vs) (by simp; omega),List.take_take,Nat.min_eq_left (by omega),List.drop_take]
 congr 1
 congr 1
 simp; omega
theorem Buf.set {e:TypeId} {size o:Nat} {x:aI} {xs vs cells:List Value} {g:Nat} (h2:x.1=some ⟨g,0,none⟩) (h3:xs.length=x.2.1 * size) (h4:x.2.1≤x.2.2) (h5:x.2.2≤maxLen) (h6:cells.length=x.2.2 * size) (h7:cells.take (x.2.1 * size)=xs)
  (ho:o+vs.length≤x.2.1 * size):Buf e size x (bB xs o vs) [(g,aq e (bB cells o vs))]:=by
 have hle:x.2.1 * size≤cells.length:=by rw [h6]; exact Nat.mul_le_mul_right _ h4
 refine .inr ⟨g,_,rfl,h2,?_,h4,h5,?_,?_⟩
 ·rw [vX _ _ _ (by omega),h3]
 ·rw [vX _ _ _ (by omega),h6]
 ·rw [Dp _ _ _ _ ho hle,h7]
theorem uH {P:Program} {t:TypeId} {a:Option Addr} {len cap:Nat} {k:IntKind} {h:Int} {w:World} (hu:P.underlying t=some (.slice (P.elem t))) (hs:∃ i,P.info? (P.elem t)=some i) (ha:∀ b,a=some b→b.spot=none) (h0:0≤h) (h2:h≤cap) :
  (d8 t (.slice a len cap) none (some (.int k h)) none).run P w=.ok (.value (.slice a h.toNat cap)) w:=by
 obtain ⟨i,hi⟩:=hs
 have:(Instr.sliceAt t (.slice a len cap) none (some (.int k h)) none).run P w=.ok (.slice a h.toNat cap) w:=by
  rw [run_sliceAt_slice w t _ _ _ _ hu,run_slice_h w t a len cap hu k h h0 h2]
  simp only [sizeOf,typeInfo,Sem.run_bind,run_program,Result.andThen_ok,hi,Sem.run_pure,sliced,Nat.sub_zero]
  congr 2
  split
  ·rfl
  ·cases a with
   | none=>rfl
   | some b =>
    obtain ⟨bb,bo,bs⟩:=b
    have:bs=none:=ha _ rfl
    subst this
    simp [Addr.add]
 simp [d8,cj,this]
end Go.Proofs.YtjlgcpgjdgeejaaGreatDoor
end

section
namespace Go.Proofs.YtjlgcpgjdgeejaaGreatDoor
open Go
set_option linter.unusedSimpArgs false
set_option linter.unusedVariables false
set_option linter.constructorNameAsVariable false
set_option maxRecDepth 100000
structure FN where
 kind:Int
 text:ByteArray
 num:Int
 pos:Int
 kids:List Int
structure E where
 f:FN
 ks:aI
 K:al
def dJ (e:E):List Value:=[.int .i64 e.f.kind,.string e.f.text,.int .i64 e.f.num,.slice e.ks.1 e.ks.2.1 e.ks.2.2,.int .i64 e.f.pos]
theorem d7 (e:E):(dJ e).length=5:=rfl
def LT (e:E):Prop:=Buf ak 1 e.ks (e.f.kids.map (Value.int .i64)) e.K
def ik (es:List E):al:=es.flatMap (·.K)
def TreeP (es:List E) (x:aI) (K:al):Prop:=∃ K0,K=K0++ik es∧Buf bz 5 x (rows dJ es) K0∧∀ e∈es,LT e
mutual
def N.size:N→Nat
 | .mk _ _ _ _ l=>1+N.sizes l
def N.sizes:List N→Nat
 | []=>0
 | n::l=>n.size+N.sizes l
end
theorem fT:∀ (a b:List N),N.sizes (a++b)=N.sizes a+N.sizes b
 | [],b=>by simp [N.sizes]
 | n::a,b=>by simp only [List.cons_append,N.sizes,fT a b]; omega
theorem N.size_eq (n:N):n.size=1+N.sizes n.kids:=by cases n; simp [N.size,N.kids]
theorem qW:∀ (a:List N),N.sizes a.reverse=N.sizes a
 | []=>rfl
 | n::a=>by simp only [List.reverse_cons,fT,qW a,N.sizes]; omega
theorem qL:∀ (l:List N),l.length≤N.sizes l
 | []=>by simp [N.sizes]
 | n::l=>by have:=qL l; have:=N.size_eq n; simp only [List.length_cons,N.sizes]; omega
def g8 (ns:List FN) (p:Int) (i:Nat):List FN:=if 0≤p then ns.modify p.toNat (fun f=>{ f with kids:=f.kids++[(i:Int)] }) else ns
def f5:Nat→List (N × Int)→List FN→List FN
 | 0,_,ns=>ns
 | _+1,[],ns=>ns
 | k+1,(n,p)::rest,ns=>f5 k (n.kids.map (fun c=>(c,(ns.length:Int)))++rest) (g8 (ns++[⟨n.kind,n.text,n.num,n.pos,[]⟩]) p ns.length)
theorem Fh (k:Nat) (ns:List FN):f5 k [] ns=ns:=by cases k<;>rfl
theorem qf (ns:List FN) (p:Int) (i:Nat):(g8 ns p i).length=ns.length:=by unfold g8; split<;>simp
def qh (p:Option Addr × Int):List Value:=[.pointer p.1,.int .i64 p.2]
theorem lB (p:Option Addr × Int):(qh p).length=2:=rfl
theorem kr {L:al} {Γ:List Fact} {t e:TypeId} {size:Nat} {v z:Value} (row:List Value) (ht:kI PG t=some (e,size)) (hz:(PG.info? e).bind (·.zero)=some z) (h0:0 < size) (h1:size≤1000)
  (hf:Instr.fill (fun i=>some (i * size,size)) ((Array.range (1 * size)).map (z.cells[· % z.cells.size]!)) [(0,v)]=some row.toArray) :
  Loc PG (ar t 1 #[(0,v)]) ah L Γ fun y L' Γ'=>∃ b,y=(some ⟨b,0,none⟩,1,1)∧L'=L∧Γ'=Fact.at b (aq e row)::Γ :=
 Loc.val fun r w F H hF hsp=>⟨(some ⟨w.heap.size,0,none⟩,1,1),w.alloc (aq e row),L,_,F.ins w.heap.size (aq e row),.inl (by
   have:=gm (P:=PG) (w:=w) (t:=t) (e:=e) (n:=1) (size:=size) (ps:=#[(0,v)]) (cells:=row.toArray) (zero:=z) ht (by omega) hz hf (by omega)
   have h2:(ar t 1 #[(0,v)]).run PG w=.ok (.value (.slice (some ⟨w.heap.size,0,none⟩) 1 1)) (w.alloc (aq e row)):=by simpa using this
   exact h2),hsp.new_le _,
  Holds.cons (by simp [Fact.at,Heap.ins]) (hF.mono (hsp.new_le _)),hsp.newF _,w.heap.size,rfl,rfl,rfl⟩
theorem fF {α:Type} (f:α→List Value) (l:List α) (x:α):rows f (l++[x])=rows f l++f x:=by rw [lq]; simp [rows]
theorem Hu (es:List E) (e:E):ik (es++[e])=ik es++e.K:=by simp [ik]
theorem NodesAt.split {F:Heap} {p:Option Addr} {n:N}:∀ {ps:List (Option Addr)} {ns:List N},NodesAt F (ps++[p]) (ns++[n])→NodesAt F ps ns∧NodeAt F p n
 | [],[],h=>by cases h with | cons _ _ _ _ h1 h2=>exact ⟨.nil,h1⟩
 | [],m::ns,h=>by
  cases h with | cons _ _ _ _ h1 h2=>have:=NodesAt.length h2; simp at this
 | q::ps,[],h=>by
  cases h with | cons _ _ _ _ h1 h2=>have:=NodesAt.length h2; simp at this
 | q::ps,m::ns,h=>by
  cases h with
  | cons _ _ _ _ h1 h2 =>
   obtain ⟨g1,g2⟩:=NodesAt.split h2
   exact ⟨.cons _ _ _ _ h1 g1,g2⟩
theorem NodesAt.get {F:Heap}:∀ {ps:List (Option Addr)} {ns:List N},NodesAt F ps ns→∀ i (h:i < ns.length),∃ p,ps[i]? = some p∧NodeAt F p ns[i]
 | _,_,.nil,i,h=>by simp at h
 | _,_,.cons p n ps ns h1 h2,0,h=>⟨p,rfl,h1⟩
 | _,_,.cons p n ps ns h1 h2,i+1,h=>by
  obtain ⟨q,g1,g2⟩:=NodesAt.get h2 i (by simpa using h)
  exact ⟨q,by simpa using g1,by simpa using g2⟩
theorem tM {α:Type} (l:List α):l=[]∨∃ l' b,l=l'++[b]:=by
 rcases List.eq_nil_or_concat l with h | ⟨l',b,h⟩
 ·exact .inl h
 ·exact .inr ⟨l',b,by rw [h,List.concat_eq_append]⟩
section
variable {ε σ β:Type} {I:av ε σ} {t:Ty} {Rel:β→t.den→al→Fact} {Δ:Labels ε σ β} {q:Option Quiet} {L:al} {Γ:List Fact} {s:Sp ε σ β}
theorem y7 (g n:Nat):(⟨g,0,none⟩:Addr).add n=⟨g,n,none⟩:=by unfold Addr.add; simp; intro h; omega
theorem Hz {T1:TypeId} {n g:Nat} {x:aI} {i:Int} {k:Addr→T} (j:Nat) (ha:x.1=some ⟨g,0,none⟩) (ht:nv PG T1=some n) (hi:i=j) (hj:j < x.2.1) (hk:Sim PG I t Rel Δ none (k ⟨g,j * n,none⟩) s L Γ) :
  Sim PG I t Rel Δ q (.op (aR T1 (.slice x.1 x.2.1 x.2.2) (.int .i64 i)) tA k) s L Γ:=by
 refine aQ (t1:=tA) (post:=fun y L' Γ'=>y=⟨g,j * n,none⟩∧L'=L∧Γ'=Γ) ?_ ?_
 ·refine Loc.val fun r w F H hF hsp=>⟨_,w,_,_,F,.inl ?_,Heap.le.refl F,hF,hsp,rfl,rfl,rfl⟩
  rw [hi,ha,fM ht (by omega) (by omega),y7]; rfl
 ·rintro _ _ _ ⟨rfl,rfl,rfl⟩; exact hk
theorem GY {T1 T0:TypeId} {a:Addr} {bs:List B} {l:List Value} {k:HB bs→T} (x:HB bs) (hr:(a.block,aq T0 l)∈L) (hs:ci PG T1=some (true,(HB.enc bs x).length)) (ha:a.spot=none) (hv:(l.drop a.off).take (HB.enc bs x).length=HB.enc bs x)
  (hk:Sim PG I t Rel Δ none (k x) s L Γ):Sim PG I t Rel Δ q (.op (ai T1 (.pointer (some a))) (.c (.agg bs)) k) s L Γ:=by
 refine aQ (ft x (Rd.own hr) hs ha hv) ?_
 rintro _ _ _ ⟨rfl,rfl,rfl⟩
 exact hk
theorem Hm {T1 T0:TypeId} {a:Addr} {b1:B} {l:List Value} {k:b1.den→T} (x:b1.den) (hr:(a.block,aq T0 l)∈L) (hs:dc PG T1=some true) (ha:a.spot=none) (hv:l[a.off]? = some (b1.enc x))
  (hk:Sim PG I t Rel Δ none (k x) s L Γ):Sim PG I t Rel Δ q (.op (ai T1 (.pointer (some a))) (.c (.b b1)) k) s L Γ:=by
 refine aQ (cN x (Rd.own hr) hs ha hv) ?_
 rintro _ _ _ ⟨rfl,rfl,rfl⟩
 exact hk
theorem Hp {T1:TypeId} {x:aI} {h:Int} {k:aI→T} (m:Nat) (hu:PG.underlying T1=some (.slice (PG.elem T1))) (hi:((PG.info? (PG.elem T1)).isSome)=true) (ha:∀ b,x.1=some b→b.spot=none) (hm:h=m) (hc:m≤x.2.2) (hk:Sim PG I t Rel Δ none (k (x.1,m,x.2.2)) s L Γ) :
  Sim PG I t Rel Δ q (.op (d8 T1 (.slice x.1 x.2.1 x.2.2) none (some (.int .i64 h)) none) ah k) s L Γ:=by
 refine aQ (t1:=ah) (post:=fun y L' Γ'=>y=(x.1,m,x.2.2)∧L'=L∧Γ'=Γ) ?_ ?_
 ·refine Loc.val fun r w F H hF hsp=>⟨_,w,_,_,F,.inl ?_,Heap.le.refl F,hF,hsp,rfl,rfl,rfl⟩
  rw [hm,uH hu (Option.isSome_iff_exists.1 hi) ha (by omega) (by omega)]; rfl
 ·rintro _ _ _ ⟨rfl,rfl,rfl⟩; exact hk
end
theorem EU (a b c vs:List Value) (o:Nat) (h:o+vs.length≤b.length):bB (a++(b++c)) (a.length+o) vs=a++(bB b o vs++c):=by
 unfold bB
 have e1:(a++(b++c)).take (a.length+o)=a++b.take o:=by
  rw [List.take_append,List.take_of_length_le (by omega),List.take_append,Nat.add_sub_cancel_left]
  have:o - b.length=0:=by omega
  rw [this]; simp
 have e2:(a++(b++c)).drop (a.length+o+vs.length)=b.drop (o+vs.length)++c:=by
  rw [List.drop_append,List.drop_eq_nil_of_le (by omega),List.nil_append,List.drop_append]
  have e3:a.length+o+vs.length - a.length=o+vs.length:=by omega
  have e4:o+vs.length - b.length=0:=by omega
  rw [e3,e4]; simp
 rw [e1,e2]; simp [List.append_assoc]
theorem EI {α:Type} (l1 l2:List α) (y:α) (g:α→α):(l1++y::l2).modify l1.length g=l1++g y::l2:=by
 induction l1 with
 | nil=>rfl
 | cons x l1 ih=>simp only [List.cons_append,List.length_cons,List.modify_succ_cons,ih]
theorem D4 (K S:al) (x:Nat × Obj) (A1 A2 B:al):(K++(S++(x::(A1++(A2++B))))).Perm (S++((x::(A1++(K++A2)))++B)):=by
 have sw:∀ (a b c:al),(a++(b++c)).Perm (b++(a++c)):=fun a b c=>by
  have h:=(List.perm_append_comm (l₁:=a) (l₂:=b)).append_right c
  simpa [List.append_assoc] using h
 have h1:=sw K S (x::(A1++(A2++B)))
 refine h1.trans (List.Perm.append_left S ?_)
 refine List.perm_middle.trans ?_
 rw [List.cons_append]
 refine List.Perm.cons x ?_
 have h2:=sw K A1 (A2++B)
 simpa [List.append_assoc] using h2
def dy (r1 r2:Nat) (x:aI):al:=[(r2,aq ap [.slice x.1 x.2.1 x.2.2]),(r1,aq ap [.slice none 0 0])]
theorem EB {ε σ β:Type} {I:av ε σ} {t:Ty} {Rel:β→t.den→al→Fact} {Δ:Labels ε σ β} {q:Option Quiet} {Γ:List Fact} {s:Sp ε σ β} {Kst KT:al} {r1 r2 b7:Nat} {x:aI} {es:List E} {pp:Int} {qv:Value} {k:T} (c:Nat) (hT:TreeP es x KT) (j:Nat)
  (hj:j < es.length) (hpp:pp=j) (h7:Fact.at b7 (aq bD [qv,.int .i64 pp])∈Γ) (hb:∀ e∈es,e.f.kids.length≤1099511627776)
  (hk:∀ es' KT',TreeP es' x KT'→es'.map (·.f)=g8 (es.map (·.f)) pp c→Sim PG I t Rel Δ none k s (Kst++(KT'++dy r1 r2 x)) Γ) :
  Sim PG I t Rel Δ q (.draw<|.opq (ai aw (.pointer (some ⟨r2,0,none⟩))) ah fun r19=>.opq (ai ak (.pointer (some ⟨b7,0+1,none⟩))) tI fun r20=>.opq (ai aw (.pointer (some ⟨r2,0,none⟩))) ah fun r21=>.opq (ai ak (.pointer (some ⟨b7,0+1,none⟩))) tI fun r22 =>
   .opq (aR aw (.slice r21.1 r21.2.1 r21.2.2) (.int .i64 r22)) tA fun r23=>.opq (ai aM (.pointer (some ⟨r23.block,r23.off+3,none⟩))) ah fun r24=>.opl (ar aM 1 #[(0,.int .i64 (c:Int))]) ah fun r25 =>
   .opl (dg #[aM,aM] aM #[.slice r24.1 r24.2.1 r24.2.2,.slice r25.1 r25.2.1 r25.2.2]) ah fun r26=>.opq (aR aw (.slice r19.1 r19.2.1 r19.2.2) (.int .i64 r20)) tA fun r27=>.op (aW aM (.pointer (some ⟨r27.block,r27.off+3,none⟩)) (.slice r26.1 r26.2.1 r26.2.2)) tU fun _=>k) s
   (Kst++(KT++dy r1 r2 x)) Γ:=by
 obtain ⟨K0,rfl,hB,hE⟩:=hT
 have hlen:x.2.1=es.length:=by have h1:=hB.len; rw [ce d7] at h1; omega
 obtain ⟨g,cells,rfl,ha,g3,g4,g5,g6,g7⟩:=hB.open (by omega)
 obtain ⟨E1,e,E2,rfl,hE1⟩:∃ E1 e E2,es=E1++e::E2∧E1.length=j:=⟨es.take j,es[j],es.drop (j+1),by rw [← List.drop_eq_getElem_cons hj,List.take_append_drop],by simp; omega⟩
 have heok:=hE e (by simp)
 have hrow:=Buf.row (e:=bz) (i:=j) g7 (by omega)
 have hrow2:((rows dJ (E1++e::E2)).drop (j * 5)).take 5=dJ e:=m9 d7 (E1++e::E2) j e (by rw [← hE1]; simp)
 have hcell:cells[j * 5+3]? = some (.slice e.ks.1 e.ks.2.1 e.ks.2.2):=by
  have h1:((cells.drop (j * 5)).take 5)[3]? = some (.slice e.ks.1 e.ks.2.1 e.ks.2.2):=by rw [hrow,hrow2]; rfl
  rw [List.getElem?_take,if_pos (by decide),List.getElem?_drop] at h1
  exact h1
 subst hpp
 refine c8 [(r2,aq ap [.slice x.1 x.2.1 x.2.2]),(g,aq bz cells)] (fun p hp=>by simp [dy] at hp ⊢; rcases hp with rfl | rfl<;>simp) ?_
 refine cX (t1:=ah) x (bR (QRd.own (List.mem_cons_self ..)) (by kernel_rfl) rfl rfl) ?_
 refine cL (b1:=.int .i64) (j:Int) h7 (by kernel_rfl) rfl rfl ?_
 refine cX (t1:=ah) x (bR (QRd.own (List.mem_cons_self ..)) (by kernel_rfl) rfl rfl) ?_
 refine cL (b1:=.int .i64) (j:Int) h7 (by kernel_rfl) rfl rfl ?_
 have hidx:∀ q,mi PG q (aR aw (.slice x.1 x.2.1 x.2.2) (.int .i64 (j:Int))) (.pointer (some ⟨g,j * 5,none⟩)):=fun q=>lH fun w=>by
  rw [ha,fM (n:=5) (by kernel_rfl) (by omega) (by omega),y7]; rfl
 refine cX (t1:=tA) _ (hidx _) ?_
 refine cX (t1:=ah) e.ks (bR (T0:=bz) (l:=cells) (QRd.own (List.mem_cons_of_mem _ (List.mem_cons_self ..))) (by kernel_rfl) rfl hcell) ?_
 refine dP (kr (e:=ak) (size:=1) (z:=.int .i64 0) [.int .i64 (c:Int)] (by kernel_rfl) (by kernel_rfl) (by decide) (by decide) (by kernel_rfl)) ?_
 rintro _ _ _ ⟨bn,rfl,rfl,rfl⟩
 refine ⟨fun p hp=>by simp [dy] at hp ⊢; rcases hp with rfl | rfl<;>simp,?_⟩
 have hek:e.ks.2.1=e.f.kids.length:=by have h1:=heok.len; simp at h1; omega
 have hkb:=hb e (by simp)
 refine ob (L':=e.K++(Kst++((g,aq bz cells)::(ik E1++(ik E2++dy r1 r2 x))))) ?_ ?_
 ·have h:=D4 e.K Kst (g,aq bz cells) (ik E1) (ik E2) (dy r1 r2 x)
  simpa [ik,List.append_assoc] using h
 refine dP (eM (L0:=Kst++((g,aq bz cells)::(ik E1++(ik E2++dy r1 r2 x)))) (K:=e.K) (size:=1) (bytes:=8) (e:=ak) (m:=1) (news:=[.int .i64 (c:Int)]) (by kernel_rfl) rfl heok (Rd.at (List.mem_cons_self ..)) rfl rfl rfl (by decide) (by simp [Value.oneCell']) (by omega) (by omega)) ?_
 rintro y _ _ ⟨Ke,rfl,rfl,hy,hbuf⟩
 refine ⟨fun p hp=>by simp [dy] at hp ⊢; rcases hp with rfl | rfl<;>simp,?_⟩
 refine cX (t1:=tA) _ (hidx _) ?_
 have hcl:j * 5+3+1≤cells.length:=by
  have:x.2.1 * 5≤cells.length:=by rw [g6]; exact Nat.mul_le_mul_right _ g4
  omega
 refine aQ (a6 (a:=⟨g,j * 5+3,none⟩) (L1:=Ke++Kst) (L2:=ik E1++(ik E2++dy r1 r2 x)) (l:=cells) (T:=aM) (T0:=bz) (c:=false) (by simp) (by kernel_rfl) rfl hcl (by simp [Value.cells,Value.oneCell'])) ?_
 rintro _ _ _ ⟨rfl,rfl⟩
 let e':E:=⟨{ e.f with kids:=e.f.kids++[(c:Int)] },y,Ke⟩
 have hrows:bB (rows dJ (E1++e::E2)) (j * 5+3) [.slice y.1 y.2.1 y.2.2]=rows dJ (E1++e'::E2):=by
  rw [lq,eT,lq,eT]
  have hl1:(rows dJ E1).length=j * 5:=by rw [ce d7,hE1]; omega
  rw [show j * 5+3=(rows dJ E1).length+3 by rw [hl1],EU _ _ _ _ _ (by simp [d7])]
  rfl
 refine kW (L':=Kst++(((g,aq bz (bB cells (j * 5+3) [.slice y.1 y.2.1 y.2.2]))::ik (E1++e'::E2))++dy r1 r2 x)) ?_ ?_
 ·have h:=(D4 Ke Kst (g,aq bz (bB cells (j * 5+3) [.slice y.1 y.2.1 y.2.2])) (ik E1) (ik E2) (dy r1 r2 x)).symm
  simpa [ik,e',List.append_assoc,Value.cells] using h
 refine (hk (E1++e'::E2) _ ⟨[(g,aq bz (bB cells (j * 5+3) [.slice y.1 y.2.1 y.2.2]))],rfl,?_,?_⟩ ?_).weak fun A hA=>List.mem_cons_of_mem _ hA
 ·rw [← hrows]
  exact Buf.set ha g3 g4 g5 g6 g7 (by simp; omega)
 ·intro e2 he2
  simp only [List.mem_append,List.mem_cons] at he2
  rcases he2 with h | rfl | h
  ·exact hE e2 (by simp [h])
  ·show Buf ak 1 y ((e.f.kids++[(c:Int)]).map (Value.int .i64)) Ke
   simpa using hbuf
  ·exact hE e2 (by simp [h])
 ·unfold g8
  rw [if_pos (by omega)]
  simp only [List.map_append,List.map_cons,Int.toNat_natCast]
  rw [← hE1,show E1.length=(E1.map (·.f)).length by simp,EI]
theorem Ds {ε σ β:Type} {I:av ε σ} {t:Ty} {Rel:β→t.den→al→Fact} {Δ:Labels ε σ β} {q:Option Quiet} {Γ:List Fact} {s:Sp ε σ β} {Kst KT:al} {r1 r2 b7:Nat} {x:aI} {es:List E} {pp:Int} {m:N} {qp:Option Addr} {k:T} (hT:TreeP es x KT)
  (h7:Fact.at b7 (aq bD [.pointer qp,.int .i64 pp])∈Γ) (hm:NodeF m qp∈Γ) (hb:es.length≤1099511627776)
  (hk:∀ x' KT',TreeP (es++[⟨⟨m.kind,m.text,m.num,m.pos,[]⟩,(none,0,0),[]⟩]) x' KT'→Sim PG I t Rel Δ none k s (Kst++(KT'++dy r1 r2 x')) Γ) :
  Sim PG I t Rel Δ q (.draw<|.opq (ai aw (.pointer (some ⟨r2,0,none⟩))) ah fun r11=>.opq (ai ba (.pointer (some ⟨b7,0,none⟩))) tP fun r12=>.opq (bV (.pointer r12)) tA fun r13 =>
   .opq (ai bz (.pointer (some r13))) (.c (.agg [.int .i64,.str,.int .i64,.slice,.int .i64])) fun r14 =>
   .opl (ar aw 1 #[(0,.agg #[.int .i64 r14.1,.string r14.2.1,.int .i64 r14.2.2.1,.slice r14.2.2.2.1.1 r14.2.2.2.1.2.1 r14.2.2.2.1.2.2,.int .i64 r14.2.2.2.2.1])]) ah fun r15 =>
   .opl (dg #[aw,aw] aw #[.slice r11.1 r11.2.1 r11.2.2,.slice r15.1 r15.2.1 r15.2.2]) ah fun r16 =>
   .op (aW aw (.pointer (some ⟨r2,0,none⟩)) (.slice r16.1 r16.2.1 r16.2.2)) tU fun _=>k) s (Kst++(KT++dy r1 r2 x)) Γ:=by
 obtain ⟨K0,rfl,hB,hE⟩:=hT
 have hlen:x.2.1=es.length:=by have h1:=hB.len; rw [ce d7] at h1; omega
 refine i9 hm fun bn sln hq=>?_
 subst hq
 refine c8 [(r2,aq ap [.slice x.1 x.2.1 x.2.2])] (fun p hp=>by simp [dy] at hp ⊢; rcases hp with rfl | rfl<;>simp) ?_
 refine cX (t1:=ah) x (bR (QRd.own (List.mem_cons_self ..)) (by kernel_rfl) rfl rfl) ?_
 refine cL (b1:=.ptr) (some ⟨bn,0,none⟩) (List.mem_cons_of_mem _ h7) (by kernel_rfl) rfl rfl ?_
 refine Hx ?_
 refine cX (t1:=.c (.agg [.int .i64,.str,.int .i64,.slice,.int .i64])) (m.kind,m.text,m.num,(none,0,0),m.pos,()) (Hv (QRd.of (fun F hF=>hF (Fact.at bn _) (List.mem_cons_self ..))) (by kernel_rfl) rfl rfl) ?_
 refine dP (kr (e:=bz) (size:=5) (z:=.agg #[.int .i64 0,.string kE,.int .i64 0,.slice none 0 0,.int .i64 0]) [.int .i64 m.kind,.string m.text,.int .i64 m.num,.slice none 0 0,.int .i64 m.pos] (by kernel_rfl) (by kernel_rfl) (by decide) (by decide) (by kernel_rfl)) ?_
 rintro _ _ _ ⟨b8,rfl,rfl,rfl⟩
 refine ⟨fun p hp=>by simp [dy] at hp ⊢; rcases hp with rfl | rfl<;>simp,?_⟩
 refine ob (L':=K0++(Kst++(ik es++dy r1 r2 x))) ?_ ?_
 ·have h:=(List.perm_append_comm (l₁:=K0) (l₂:=Kst)).append_right (ik es++dy r1 r2 x)
  simpa [List.append_assoc] using h
 refine dP (eM (L0:=Kst++(ik es++dy r1 r2 x)) (K:=K0) (size:=5) (bytes:=64) (e:=bz) (m:=1) (news:=[.int .i64 m.kind,.string m.text,.int .i64 m.num,.slice none 0 0,.int .i64 m.pos]) (by kernel_rfl) rfl hB (Rd.at (List.mem_cons_self ..)) rfl rfl rfl (by decide) (by simp [Value.oneCell']) (by omega) (by omega)) ?_
 rintro y _ _ ⟨K0',rfl,rfl,hy,hbuf⟩
 refine ⟨fun p hp=>by simp [dy] at hp ⊢; rcases hp with rfl | rfl<;>simp,?_⟩
 refine aQ (a6 (L1:=K0'++(Kst++ik es)) (L2:=[(r1,aq ap [.slice none 0 0])]) (l:=[.slice x.1 x.2.1 x.2.2]) (T:=aw) (T0:=ap) (c:=false) (by simp [dy]) (by kernel_rfl) rfl (Nat.le_of_ble_eq_true rfl) (by simp [Value.cells,Value.oneCell'])) ?_
 rintro _ _ _ ⟨rfl,rfl⟩
 refine kW (L':=Kst++((K0'++ik es)++dy r1 r2 y)) ?_ ?_
 ·have h:=(List.perm_append_comm (l₁:=Kst) (l₂:=K0')).append_right (ik es++dy r1 r2 y)
  simpa [List.append_assoc,dy,bB,Value.cells] using h
 refine (hk y _ ⟨K0',?_,?_,?_⟩).weak fun A hA=>List.mem_cons_of_mem _ (List.mem_cons_of_mem _ hA)
 ·rw [Hu]; simp
 ·rw [fF]; exact hbuf
 ·intro e he
  simp only [List.mem_append,List.mem_singleton] at he
  rcases he with he | rfl
  ·exact hE e he
  ·exact Buf.nil ..
def stk (S:List (N × Int)) (m:N) (c:Int) (i:Nat):List (N × Int):=S++(m.kids.drop i).reverse.map (fun n=>(n,c))
theorem B3 {S:List (N × Int)} {m:N} {c:Int} {i:Nat} (h:i < m.kids.length):stk S m c i=stk S m c (i+1)++[(m.kids[i],c)]:=by
 unfold stk
 rw [List.drop_eq_getElem_cons h,List.reverse_cons,List.map_append,List.append_assoc]; rfl
theorem CJ {ε σ β:Type} {I:av ε σ} {t:Ty} {Rel:β→t.den→al→Fact} {Δ:Labels ε σ β} {q:Option Quiet} {Γ:List Fact} {s:Sp ε σ β} {K1 Lr:al} {b7:Nat} {m:N} {qp:Option Addr} {pp:Int} {sl:aI} {S:List (N × Int)} {PS:List (Option Addr × Int)} (c:Nat) {ksl:aI}
  (h7:Fact.at b7 (aq bD [.pointer qp,.int .i64 pp])∈Γ) (hm:NodeF m qp∈Γ) (hst:Buf bD 2 sl (rows qh PS) K1) (hPS:PS.map (·.2)=S.map (·.2)) (hN:cG (S.map (·.1)) (PS.map (·.1))∈Γ)
  (hb:S.length+m.kids.length≤1099511627776) (hkl:ksl.2.1=m.kids.length)
  (hk:∀ sl' K1' PS' Γ',Buf bD 2 sl' (rows qh PS') K1'→PS'.map (·.2)=(stk S m c 0).map (·.2)→cG ((stk S m c 0).map (·.1)) (PS'.map (·.1))∈Γ' →
   ∀ x,Sim PG I t Rel (Δ.set 2 x) none (.out 1 [.slice sl'.1 sl'.2.1 sl'.2.2]) s (K1'++Lr) Γ') :
  Sim PG I t Rel Δ q (.loop 2 [.b .slice,.b (.int .i64)] [.slice sl.1 sl.2.1 sl.2.2,.int .i64 (IntKind.i64.wrap ((ksl.2.1:Int) - 1))] fun x33 =>
     .ite (decide ((x33.2.1:Int)≥0)) (
      .op (ai ba (.pointer (some ⟨b7,0,none⟩))) tP fun r34=>.op (bV (.pointer r34)) tA fun r35=>.op (ai ad (.pointer (some ⟨r35.block,r35.off+5,none⟩))) ah fun r36 =>
      .op (aR ad (.slice r36.1 r36.2.1 r36.2.2) (.int .i64 x33.2.1)) tA fun r37=>.op (ai ba (.pointer (some r37))) tP fun r38 =>
      .op (ar cr 1 #[(0,.agg #[.pointer r38,.int .i64 (c:Int)])]) ah fun r39 =>
      .op (dg #[cr,cr] cr #[.slice x33.1.1 x33.1.2.1 x33.1.2.2,.slice r39.1 r39.2.1 r39.2.2]) ah fun r40 =>
      .out 2 [.slice r40.1 r40.2.1 r40.2.2,.int .i64 (IntKind.i64.wrap (x33.2.1 - 1))]) (
      .out 1 [.slice x33.1.1 x33.1.2.1 x33.1.2.2])) s (K1++Lr) Γ:=by
 refine go (x:={ ι:={ i:Nat // i≤m.kids.length },sp:=fun _=>s,J:=fun i vs L'=>Fact.ex fun sl:aI=>Fact.ex fun K1:al=>Fact.ex fun PS:List (Option Addr × Int) =>
   (Fact.prop (vs=[.slice sl.1 sl.2.1 sl.2.2,.int .i64 ((i.1:Int) - 1)]∧L'=K1++Lr∧Buf bD 2 sl (rows qh PS) K1∧PS.map (·.2)=(stk S m c i.1).map (·.2))).both (cG ((stk S m c i.1).map (·.1)) (PS.map (·.1))) }) (fun i=>i.1) ⟨m.kids.length,Nat.le_refl _⟩ rfl ?_ ?_ ?_
 ·have e:stk S m c m.kids.length=S:=by unfold stk; simp
  refine fun F hF=>⟨sl,K1,PS,⟨?_,rfl,hst,by rw [e]; exact hPS⟩,by show NodesAt F _ ((stk S m c m.kids.length).map (·.1)); rw [e]; exact hF _ hN⟩
  rw [hkl,aS (by omega) (by omega)]
 ·rintro i vs L' F ⟨sl,K1,PS,⟨rfl,_⟩,_⟩; exact ⟨(sl,(i.1:Int) - 1,()),rfl⟩
 ·rintro ⟨i,hi⟩ L' ⟨sl',i',⟨⟩⟩
  refine Sim.ex fun sl=>Sim.ex fun K1=>Sim.ex fun PS=>Sim.both (Sim.prop fun ⟨hv,hL,hst,hPS⟩=>?_)
  subst hL
  obtain rfl:sl'=sl:=by
   obtain ⟨a,b,c⟩:=sl'; obtain ⟨a2,b2,c2⟩:=sl
   have e1:Value.slice a b c=Value.slice a2 b2 c2:=(List.cons.inj hv).1
   cases e1; rfl
  have hi':i'=(i:Int) - 1:=by
   have e1:Value.int .i64 i'=Value.int .i64 ((i:Int) - 1):=(List.cons.inj (List.cons.inj hv).2).1
   cases e1; rfl
  subst hi'
  refine qE (fun h=>?_) (fun h=>?_)
  ·have hpos:(0:Int)≤(i:Int) - 1:=of_decide_eq_true h
   obtain ⟨j,rfl⟩:∃ j,i=j+1:=⟨i - 1,by omega⟩
   have hjlt:j < m.kids.length:=hi
   refine ji (A:=cG ((stk S m c (j+1)).map (·.1)) (PS.map (·.1))) (List.mem_cons_self ..) ?_
   refine aN (b1:=.ptr) qp (List.mem_cons_of_mem _ (List.mem_cons_of_mem _ h7)) (by kernel_rfl) rfl rfl ?_
   refine my (n:=m) (x:=qp) (List.mem_cons_of_mem _ (List.mem_cons_of_mem _ hm)) fun bn sln psn hq=>?_
   subst hq
   refine iF ?_
   refine aN (b1:=.slice) sln (List.mem_cons_self ..) (by kernel_rfl) rfl rfl ?_
   refine Sim.note (φ:=psn.length=m.kids.length) (fun F hF=>NodesAt.length (hF (cG m.kids psn) (by repeat (first | exact mz | apply ms)))) fun hpl=>?_
   refine Sim.note (φ:=∃ a,sln.1=some a∧a.spot=none) (fun F hF=>Sl.addr (hF (Sl 1 d5 sln psn) (by repeat (first | exact mz | apply ms))) (by omega)) fun ⟨a,ha,_⟩=>?_
   refine aQ (py (f:=d5) (l:=psn) ha (fun F hF=>hF _ (by repeat (first | exact mz | apply ms))) (by kernel_rfl) j (by show ((j+1:Nat):Int) - 1=_; push_cast; omega) (by omega)) ?_
   rintro _ _ _ ⟨rfl,rfl,rfl⟩
   have hpj:psn[j]? = some psn[j]:=List.getElem?_eq_getElem (by omega)
   refine aQ (rb (f:=d5) (b:=.ptr) vc ha (fun F hF=>hF _ (by repeat (first | exact mz | apply ms))) hpj (by kernel_rfl) psn[j] rfl) ?_
   rintro _ _ _ ⟨rfl,rfl,rfl⟩
   refine aQ (kr (e:=bD) (size:=2) (z:=.agg #[.pointer none,.int .i64 0]) [.pointer psn[j],.int .i64 (c:Int)] (by kernel_rfl) (by kernel_rfl) (by decide) (by decide) (by kernel_rfl)) ?_
   rintro _ _ _ ⟨bp,rfl,rfl,rfl⟩
   have hPl:PS.length=(stk S m c (j+1)).length:=by have:=congrArg List.length hPS; simpa using this
   have hsl:sl'.2.1=PS.length:=by have h1:=hst.len; rw [ce lB] at h1; omega
   have hstl:(stk S m c (j+1)).length+(j+1)≤1099511627776:=by unfold stk; simp; omega
   refine aQ (eM (L0:=Lr) (K:=K1) (size:=2) (bytes:=16) (e:=bD) (m:=1) (news:=[.pointer psn[j],.int .i64 (c:Int)]) (by kernel_rfl) rfl hst (Rd.at (List.mem_cons_self ..)) rfl rfl rfl (by decide) (by simp [Value.oneCell']) (by show (sl'.2.1+1) * 16≤_; omega) (by show sl'.2.1+1≤_; omega)) ?_
   rintro y _ _ ⟨K1',rfl,rfl,hy,hbuf⟩
   refine ct rfl ⟨⟨j,by omega⟩,Nat.lt_succ_self j⟩ rfl fun F hF=>⟨y,K1',PS++[(psn[j],(c:Int))],⟨?_,rfl,?_,?_⟩,?_⟩
   ·show [Value.slice y.1 y.2.1 y.2.2,.int .i64 (IntKind.i64.wrap ((((j+1:Nat):Int) - 1) - 1))]=_
    rw [aS (by omega) (by omega)]
    congr 3; push_cast; omega
   ·rw [fF]; exact hbuf
   ·rw [B3 hjlt,List.map_append,List.map_append,hPS]; rfl
   ·show NodesAt F _ _
    rw [B3 hjlt,List.map_append,List.map_append]
    have h1:(cG ((stk S m c (j+1)).map (fun s:N × Int=>s.1)) (PS.map (fun s:Option Addr × Int=>s.1))).p F:=hF _ (by repeat (first | exact mz | apply ms))
    have h2:NodesAt F psn m.kids:=hF (cG m.kids psn) (by repeat (first | exact mz | apply ms))
    obtain ⟨p,g1,g2⟩:=NodesAt.get h2 j hjlt
    rw [hpj] at g1; cases g1
    exact NodesAt.snoc g2 h1
  ·have h0:¬ (0:Int)≤(i:Int) - 1:=of_decide_eq_false h
   obtain rfl:i=0:=by omega
   exact hk sl' K1 PS _ hst hPS (List.mem_cons_self ..) _
def HU (K1 KT:al) (r1 r2:Nat) (x:aI):al:=K1++(KT++dy r1 r2 x)
structure LaidOk (k:Nat) (S:List (N × Int)) (ns:List FN):Prop where
 sz:N.sizes (S.map (·.1))≤k
 bd:ns.length+k≤1099511627776
 pr:∀ s∈S,-1≤s.2∧s.2 < ns.length
 kl:∀ f∈ns,f.kids.length≤ns.length
theorem vl {α:Type} {g:α→α} {x:α}:∀ {l:List α} {i:Nat},x∈l.modify i g→x∈l∨∃ y∈l,x=g y
 | [],i,h=>by cases i<;>simp at h
 | y::l,0,h=>by
  simp only [List.modify_zero_cons,List.mem_cons] at h
  rcases h with rfl | h
  ·exact .inr ⟨y,by simp,rfl⟩
  ·exact .inl (by simp [h])
 | y::l,i+1,h=>by
  simp only [List.modify_succ_cons,List.mem_cons] at h
  rcases h with rfl | h
  ·exact .inl (by simp)
  ·rcases vl h with h | ⟨z,h1,h2⟩
   ·exact .inl (by simp [h])
   ·exact .inr ⟨z,by simp [h1],h2⟩
theorem LaidOk.step {k:Nat} {S:List (N × Int)} {ns:List FN} {m:N} {pp:Int} (h:LaidOk (k+1) (S++[(m,pp)]) ns):LaidOk k (stk S m ns.length 0) (g8 (ns++[⟨m.kind,m.text,m.num,m.pos,[]⟩]) pp ns.length):=by
 obtain ⟨h1,h2,h3,h4⟩:=h
 refine ⟨?_,?_,?_,?_⟩
 ·have e:(stk S m ns.length 0).map (·.1)=S.map (·.1)++m.kids.reverse:=by simp [stk,Function.comp_def]
  rw [e,fT,qW]
  simp only [List.map_append,List.map_cons,List.map_nil,fT,N.sizes] at h1
  have:=N.size_eq m
  omega
 ·rw [qf]; simp; omega
 ·intro s hs
  rw [qf]
  simp only [stk,List.drop_zero,List.mem_append,List.mem_map,List.mem_reverse] at hs
  rcases hs with hs | ⟨n,_,rfl⟩
  ·have:=h3 s (by simp [hs]); simp; omega
  ·simp; omega
 ·intro f hf
  rw [qf]
  unfold g8 at hf
  split at hf
  ·rcases vl hf with hf | ⟨y,hy,rfl⟩
   ·simp only [List.mem_append,List.mem_singleton] at hf
    rcases hf with hf | rfl
    ·have:=h4 f hf; simp; omega
    ·simp
   ·simp only [List.mem_append,List.mem_singleton] at hy
    rcases hy with hy | rfl
    ·have:=h4 y hy; simp; omega
    ·simp
  ·simp only [List.mem_append,List.mem_singleton] at hf
   rcases hf with hf | rfl
   ·have:=h4 f hf; simp; omega
   ·simp
theorem CY (k:Nat) (S:List (N × Int)) (ns:List FN) (m:N) (pp:Int):f5 (k+1) (S++[(m,pp)]).reverse ns=f5 k (stk S m ns.length 0).reverse (g8 (ns++[⟨m.kind,m.text,m.num,m.pos,[]⟩]) pp ns.length):=by
 simp [stk,f5]
def u5 (r1 r2:Nat) (res:List FN) {ε σ:Type}:Label ε σ (List FN) :=
 {ι:={ j:Nat × List (N × Int) × List FN // LaidOk j.1 j.2.1 j.2.2∧f5 j.1 j.2.1.reverse j.2.2=res },sp:=fun _=>Pure.pure res,
  J:=fun j vs L'=>Fact.ex fun sl:aI=>Fact.ex fun K1:al=>Fact.ex fun PS:List (Option Addr × Int)=>Fact.ex fun x:aI=>Fact.ex fun es:List E=>Fact.ex fun KT:al =>
   (Fact.prop (vs=[.slice sl.1 sl.2.1 sl.2.2]∧L'=HU K1 KT r1 r2 x∧Buf bD 2 sl (rows qh PS) K1∧TreeP es x KT∧es.map (·.f)=j.1.2.2∧PS.map (·.2)=j.1.2.1.map (·.2))).both (cG (j.1.2.1.map (·.1)) (PS.map (·.1))) }
def Ev {ε σ:Type} (n:N):Sp ε σ (List FN):=if n.size≤549755813888 then Pure.pure (f5 n.size [(n,-1)] []) else Sp.stop
def sR (l:List FN) (x:HB [.slice]) (K:al):Fact:=Fact.ex fun es:List E=>Fact.prop (es.map (·.f)=l∧TreeP es x.1 K)
theorem Jy {ε σ:Type} (I:av ε σ) (n:N) (p:Option Addr):MeetsO PG I (aa mJ #[.pointer p]) (.c (.agg [.slice])) (Ev n) sR [NodeF n p]:=by
 refine zL p ?_
 unfold lU Ev
 by_cases hsz:n.size≤549755813888
 case neg=>rw [if_neg hsz]; exact Bt
 rw [if_pos hsz]
 refine aQ (bF (z:=[.slice none 0 0]) (by kernel_rfl)) ?_
 rintro _ _ _ ⟨r1,rfl,rfl,rfl⟩
 refine aQ (bF (z:=[.slice none 0 0]) (by kernel_rfl)) ?_
 rintro _ _ _ ⟨r2,rfl,rfl,rfl⟩
 -- the stack's first place
 refine aQ (t1:=ah) (post:=fun y L' Γ'=>∃ b,y=(some ⟨b,0,none⟩,1,1)∧L'=(b,aq bD [.pointer p,.int .i64 (-1)])::[(r2,aq ap [.slice none 0 0]),(r1,aq ap [.slice none 0 0])]∧Γ'=[NodeF n p]) ?_ ?_
 ·refine Loc.val fun r w F H hF hsp=>⟨(some ⟨w.heap.size,0,none⟩,1,1),w.alloc (aq bD [.pointer p,.int .i64 (-1)]),_,_,F,.inl ?_,Heap.le.refl F,hF,(hsp.new _).perm List.perm_middle,w.heap.size,rfl,rfl,rfl⟩
  have:=gm (P:=PG) (w:=w) (t:=cr) (e:=bD) (n:=1) (size:=2) (ps:=#[(0,.agg #[.pointer p,.int .i64 (-1)])]) (cells:=#[.pointer p,.int .i64 (-1)]) (zero:=.agg #[.pointer none,.int .i64 0]) (by kernel_rfl) (by decide) (by kernel_rfl) (by kernel_rfl) (by decide)
  have h2:(ar cr 1 #[(0,.agg #[.pointer p,.int .i64 (-1)])]).run PG w=.ok (.value (.slice (some ⟨w.heap.size,0,none⟩) 1 1)) (w.alloc (aq bD [.pointer p,.int .i64 (-1)])):=by simpa using this
  exact h2
 rintro _ _ _ ⟨bs,rfl,rfl,rfl⟩
 generalize hres:f5 n.size [(n,-1)] []=res
 refine ea (x:={ ι:=Unit,sp:=fun _=>Pure.pure res,J:=fun _ vs L'=>Fact.ex fun x:aI=>Fact.ex fun es:List E=>Fact.ex fun KT:al=>Fact.prop (vs=[]∧L'=KT++[(r2,aq ap [.slice x.1 x.2.1 x.2.2]),(r1,aq ap [.slice none 0 0])]∧TreeP es x KT∧es.map (·.f)=res) }) ?_ fun _ vs L'=>⟨?_,?_⟩
 ·refine go (x:=u5 r1 r2 res) (fun j=>j.1.1) ⟨(n.size,[(n,-1)],[]),⟨by simp [N.sizes],by simp; omega,by simp,by simp⟩,hres⟩ rfl
   (fun F hF=>⟨(some ⟨bs,0,none⟩,1,1),[(bs,aq bD [.pointer p,.int .i64 (-1)])],[(p,-1)],(none,0,0),[],[],⟨rfl,rfl,?_,⟨[],rfl,Buf.nil ..,by simp⟩,rfl,rfl⟩,NodesAt.one (hF _ (List.mem_cons_self ..))⟩) ?_ ?_
  ·exact .inr ⟨bs,_,rfl,rfl,rfl,Nat.le_refl _,by show (1:Nat)≤maxLen; unfold maxLen; decide,rfl,rfl⟩
  ·rintro j vs L' F ⟨sl,K1,PS,x,es,KT,⟨rfl,_⟩,_⟩; exact ⟨(sl,()),rfl⟩
  ·rintro ⟨⟨k,S,ns⟩,hok,hgo⟩ L' ⟨sl',⟨⟩⟩
   refine Sim.ex fun sl=>Sim.ex fun K1=>Sim.ex fun PS=>Sim.ex fun x=>Sim.ex fun es=>Sim.ex fun KT=>Sim.both (Sim.prop fun ⟨hv,hL,hst,htr,hes,hPS⟩=>?_)
   subst hL
   obtain rfl:sl'=sl:=by
    obtain ⟨a,b,c⟩:=sl'; obtain ⟨a2,b2,c2⟩:=sl
    have e1:Value.slice a b c=Value.slice a2 b2 c2:=(List.cons.inj hv).1
    cases e1; rfl
   replace hgo:f5 k S.reverse ns=res:=hgo
   replace hok:LaidOk k S ns:=hok
   replace hes:es.map (·.f)=ns:=hes
   replace hPS:PS.map (·.2)=S.map (·.2):=hPS
   have hlen:PS.length=S.length:=by have:=congrArg List.length hPS; simpa using this
   have hsl:sl'.2.1=PS.length:=by
    have h1:=hst.len
    rw [ce lB] at h1; omega
   refine qE (fun h=>?_) (fun h=>?_)
   ·-- a place is taken from the stack
    have hpos:0 < PS.length:=by have h':(0:Int) < (sl'.2.1:Int):=of_decide_eq_true h; omega
    rcases tM PS with rfl | ⟨PS',⟨q,pp⟩,rfl⟩
    ·simp at hpos
    rcases tM S with rfl | ⟨S',⟨m,pm⟩,rfl⟩
    ·simp at hlen
    simp only [List.map_append,List.map_cons,List.map_nil] at hPS
    obtain ⟨hPS',hpp⟩:=List.append_inj' hPS rfl
    obtain rfl:pp=pm:=by simpa using hpp
    obtain ⟨g,cells,rfl,ha,g3,g4,g5,g6,g7⟩:=hst.open (by omega)
    have hl1:sl'.2.1=PS'.length+1:=by rw [hsl]; simp
    have hw:IntKind.i64.wrap ((sl'.2.1:Int) - 1)=((PS'.length:Nat):Int):=by
     have hb1:S'.length+1≤1099511627776:=by
      have h1:=qL ((S'++[(m,pp)]).map (·.1)); have h2:=hok.sz; have h3:=hok.bd; simp at h1 h2; omega
     have hl2:PS'.length=S'.length:=by simpa using hlen
     rw [aS (by omega) (by omega)]; omega
    have hrow:=Buf.row (e:=bD) (i:=PS'.length) g7 (by omega)
    have hrow2:((rows qh (PS'++[(q,pp)])).drop (PS'.length * 2)).take 2=[.pointer q,.int .i64 pp]:=by
     rw [fF,List.drop_append,List.drop_of_length_le (by rw [ce lB]; omega),ce lB,Nat.mul_comm,Nat.sub_self]; rfl
    refine Sim.know (A:=cG (S'.map (·.1)) (PS'.map (·.1))) (fun F hF=>?_) (Sim.know (A:=NodeF m q) (fun F hF=>?_) ?_)
    ·have h1:NodesAt F ((PS'++[(q,pp)]).map (·.1)) ((S'++[(m,pp)]).map (·.1)):=hF _ (List.mem_cons_self ..)
     simp only [List.map_append,List.map_cons,List.map_nil] at h1
     exact (NodesAt.split h1).1
    ·have h1:NodesAt F ((PS'++[(q,pp)]).map (·.1)) ((S'++[(m,pp)]).map (·.1)):=hF _ (List.mem_cons_of_mem _ (List.mem_cons_self ..))
     simp only [List.map_append,List.map_cons,List.map_nil] at h1
     exact (NodesAt.split h1).2
    refine Sim.weak (Γ':=[NodeF m q,cG (S'.map (·.1)) (PS'.map (·.1))]) ?_ (fun A hA=>by simp only [List.mem_cons,List.not_mem_nil,or_false] at hA; rcases hA with rfl | rfl<;>exact (by repeat (first | exact mz | apply ms)))
    refine Hz (n:=2) (x:=sl') PS'.length ha (by kernel_rfl) hw (by omega) ?_
    refine GY (T0:=bD) (l:=cells) (bs:=[.ptr,.int .i64]) (q,pp,()) (List.mem_cons_self ..) (by kernel_rfl) rfl (by
     show ((cells.drop (PS'.length * 2)).take 2)=_
     rw [hrow,hrow2]; rfl) ?_
    refine gd (c:=true) (z:=[.pointer none,.int .i64 0]) (by kernel_rfl) (by kernel_rfl) rfl (by simp [Value.cells,Value.oneCell']) fun b7=>?_
    refine Hp (x:=sl') PS'.length (by kernel_rfl) (by kernel_rfl) (fun b hb=>by rw [ha] at hb; cases hb; rfl) hw (by omega) ?_
    refine Hm (T0:=ap) (l:=[.slice x.1 x.2.1 x.2.2]) (b1:=.slice) x (by simp [HU,dy]) (by kernel_rfl) rfl rfl ?_
    have hel:es.length=ns.length:=by rw [← hes]; simp
    have hxl:x.2.1=ns.length:=by
     obtain ⟨K0,_,hB,_⟩:=htr
     have h1:=hB.len; rw [ce d7] at h1; omega
    have hk0:0 < k:=by have h1:=hok.sz; simp only [List.map_append,List.map_cons,List.map_nil,fT,N.sizes] at h1; have:=N.size_eq m; omega
    obtain ⟨k',rfl⟩:∃ k',k=k'+1:=⟨k - 1,by omega⟩
    have hbd:=hok.bd
    have hpr:=hok.pr (m,pp) (by simp)
    refine Ds (Kst:=[(g,aq bD cells)]) (b7:=b7) (pp:=pp) (m:=m) (qp:=q) htr (by repeat (first | exact mz | apply ms)) (by repeat (first | exact mz | apply ms)) (by omega) fun x2 KT2 htr2=>?_
    refine aN (b1:=.int .i64) pp (by repeat (first | exact mz | apply ms)) (by kernel_rfl) rfl rfl ?_
    refine ea (x:={ ι:=Unit,sp:=fun _=>Pure.pure res,J:=fun _ vs L'=>Fact.ex fun es3:List E=>Fact.ex fun KT3:al=>Fact.prop (vs=[]∧L'=[(g,aq bD cells)]++(KT3++dy r1 r2 x2)∧TreeP es3 x2 KT3∧es3.map (·.f)=g8 (ns++[⟨m.kind,m.text,m.num,m.pos,[]⟩]) pp ns.length) }) ?_ fun _ vs L'=>⟨?_,?_⟩
    ·refine qE (fun h=>?_) (fun h=>?_)
     ·have hpp0:(0:Int)≤pp:=of_decide_eq_true h
      have hpl:pp < (ns.length:Int):=hpr.2
      refine EB (b7:=b7) (pp:=pp) (qv:=.pointer q) x.2.1 htr2 pp.toNat (by simp; omega) (by omega) (by repeat (first | exact mz | apply ms)) ?_ fun es3 KT3 htr3 he3=>?_
      ·intro e he
       have hf:e.f∈ns∨e.f=⟨m.kind,m.text,m.num,m.pos,[]⟩:=by
        simp only [List.mem_append,List.mem_singleton] at he
        rcases he with he | rfl
        ·left; rw [← hes]; exact List.mem_map.2 ⟨e,he,rfl⟩
        ·exact .inr rfl
       rcases hf with hf | hf
       ·have:=hok.kl _ hf; omega
       ·rw [hf]; simp
      ·refine ct rfl () rfl fun F hF=>⟨es3,KT3,rfl,rfl,htr3,?_⟩
       rw [he3,hxl,List.map_append,hes]; rfl
     ·have hpp0:¬ (0:Int)≤pp:=of_decide_eq_false h
      refine ct rfl () rfl fun F hF=>⟨_,KT2,rfl,rfl,htr2,?_⟩
      unfold g8
      rw [if_neg hpp0,List.map_append,hes]; rfl
    ·rintro F ⟨es3,KT3,rfl,_⟩; exact ⟨(),rfl⟩
    ·rintro ⟨⟩
     refine Sim.ex fun es3=>Sim.ex fun KT3=>Sim.prop fun ⟨_,hL,htr3,he3⟩=>?_
     subst hL
     refine aN (b1:=.ptr) q (by repeat (first | exact mz | apply ms)) (by kernel_rfl) rfl rfl ?_
     refine my (n:=m) (x:=q) (by repeat (first | exact mz | apply ms)) fun bn sln psn hq=>?_
     subst hq
     refine iF ?_
     refine aN (b1:=.slice) sln (List.mem_cons_self ..) (by kernel_rfl) rfl rfl ?_
     refine Sim.note (φ:=sln.2.1=m.kids.length) (fun F hF=>?_) fun hkl=>?_
     ·have h1:NodesAt F psn m.kids:=hF (cG m.kids psn) (by repeat (first | exact mz | apply ms))
      rw [(hF (Sl 1 d5 sln psn) (by repeat (first | exact mz | apply ms))).1,NodesAt.length h1]
     have htk:Buf bD 2 (sl'.1,PS'.length,sl'.2.2) (rows qh PS') [(g,aq bD cells)]:=by
      have h1:=hst.take (m:=PS'.length) (by omega)
      rw [fF,List.take_left' (by rw [ce lB]; omega)] at h1
      exact h1
     have hsz:=hok.sz
     simp only [List.map_append,List.map_cons,List.map_nil,fT,N.sizes] at hsz
     have hs1:=qL (S'.map (·.1))
     have hs2:=qL m.kids
     have hs3:=N.size_eq m
     simp only [List.length_map] at hs1
     rw [show (x.2.1:Int)=((ns.length:Nat):Int) by rw [hxl]]
     refine CJ (b7:=b7) (m:=m) (pp:=pp) (sl:=(sl'.1,PS'.length,sl'.2.2)) (S:=S') (PS:=PS') ns.length (ksl:=sln) (by repeat (first | exact mz | apply ms)) (by repeat (first | exact mz | apply ms)) htk hPS' (by repeat (first | exact mz | apply ms)) (by omega) hkl fun sl3 K3 PS3 Γ3 hb3 hp3 hn3 xl=>?_
     refine ct (x:={ ι:={ j:(u5 (ε:=ε) (σ:=σ) r1 r2 res).ι // j.1.1 < k'+1 },sp:=fun j=>(u5 r1 r2 res).sp j.1,J:=fun j vs L=>(u5 (ε:=ε) (σ:=σ) r1 r2 res).J j.1 vs L }) (by simp [Labels.set]) ⟨⟨(k',stk S' m ns.length 0,g8 (ns++[⟨m.kind,m.text,m.num,m.pos,[]⟩]) pp ns.length),hok.step,by rw [← CY]; exact hgo⟩,Nat.lt_succ_self k'⟩ rfl
      fun F hF=>⟨sl3,K3,PS3,x2,es3,KT3,⟨rfl,rfl,hb3,htr3,he3,hp3⟩,hF _ hn3⟩
   ·have h0:PS.length=0:=by have h':¬ (0:Int) < (sl'.2.1:Int):=of_decide_eq_false h; omega
    have hS0:S=[]:=List.length_eq_zero_iff.1 (by omega)
    subst hS0
    refine tN (L':=KT++[(r2,aq ap [.slice x.1 x.2.1 x.2.2]),(r1,aq ap [.slice none 0 0])]) (List.sublist_append_right ..) ?_
    refine ct rfl () rfl fun F hF=>⟨x,es,KT,rfl,rfl,htr,?_⟩
    rw [hes,← hgo]; simp [Fh]
 ·rintro F ⟨x,es,KT,rfl,_⟩; exact ⟨(),rfl⟩
 ·rintro ⟨⟩
  refine Sim.ex fun x=>Sim.ex fun es=>Sim.ex fun KT=>Sim.prop fun ⟨_,hL,htr,hes⟩=>?_
  subst hL
  refine aQ (ft (bs:=[.slice]) (x:=(x,())) (Rd.own (b:=r2) (o:=aq ap [.slice x.1 x.2.1 x.2.2]) (List.mem_append_right _ (List.mem_cons_self ..))) (by kernel_rfl) rfl rfl) ?_
  rintro _ _ _ ⟨rfl,rfl,rfl⟩
  refine aQ (a6 (L1:=KT++[(r2,aq ap [.slice x.1 x.2.1 x.2.2])]) (L2:=[]) (T:=ap) (T0:=ap) (l:=[.slice none 0 0]) (c:=true) (by simp) (by kernel_rfl) rfl (Nat.le_of_ble_eq_true rfl) (by simp [Value.cells,Value.oneCell'])) ?_
  rintro _ _ _ ⟨rfl,rfl⟩
  refine uu KT (by simp) (x,()) (fun r w F H hF hsp=>eN (vs:=[.slice x.1 x.2.1 x.2.2]) (by kernel_rfl) (hsp.own r1 (aq ap [.slice x.1 x.2.1 x.2.2]) (by simp [bB,Value.cells])) rfl rfl) (fun F hF=>⟨es,hes,htr⟩)
end Go.Proofs.YtjlgcpgjdgeejaaGreatDoor
end
