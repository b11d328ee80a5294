/- The claim: shuck/shucklaw4.ParseSplits answers true whatever it is given, and what was there is as it was: the tied card. Conditions: those of the given row (the listed variables are laid as the program's text lays them). -/
import Derived.Test.YtjlgcpgjdgeejaaGreatDoorClG
import Derived.Carry
import Derived.HandedShaped
import Derived.LaidMore
import Derived.Lay
import Derived.OpenShut
import Derived.ProofKit
import Derived.SevenTiedAt
import Derived.Shelf.Vars
import Derived.Stop.Joined
import Derived.Test.YtjlgcpgjdgeejaaGreatDoorCards
import Derived.Test.YtjlgcpgjdgeejaaGreatDoorTie

section
namespace Go.Proofs.YtjlgcpgjdgeejaaGreatDoor
open Go
set_option linter.unusedSimpArgs false
set_option linter.unusedVariables false
set_option linter.constructorNameAsVariable false
set_option maxRecDepth 1000000
theorem KJ:∀ (bl:Bool) (n:Nat),n≤40→bA bl n=true
 | true,0,_=>LJ
 | false,0,_=>LP
 | true,1,_=>Ls
 | false,1,_=>LA
 | true,2,_=>LK
 | false,2,_=>LI
 | true,3,_=>Ly
 | false,3,_=>LM
 | true,4,_=>LH
 | false,4,_=>Lu
 | true,5,_=>LQ
 | false,5,_=>Lz
 | true,6,_=>LC
 | false,6,_=>LL
 | true,7,_=>LE
 | false,7,_=>Lv
 | true,8,_=>LN
 | false,8,_=>LF
 | true,9,_=>LD
 | false,9,_=>Lo
 | true,10,_=>KD
 | false,10,_=>Ku
 | true,11,_=>Lf
 | false,11,_=>Kz
 | true,12,_=>KL
 | false,12,_=>KC
 | true,13,_=>Kr
 | false,13,_=>Kt
 | true,14,_=>Ko
 | false,14,_=>J7
 | true,15,_=>Ka
 | false,15,_=>J8
 | true,16,_=>KX
 | false,16,_=>Kb
 | true,17,_=>Kj
 | false,17,_=>Kx
 | true,18,_=>Kf
 | false,18,_=>KB
 | true,19,_=>JU
 | false,19,_=>KE
 | true,20,_=>K7
 | false,20,_=>Kv
 | true,21,_=>J3
 | false,21,_=>KQ
 | true,22,_=>La
 | false,22,_=>Ki
 | true,23,_=>Kg
 | false,23,_=>KV
 | true,24,_=>Lg
 | false,24,_=>KK
 | true,25,_=>J5
 | false,25,_=>KF
 | true,26,_=>J9
 | false,26,_=>Kh
 | true,27,_=>J0
 | false,27,_=>Lh
 | true,28,_=>JT
 | false,28,_=>Kw
 | true,29,_=>JW
 | false,29,_=>J4
 | true,30,_=>Lc
 | false,30,_=>K8
 | true,31,_=>Ky
 | false,31,_=>KN
 | true,32,_=>Kn
 | false,32,_=>K4
 | true,33,_=>KS
 | false,33,_=>Kp
 | true,34,_=>Li
 | false,34,_=>KW
 | true,35,_=>JV
 | false,35,_=>Kq
 | true,36,_=>KR
 | false,36,_=>JY
 | true,37,_=>KY
 | false,37,_=>J1
 | true,38,_=>Ks
 | false,38,_=>KA
 | true,39,_=>KZ
 | false,39,_=>KI
 | true,40,_=>J6
 | false,40,_=>Kl
 | _,n+41,h=>absurd h (by omega)
theorem Jx {bl:Bool} {n:Nat} (h:bA bl n=true):∃ ns,iY 60 (zc bl n) 2=some (.inr ns)∧fI ns=n+1∧fG ns=2 * (n:Int)+1∧ns.length≤1000∧∀ x∈ns,x.kids.length≤1000∧x.text.size≤1000:=by
 unfold bA at h
 split at h
 ·rename_i ns hw
  simp only [Bool.and_eq_true,decide_eq_true_eq] at h
  obtain ⟨⟨⟨h1,h2⟩,h3⟩,h4⟩:=h
  exact ⟨ns,hw,eq_of_beq h1,eq_of_beq h2,h3,fun x hx=>by simpa using List.all_eq_true.1 h4 x hx⟩
 ·cases h
theorem BR:∀ i,(nV i).size=2 * i
 | 0=>rfl
 | i+1=>by
  show (nV i++kA_lt).size=_
  rw [ByteArray.size_append,BR i,show kA_lt.size=2 by kernel_rfl]; omega
theorem CR (bl:Bool):∀ i,(gF bl i).size≤2 * i
 | 0=>Nat.le_of_eq rfl
 | i+1=>by
  have ih:=CR bl i
  have h1:k_gt.size=1:=by kernel_rfl
  have h2:k_sp.size=1:=by kernel_rfl
  show (if bl then gF bl i++k_gt++k_sp else gF bl i++k_gt).size≤_
  split
  ·rw [ByteArray.size_append,ByteArray.size_append]; omega
  ·rw [ByteArray.size_append]; omega
theorem vG:∀ (l:List FN) (x:FN),fI (l++[x])=fI l+(if x.kind==80 then 1 else 0)
 | [],x=>by show (if x.kind==80 then 1 else 0)+0=0+_; omega
 | y::l,x=>by
  show (if y.kind==80 then 1 else 0)+fI (l++[x])=(if y.kind==80 then 1 else 0)+fI l+_
  rw [vG l x]; omega
theorem Bi:∀ (l:List FN),fI l≤l.length
 | []=>Nat.le_refl _
 | x::l=>by
  have:=Bi l
  show (if x.kind==80 then 1 else 0)+fI l≤l.length+1
  split<;>omega
theorem HA (n:Int) (bl:Bool):Meets PG (I0:av Empty Unit) (aa lG #[.int .i64 n,.bool bl]) tB (Pure.pure true) aJ [MxF]:=by
 refine rq n bl (bc fun st=>?_)
 obtain rfl:st=():=rfl
 unfold hG
 have fin:∀ {md:cK} {Δ:Labels Empty Unit Bool} {L:al} {Γ:List Fact},MxF∈Γ→au PG (I0:av Empty Unit) tB (pl aJ) Δ md () (.op (aa ib #[]) tB fun r=>.ret #[.v (.bool r)]) ((Pure.pure true:Sp Empty Unit Bool) ()) L Γ:=fun hM =>
  bW Ip (fun A hA=>by obtain rfl:=List.mem_singleton.1 hA; exact hM) (eF (t:=tB) true rfl rfl)
 refine c9 (decide (n < 0)||decide (n > 40)) (bO rfl fun e=>cT e.symm) ?_
 refine aD (fun h=>fin (by repeat (first | exact mz | apply ms))) fun h=>?_
 have h':(decide (n < 0)||decide (n > 40))=false:=h
 rw [Bool.or_eq_false_iff,decide_eq_false_iff_not,decide_eq_false_iff_not] at h'
 obtain ⟨m,rfl⟩:=Int.eq_ofNat_of_zero_le (show 0≤n by omega)
 have hm:m≤40:=by omega
 obtain ⟨ns,hw,hname,hdep,hnl,hnx⟩:=Jx (KJ bl m hm)
 have sA:=BR
 have sE:=CR bl
 have c1:kA_lt.size=2:=by kernel_rfl
 have c2:k_gt.size=1:=by kernel_rfl
 have c3:k_sp.size=1:=by kernel_rfl
 have c4:kB.size=1:=by kernel_rfl
 refine eo (δ:=Unit) (ts:=[.b .str,.b .str]) (fun _=>(nV m,gF bl m,())) (fun _ L'=>Fact.prop (L'=[])) (fun _ _=>(Pure.pure true:Sp Empty Unit Bool) ()) ?_ ?_
 ·refine fU (ts:=[.b .str,.b .str,.b (.int .i64)]) m (fun i=>(nV i,gF bl i,(i:Int),())) (fun _ L'=>Fact.prop (L'=[])) rfl (fun F hF=>rfl) fun i L' Δ' hi hΔ out=>?_
  refine br fun F0 hx=>?_
  obtain rfl:L'=[]:=hx
  have s1:=sA i
  have s2:=sE i
  refine aD (fun h=>?_) (fun h=>?_)
  ·have hi':i < m:=by have h':(i:Int) < (m:Int):=of_decide_eq_true h; omega
   refine cd (t1:=tS) (nV i++kA_lt) (PVal.pure fun w=>ep (nV i) kA_lt (by omega)) ?_
   refine cd (t1:=tS) (gF bl i++k_gt) (PVal.pure fun w=>ep (gF bl i) k_gt (by omega)) ?_
   refine aD (fun h2=>?_) (fun h2=>?_)
   ·refine cd (t1:=tS) (gF bl i++k_gt++k_sp) (PVal.pure fun w=>ep (gF bl i++k_gt) k_sp (by rw [ByteArray.size_append]; omega)) ?_
    refine out hi' ?_ fun F hF=>rfl
    have h2':bl=true:=h2
    have:gF bl (i+1)=gF bl i++k_gt++k_sp:=by
     show (if bl then gF bl i++k_gt++k_sp else gF bl i++k_gt)=_
     rw [if_pos h2']
    show [Value.string (nV i++kA_lt),Value.string (gF bl i++k_gt++k_sp),Value.int .i64 (IntKind.i64.wrap ((i:Int)+1))]=[Value.string (nV (i+1)),Value.string (gF bl (i+1)),Value.int .i64 ((i+1:Nat):Int)]
    rw [this,aS (by omega) (by omega)]; rfl
   ·refine out hi' ?_ fun F hF=>rfl
    have h2':bl=false:=h2
    have:gF bl (i+1)=gF bl i++k_gt:=by
     show (if bl then gF bl i++k_gt++k_sp else gF bl i++k_gt)=_
     rw [if_neg (by rw [h2']; decide)]
    show [Value.string (nV i++kA_lt),Value.string (gF bl i++k_gt),Value.int .i64 (IntKind.i64.wrap ((i:Int)+1))]=[Value.string (nV (i+1)),Value.string (gF bl (i+1)),Value.int .i64 ((i+1:Nat):Int)]
    rw [this,aS (by omega) (by omega)]; rfl
  ·have hi':i=m:=by have h':¬ (i:Int) < (m:Int):=of_decide_eq_false h; omega
   subst hi'
   exact fy () ((hΔ 0 (by decide)).trans cn) rfl rfl fun F hF=>rfl
 ·rintro ⟨⟩ L' ⟨⟩
  refine br fun F0 hx=>?_
  obtain rfl:L'=[]:=hx
  have s1:=sA m
  have s2:=sE m
  refine cd (t1:=tS) (nV m++kB) (PVal.pure fun w=>ep (nV m) kB (by omega)) ?_
  refine cd (t1:=tS) (zc bl m) (PVal.pure fun w=>ep (nV m++kB) (gF bl m) (by rw [ByteArray.size_append]; omega)) ?_
  have hts:(zc bl m).size≤1000:=by unfold zc; rw [ByteArray.size_append,ByteArray.size_append]; omega
  refine bY (y4 (zc bl m)) ?_
  rintro y _ _ ⟨rfl,rfl⟩
  have hmm:=Is (I0:av Empty Unit) 60 (by decide) y (zc bl m) (by omega)
  have e:(fk 60 (zc bl m) 2:Sp Empty Unit _)=Pure.pure (.inr ns):=by funext st; simp only [fk,hw]; rfl
  rw [e] at hmm
  refine i1 hmm (fun A hA=>by
   rcases List.mem_cons.1 hA with rfl | hA
   ·exact (by repeat (first | exact mz | apply ms))
   ·obtain rfl:=List.mem_singleton.1 hA; exact (by repeat (first | exact mz | apply ms))) fun x K=>?_
  obtain ⟨⟨x,⟨⟩⟩,x2⟩:=x
  refine kg (br fun F0 hx=>?_)
  obtain rfl:x2=(0,0,()):=hx
  refine Gk fun es hes=>?_
  have hel:es.length=ns.length:=by rw [← hes,List.length_map]
  have hex:∀ e∈es,e.f.kids.length≤1000∧e.f.text.size≤1000:=fun e he=>hnx e.f (by rw [← hes]; exact List.mem_map_of_mem he)
  refine cA (A:=cI x es) (fun F hF=>⟨Sl.rw d7 (hF (Sl 5 dJ x es) (List.mem_cons_self ..)),fun e he=>Sl.rw kL (hF (u0 es) (List.mem_cons_of_mem _ (List.mem_cons_self ..)) e he),by omega,fun e he=>⟨by have:=(hex e he).1; omega,by have:=(hex e he).2; omega⟩⟩) ?_
  refine E6 (c:=true) (z:=[.slice none 0 0]) (by kernel_rfl) (by kernel_rfl) rfl (by simp [Value.cells,Value.oneCell']) fun b=>?_
  refine cA (A:=gr b x) (fun F hF=>hF _ (List.mem_cons_self ..)) ?_
  refine eo (δ:=Unit) (ts:=[.b (.int .i64)]) (fun _=>(((m+1:Nat):Int),())) (fun _ L'=>Fact.prop (L'=[])) (fun _ _=>(Pure.pure true:Sp Empty Unit Bool) ()) ?_ ?_
  ·refine fU (ts:=[.b (.int .i64),.b (.int .i64)]) es.length (fun i=>((fI (ns.take i):Int),(i:Int),())) (fun _ L'=>Fact.prop (L'=[])) rfl (fun F hF=>rfl) fun i L' Δ' hi hΔ out=>?_
   refine br fun F0 hx=>?_
   obtain rfl:L'=[]:=hx
   refine ln (b:=b) (x:=x) (by repeat (first | exact mz | apply ms)) (sb (by repeat (first | exact mz | apply ms)) fun hl _=>?_)
   refine aD (fun h=>?_) (fun h=>?_)
   ·have hi':i < es.length:=by have h':(i:Int) < (x.2.1:Int):=of_decide_eq_true h; omega
    have hei:es[i]? = some es[i]:=List.getElem?_eq_getElem hi'
    have hni:ns[i]? = some es[i].f:=by rw [← hes,List.getElem?_map,hei]; rfl
    have hst:fI (ns.take (i+1))=fI (ns.take i)+(if es[i].f.kind==80 then 1 else 0):=by
     rw [List.take_add_one,hni]
     exact vG _ _
    have hle:=Bi (ns.take i)
    rw [List.length_take] at hle
    refine iZ (b:=b) i (by repeat (first | exact mz | apply ms)) (by repeat (first | exact mz | apply ms)) rfl hei ?_
    refine aD (fun h2=>?_) (fun h2=>?_)
    ·refine out hi' ?_ fun F hF=>rfl
     have h2':(es[i].f.kind==80)=true:=h2
     rw [if_pos h2'] at hst
     show [Value.int .i64 (IntKind.i64.wrap ((fI (ns.take i):Int)+1)),Value.int .i64 (IntKind.i64.wrap ((i:Int)+1))]=[Value.int .i64 ((fI (ns.take (i+1)):Nat):Int),Value.int .i64 ((i+1:Nat):Int)]
     rw [hst,aS (by omega) (by omega),aS (by omega) (by omega)]; rfl
    ·refine out hi' ?_ fun F hF=>rfl
     have h2':(es[i].f.kind==80)=false:=h2
     rw [if_neg (by rw [h2']; decide)] at hst
     show [Value.int .i64 (fI (ns.take i):Int),Value.int .i64 (IntKind.i64.wrap ((i:Int)+1))]=[Value.int .i64 ((fI (ns.take (i+1)):Nat):Int),Value.int .i64 ((i+1:Nat):Int)]
     rw [hst,aS (by omega) (by omega)]; rfl
   ·have hi':i=es.length:=by have h':¬ (i:Int) < (x.2.1:Int):=of_decide_eq_false h; omega
    refine fy () ((hΔ 0 (by decide)).trans cn) ?_ rfl fun F hF=>rfl
    show [Value.int .i64 ((fI (ns.take i):Nat):Int)]=[Value.int .i64 ((m+1:Nat):Int)]
    rw [List.take_of_length_le (by omega),hname]
  ·rintro ⟨⟩ L' ⟨⟩
   refine br fun F0 hx=>?_
   obtain rfl:L'=[]:=hx
   refine aD (fun _=>?_) (fun h=>by cases h)
   refine aD (fun _=>?_) (fun h=>?_)
   ·refine gz (b:=b) (x:=x) (by repeat (first | exact mz | apply ms)) ?_
    refine bW (Hg (I0:av Empty Unit) x es) (fun A hA=>by
     rcases List.mem_cons.1 hA with rfl | hA
     ·exact (by repeat (first | exact mz | apply ms))
     ·obtain rfl:=List.mem_singleton.1 hA; exact (by repeat (first | exact mz | apply ms))) ?_
    rw [hes,hdep]
    refine aD (fun _=>fin (by repeat (first | exact mz | apply ms))) (fun h=>?_)
    ·exfalso
     have h2:((2 * (m:Int)+1)==IntKind.i64.wrap (IntKind.i64.wrap (2 * (m:Int))+1))=false:=h
     rw [aS (n:=2 * (m:Int)) (by omega) (by omega),aS (by omega) (by omega)] at h2
     simp at h2
   ·exfalso
    have h2:(((m+1:Nat):Int)==IntKind.i64.wrap ((m:Int)+1))=false:=h
    rw [aS (by omega) (by omega)] at h2
    simp at h2
end Go.Proofs.YtjlgcpgjdgeejaaGreatDoor
end

section
open Go.ChangeShapes Go.WideShapes Go.ChangeAt Go.WideElems Go.RowKit
namespace Go.Proofs.YtjlgcpgjdgeejaaGreatDoor
set_option linter.unusedSimpArgs false
set_option linter.unusedVariables false
section
variable {H:Type} {enc:TypeId × Value→H}
theorem s8 {a:Assume} {C:Checked} {os:Os} {f:FuncId} {fn:Func} {s:ChangeSpec} {conds:List PathCond} {apart fresh handsOn again:Bool} {X:World→Array Value→Prop}
  (own:ownKnob C.prog.godebug=none) (started:os.Started) (noInit:C.prog.inits.idxOf? f=none) (hfn:C.prog.funcs[f]? = some fn)
  (witness:∃ (w:World) (tape:Tape) (i:Input),w.os=os∧(w.forCall tape i).Shaped C.prog∧i.vars=[]∧Input.okWide C.prog (w.forCall tape i) .any w.heap.size f i ∧
   ((s.pre enc C.prog fn conds apart (w.forCall tape i).memory i.args∧X (w.forCall tape i).memory i.args)∧sizedMet enc C.prog fn (OpenSpec.ofChange s) apart (w.forCall tape i).memory i.args)∧a.holds C.prog (lone (Frame.enter C.prog f i.args .normal) [] (w.forCall tape i)))
  (contract:∀ (W:World) (base:Nat) (args:Array Value) (ds gs:List (DataW H)) (before:List MemPlace),
   (∀ (j:Nat) t v,fn.params[j]? = some t→args[j]? = some v→Value.okWide C.prog W .any base t v) →
   DataW.Whole enc C.prog fn.params.toList s.vars apart W args.toList ds gs before →
   (DataW.weightsEach C.prog (fn.params.toList++s.plain.varTypes C.prog) (ds++gs)).all (·≤reachBytes)=true →
   W.ShapedOpen C.prog →
   Calls C.prog f args W fun e W'=>∃ v,e=.returned v∧s.post enc C.prog fn apart fresh handsOn again W args v W') :
  ReturnsInHanded a C os f .any (fun w args=>(s.pre enc C.prog fn conds apart w args∧X w args)∧sizedMet enc C.prog fn (OpenSpec.ofChange s) apart w args) (s.post enc C.prog fn apart fresh handsOn again):=by
 refine returnsInHanded_of_calls own started noInit witness ?_
 intro w tape i _ hsh _ hok hpre hholds
 obtain ⟨_,_,_,fn',hfn',_,_,_,_,hval⟩:=hok
 have e:fn'=fn:=Option.some.inj (hfn'.symm.trans hfn)
 subst e
 obtain ⟨⟨⟨ds,gs,before,hw,hc⟩,hx⟩,hz⟩:=hpre
 have hw':=DataW.Whole.of_heap (w':=w.forCall tape i) (by rfl) hw
 refine (contract (w.forCall tape i) w.heap.size i.args ds gs before hval hw' (hz.weights hw) hsh).mono fun e W' ⟨v,he,hp⟩=>?_
 subst he
 exact ChangeSpec.post_blind hp
theorem qX {P:Program} (hl:laidOutB P=true) {W W':World} {sp':Nat→Bool}:∀ {ts:List TypeId} {vs:List Value} {ds:List (DataW H)} {ps:List MemPlace},(∀ t∈ts,P.readableRec t=true∧t < P.types.size) →
  DataW.TrodAll enc P W 0 (fun _=>true) true ts vs ds ps→(∀ x∈ps,W.sameAt W' x)→(∀ x∈ps,sp' x.block=true)→DataW.TrodAll enc P W' 0 sp' true ts vs ds ps
 | [],_,_,_,_,h,_,_=>by
  obtain ⟨rfl,rfl,rfl⟩:=trodAll_nil h
  exact rfl
 | t::ts,_,_,_,ht,h,h1,h2=>by
  obtain ⟨v,vs1,d,ds1,a,b,rfl,rfl,rfl,h3,h4⟩:=trodAll_cons h
  obtain ⟨g1,g2⟩:=ht t (List.mem_cons_self ..)
  exact ⟨a,b,Trod_stays hl g1 g2 h3 (fun x hx=>h1 x (List.mem_append_left _ hx)) (fun x hx=>h2 x (List.mem_append_left _ hx)),
   qX hl (fun t' ht'=>ht t' (List.mem_cons_of_mem _ ht')) h4 (fun x hx=>h1 x (List.mem_append_right _ hx)) (fun x hx=>h2 x (List.mem_append_right _ hx)),rfl⟩
theorem EQ {P:Program} {f:Func} {s:ChangeSpec} {apart fresh handsOn again:Bool} {W W':World} {args:Array Value} {ds gs:List (DataW H)} {before:List MemPlace} {tb:TypeId}
  (hl:laidOutB P=true) (ht:∀ t∈f.params.toList,P.readableRec t=true∧t < P.types.size) (hW:DataW.Whole enc P f.params.toList s.vars apart W args.toList ds gs before) (hv:s.vars=[])
  (hfn:s.fn H (ds++gs)={ results:=[.lit (.bool true)],args:=ds }) (hr:f.resultTypes=#[tb]) (hb:P.underlying tb=some .bool) (h:Below W.heap.size W W') :
  s.post enc P f apart fresh handsOn again W args (.bool true) W':=by
 have hW0:=hW
 have hlt:∀ p∈before,p.block < W.heap.size:=fun p hp=>hW.lt p hp
 obtain ⟨pa,pv,hA,hV,hps,hz,hn⟩:=hW
 rw [hv] at hV
 obtain ⟨rfl,rfl⟩:=trodVars_none hV
 rw [List.append_nil] at hps
 subst hps
 have hargs:∀ sp:Nat→Bool,(∀ p∈before,sp p.block=true)→DataW.TrodAll enc P W' 0 sp true f.params.toList args.toList ds before:=fun sp hsp =>
  qX hl ht hA (fun x hx=>h.same (hlt x hx)) hsp
 have hres:∀ (b:Nat) (sp:Nat→Bool) (hd:Bool),DataW.TrodAll enc P W' b sp hd f.resultTypes.toList ((Value.bool true).resultList f.resultTypes.size) [.lit (.bool true)] []:=fun b sp hd=>by
  rw [hr]; exact trodAll_mk1 (shut_bool hb _)
 have hold:∀ p∈before,(fun b=>decide (b < W.heap.size)) p.block=true:=fun p hp=>by simpa using hlt p hp
 refine ⟨ds,[],before,[],before,[],hW0,?_,?_,?_,h.frame _,fun _=>⟨?_,?_⟩⟩
 ·rw [hfn]; exact hres _ _ _
 ·rw [hfn]; exact hargs _ hold
 ·rw [hfn,hv]; exact rfl
 ·exact ok_one (v:=.bool true) hr rfl (okWide_bool_mk hb _)
 ·refine ⟨_,[],([]++before)++[],⟨[]++before,[],trodAll_append (hargs _ (fun _ _=>rfl)) (hres _ _ _),by rw [hv]; exact rfl,rfl,?_,?_⟩,?_⟩
  ·intro b off hp
   have hp':MemPlace.cell b off∈before:=by simpa using hp
   have h1:b < W.heap.size:=hlt _ hp'
   rw [h.frozen (p:=⟨b,off,none⟩) h1]
   exact hz b off hp'
  ·intro ha
   simpa using hn ha
  ·intro p hp _
   simpa using hp
end
theorem C4 {P:Program} {f:FuncId} {fn:Func} {args:Array Value} {Γ:List Fact} (hf:P.funcs[f]? = some fn) (hb:fn.body.isNone=false) (hn:(fn.name == "runtime.NumGoroutine")=false)
  (h:Meets P (I0:av Empty Unit) (aa f args) tB (Pure.pure true) aJ Γ) (W:World) (hΓ:Holds Γ fun b=>W.heap[b]?) :
  Calls P f args W fun e W'=>e=.returned (.bool true)∧Below W.heap.size W W':=by
 have hsp:Split ⟨W,fun _=>none⟩ W [] (fun b=>W.heap[b]?):=⟨rfl,rfl,rfl,Nat.le_refl _,List.nodup_nil,(fun _ _ h=>nomatch h),(fun b o hb=>⟨hb,fun p hp=>nomatch hp⟩),(fun b o hb=>nomatch hb)⟩
 have h1:=h ⟨W,fun _=>none⟩ W (fun b=>W.heap[b]?) [] () (.ok true ()) rfl hΓ rfl hsp
 rw [eg hf hb hn] at h1
 refine Calls.mono h1 fun e W' he=>?_
 cases e with
 | returned v =>
  obtain ⟨F',hle,H',K,x,hv,_,hS,hK,hx⟩:=he
  have hx':x=true:=hx
  subst hx'
  cases hv
  refine ⟨rfl,hS.os,hS.tape,hS.output,hS.size,fun k hk=>?_⟩
  have hk':W.heap[k]? = some W.heap[k]:=Array.getElem?_eq_getElem hk
  rw [hk']
  exact (hS.frz k _ (hle k _ hk')).1
 | panicked c =>
  obtain ⟨F',hle,H',K,x,hv,_⟩:=he
  cases hv
 | outgrown=>exact he.elim
end Go.Proofs.YtjlgcpgjdgeejaaGreatDoor
end

section
open Go.ChangeShapes Go.WideShapes Go.ChangeAt Go.WideElems Go.RowKit
namespace Go.Proofs.YtjlgcpgjdgeejaaGreatDoor
open Go
set_option maxRecDepth 100000
theorem Lw:ownKnob Tryz.prog.godebug=none:=by kernel_rfl
theorem KU:laidOutB Tryz.prog=true:=by kernel_rfl
theorem Km:Tryz.prog.underlying 4=some .bool:=by kernel_rfl
theorem Kd {W:World} (h:W.ShapedOpen Tryz.prog):MxF.p fun b=>W.heap[b]?:=by
 obtain ⟨m,hm⟩:=cell_of_shapedOpen_int (g:=0) (t:=ak) (zero:=#[.int .i64 0]) (k:=.i64) h (of_decide_eq_true (by kernel_rfl)) (by kernel_rfl) rfl (by kernel_rfl) (by kernel_rfl) (by kernel_rfl)
 unfold World.cell? at hm
 simp only at hm
 cases hh:W.heap[0]? with
 | none=>rw [hh] at hm; cases hm
 | some o =>
  rw [hh] at hm
  cases o with
  | cells c t fr=>exact ⟨t,c,m,fr,hh,by simpa using hm⟩
  | _=>cases hm
theorem GA {fn:Func} {ts:Array TypeId} (h:fn.params=ts) (hall:(ts.toList.all fun t=>Tryz.prog.readableRec t&&decide (t < Tryz.prog.types.size))=true):∀ t∈fn.params.toList,Tryz.prog.readableRec t=true∧t < Tryz.prog.types.size:=by
 subst h
 intro t ht
 have:=List.all_eq_true.1 hall t ht
 rw [Bool.and_eq_true,decide_eq_true_eq] at this
 exact this
section
variable {H:Type} {enc:TypeId × Value→H}
end
end Go.Proofs.YtjlgcpgjdgeejaaGreatDoor
end

section
open Go.ChangeShapes Go.WideShapes Go.ChangeAt Go.WideElems Go.RowKit
namespace Go.Proofs.YtjlgcpgjdgeejaaGreatDoor
open Go
set_option linter.unusedSimpArgs false
set_option linter.unusedVariables false
set_option maxRecDepth 100000
theorem uk (os:Os) (args:Array Value):laidMetH Tryz.prog Rows.parseSplitsRow.laid ((World.laidAll Tryz.prog os Rows.parseSplitsRow.laid).forCall (fun _ _=>0) ⟨#[],args,[]⟩).memory:=by
 rw [MakeChecks.laidMetH_plain _ _ _ (by kernel_rfl)]
 exact laidMet_laidAll _ (by kernel_rfl) (by kernel_rfl)
theorem vY (os:Os) (H:Type) (enc:TypeId × Value→H):∃ (w:World) (tape:Tape) (i:Input),w.os=os∧(w.forCall tape i).Shaped Tryz.checked.prog∧i.vars=[]∧Input.okWide Tryz.checked.prog (w.forCall tape i) .any w.heap.size 12 i ∧
   ((Rows.parseSplitsSpec.pre enc Tryz.checked.prog Tryz.f12 [] false (w.forCall tape i).memory i.args∧laidMetH Tryz.prog Rows.parseSplitsRow.laid (w.forCall tape i).memory)∧sizedMet enc Tryz.checked.prog Tryz.f12 (OpenSpec.ofChange Rows.parseSplitsSpec) false (w.forCall tape i).memory i.args)∧({}:Assume).holds Tryz.checked.prog (lone (Frame.enter Tryz.checked.prog 12 i.args .normal) [] (w.forCall tape i)) :=
  ChangeSpec.witness_shaped (enc:=enc) (C:=Tryz.checked) (os:=os) (X:=fun w _=>laidMetH Tryz.prog Rows.parseSplitsRow.laid w) false (World.laidAll Tryz.prog os Rows.parseSplitsRow.laid) #[.int .i64 0,.bool false] 8 (World.laidAll_os _ _ _) (World.shaped_of_ZipB (by kernel_rfl) (by kernel_rfl)) (by kernel_rfl) (by kernel_rfl) (by kernel_rfl) (uk os _)
theorem sf (os:Os) (started:os.Started) (H:Type) (enc:TypeId × Value→H) :
  ReturnsInHanded {} Tryz.checked os 12 .any (fun w args=>(Rows.parseSplitsSpec.pre enc Tryz.prog Tryz.f12 [] false w args∧laidMetH Tryz.prog Rows.parseSplitsRow.laid w)∧sizedMet enc Tryz.prog Tryz.f12 (OpenSpec.ofChange Rows.parseSplitsSpec) false w args)
   (Rows.parseSplitsSpec.post enc Tryz.prog Tryz.f12 false true false false):=by
 refine s8 (C:=Tryz.checked) (X:=fun w _=>laidMetH Tryz.prog Rows.parseSplitsRow.laid w) Lw started (by kernel_rfl) Tryz.func12 (vY os H enc) ?_
 intro W base args ds gs before hval0 hW _ hsh
 have hval:∀ (j:Nat) t v,Tryz.f12.params[j]? = some t→args[j]? = some v→Value.okWide Tryz.prog W .any base t v:=hval0
 have hW':=hW
 obtain ⟨p,q,hA0,hV,rfl,hfz,hnd⟩:=hW
 have hA:DataW.TrodAll enc Tryz.prog W 0 (fun _=>true) true Tryz.f12.params.toList args.toList ds p:=hA0
 rw [Tryz.params12] at hA hval
 obtain ⟨v0,v1,d0,d1,p0,p1,rfl,rfl,rfl,h0,h1⟩:=trodAll_two hA
 obtain ⟨rfl,rfl⟩:=trodVars_none hV
 obtain ⟨a0,rfl,rfl,rfl,w0⟩:=open_int (k:=.i64) (show Tryz.prog.underlying 3=some (.int .i64) by kernel_rfl) (hval 0 3 v0 rfl rfl) h0
 obtain ⟨a1,rfl,rfl,rfl⟩:=open_bool (show Tryz.prog.underlying 4=some .bool by kernel_rfl) (hval 1 4 v1 rfl rfl) h1
 refine (C4 (args:=#[.int .i64 a0,.bool a1]) Tryz.func12 rfl rfl (HA a0 a1) W (fun A hA=>by obtain rfl:=List.mem_singleton.1 hA; exact Kd hsh)).mono fun e W' ⟨he,hbel⟩=>?_
 subst he
 exact ⟨_,rfl,EQ (tb:=4) KU (GA Tryz.params12 (by kernel_rfl)) hW' rfl rfl (by kernel_rfl) Km hbel⟩
theorem xo:joinedFacts Tryz.pinned.checked.prog 12 Tryz.f12 Rows.parseSplitsSpec Rows.parseSplitsRow=true:=by kernel_rfl
theorem pn:Tryz.pinned.checked.prog.funcNamed Rows.parseSplitsRow.func=some 12:=by kernel_rfl
theorem wV:Tryz.f12.isInstance Tryz.pinned.checked.prog Rows.parseSplitsRow.origin Rows.parseSplitsRow.targs:=of_decide_eq_true (by kernel_rfl)
theorem xD:Tryz.f12.isWrapper Tryz.pinned.checked.prog Rows.parseSplitsRow.wrapper Rows.parseSplitsRow.mainSum:=by unfold Func.isWrapper; first | (rw [if_pos (by decide +kernel)]; kernel_rfl) | (rw [if_neg (by decide +kernel)]; exact ⟨rfl,rfl⟩)
theorem wg:Rows.ParseSplitsSaid :=
 OpenClaim.holds_of_wide 12 Tryz.f12 rfl rfl rfl rfl rfl rfl rfl ⟨rfl,rfl,rfl,rfl,rfl⟩ rfl rfl rfl rfl rfl pn Tryz.func12 xo wV xD (fun os started H enc _=>sf os started H enc)
end Go.Proofs.YtjlgcpgjdgeejaaGreatDoor
end

section
namespace Go.Proofs.YtjlgcpgjdgeejaaGreatDoor
open Go
set_option maxRecDepth 100000
theorem xe (f:FuncId) (fn:Func) (hf:Tryz.prog.funcNamed "shuck/shucklaw4.ParseSplits" = some f) (hfn:Tryz.prog.funcs[f]? = some fn):f=12∧fn=Tryz.f12:=by
 obtain rfl:f=12:=Option.some.inj (hf.symm.trans pn)
 exact ⟨rfl,(Option.some.inj (Tryz.func12.symm.trans hfn)).symm⟩
theorem parseSplits_holds:Rows.ParseSplitsCardSaid :=
 Claim7.holds_tied_plain_at .later [] [.data,.data,.data,.data,.sentinel,.sentinel,.pinned] true (true, "fabbca7475e12f51d7834343e6111eabd2fa15b7b88547ffaa62aaa041ae6fe1") true
  wg (fun _ h=>by cases h) (by kernel_rfl) (fun _ h=>by cases h) parseSplits_row_tie rfl ⟨rfl,rfl⟩ (by kernel_rfl) rfl
  (fun f fn hf hfn=>by
   obtain ⟨rfl,rfl⟩:=xe f fn hf hfn
   exact ⟨by kernel_rfl,fun j t ht=>by
    rw [Tryz.params12] at ht
    have hm:t∈[3,4]:=by simpa using Array.mem_of_getElem? ht
    have hall:([3,4].all fun u=>!Tryz.prog.wantsStandIn u)=true:=by kernel_rfl
    exact (show Tryz.prog.wantsStandIn t=false by simpa using List.all_eq_true.1 hall t hm)⟩)
  (by kernel_rfl)
#print axioms parseSplits_holds
end Go.Proofs.YtjlgcpgjdgeejaaGreatDoor
end
