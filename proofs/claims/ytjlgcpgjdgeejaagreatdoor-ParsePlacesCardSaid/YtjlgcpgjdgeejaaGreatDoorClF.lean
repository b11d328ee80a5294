/- The claim: shuck/shucklaw4.ParsePlaces answers true whatever it is given, and what was there is as it was: the tied card. Conditions: those of the given row (the listed variables are laid as the program's text lays them). -/
import Derived.Test.YtjlgcpgjdgeejaaGreatDoorClE
import Derived.Carry
import Derived.HandedShaped
import Derived.LaidMore
import Derived.Lay
import Derived.OpenShut
import Derived.ProofKit
import Derived.SevenTiedAt
import Derived.Shelf.Vars
import Derived.Stop.Joined
import Derived.Test.YtjlgcpgjdgeejaaGreatDoorCards
import Derived.Test.YtjlgcpgjdgeejaaGreatDoorTie

section
namespace Go.Proofs.YtjlgcpgjdgeejaaGreatDoor
open Go
set_option linter.unusedSimpArgs false
set_option linter.unusedVariables false
set_option linter.constructorNameAsVariable false
set_option maxRecDepth 100000
theorem IA {p:Nat→Bool}:∀ n:Nat,(∃ j,j≤n∧p j=true)→∃ j,j≤n∧p j=true∧∀ k,k < j→p k=false
 | 0,⟨j,hj,hp⟩=>⟨j,hj,hp,fun k hk=>absurd hk (by omega)⟩
 | n+1,⟨j,hj,hp⟩=>by
  by_cases h:∃ j,j≤n∧p j=true
  ·obtain ⟨k,h1,h2,h3⟩:=IA n h
   exact ⟨k,by omega,h2,h3⟩
  ·refine ⟨j,hj,hp,fun k hk=>?_⟩
   cases hk2:p k with
   | false=>rfl
   | true=>exact absurd ⟨k,by omega,hk2⟩ h
theorem Fn {s x:List UInt8} (hx:x≠[]) (h:0≤Lib.index s x):(Lib.index s x).toNat+x.length≤s.length:=by
 by_cases ho:∃ j,j≤s.length∧Lib.occAt s x j=true
 ·obtain ⟨j,h1,h2,h3⟩:=IA (p:=Lib.occAt s x) s.length ho
  rw [Lib.index_first h1 h2 h3]
  rcases Lib.occAt_room h2 with h4 | h4
  ·simpa using h4
  ·exact absurd h4 hx
 ·rw [Lib.index_none fun j hj=>by
   cases hk:Lib.occAt s x j with
   | false=>rfl
   | true=>exact absurd ⟨j,hj,hk⟩ ho] at h
  omega
variable {b:ByteArray}
theorem pD:∀ (n i:Nat),b.size < n+i→i≤b.size→∃ j,gg b n i=some j∧i≤j∧j≤b.size
 | 0,i,h,hi=>absurd h (by omega)
 | n+1,i,h,hi=>by
  unfold gg
  by_cases h1:i < b.size
  ·rw [if_pos h1]
   split
   ·obtain ⟨j,h2,h3,h4⟩:=pD n (i+1) (by omega) (by omega)
    exact ⟨j,h2,by omega,h4⟩
   ·exact ⟨i,rfl,Nat.le_refl _,hi⟩
  ·rw [if_neg h1]; exact ⟨i,rfl,Nat.le_refl _,hi⟩
theorem nz:∀ (n i:Nat),b.size < n+i→i≤b.size→∃ j f,d2 b n i=some (j,f)∧i≤j∧j≤b.size
 | 0,i,h,hi=>absurd h (by omega)
 | n+1,i,h,hi=>by
  unfold d2
  by_cases h1:i < b.size
  ·rw [if_pos h1]
   split
   ·obtain ⟨j,f,h2,h3,h4⟩:=nz n (i+1) (by omega) (by omega)
    exact ⟨j,f,h2,by omega,h4⟩
   split
   ·rename_i h2
    have hle:=tg h2
    have hsz:k_sl_sl.size=2:=by kernel_rfl
    obtain ⟨k,g1,g2,g3⟩:=pD (b:=b) (b.size+1) i (by omega) hi
    rw [g1]
    simp only
    have hki:i < k:=by
     have hne:(aY b i != 10)=true:=by
      have h5:(b.extract i (i+2)).toList=k_sl_sl.toList:=by
       unfold dX at h2
       rw [Bool.and_eq_true,hsz] at h2
       exact eq_of_beq h2.2
      have h6:aY (b.extract i (i+2)) 0=47:=by rw [vx h5]; kernel_rfl
      have h7:aY (b.extract i (i+2)) 0=aY b i:=by
       have h8:=(xc (b:=b) (i:=i) (j:=i+2) (k:=0) (by omega) (by omega))
       obtain ⟨x1,x2,x3⟩:=h8
       rw [gj _ 0 x1,x3,gj b i h1]; rfl
      rw [← h7,h6]; rfl
     have e:gg b (b.size+1) i=gg b b.size (i+1):=by
      show (if i < b.size then (if aY b i != 10 then gg b b.size (i+1) else some i) else some i)=_
      rw [if_pos h1,if_pos hne]
     rw [e] at g1
     obtain ⟨k2,x1,x2,x3⟩:=pD (b:=b) b.size (i+1) (by omega) (by omega)
     rw [g1] at x1; cases x1; omega
    obtain ⟨j,f,h3,h4,h5⟩:=nz n k (by omega) g3
    exact ⟨j,f,h3,by omega,h5⟩
   split
   ·rename_i h2
    have hle:=tg h2
    have hsz:k_sl_star.size=2:=by kernel_rfl
    split
    ·exact ⟨i,false,rfl,Nat.le_refl _,hi⟩
    ·rename_i h3
     have h3':0≤oa (b.extract (i+2) b.size) k_star_sl:=by
      have:¬ oa (b.extract (i+2) b.size) k_star_sl < 0:=by simpa using h3
      omega
     have hr:=Fn (s:=(b.extract (i+2) b.size).data.toList) (x:=k_star_sl.data.toList) (by decide) h3'
     have hl1:(b.extract (i+2) b.size).data.toList.length=b.size - (i+2):=by rw [mq,ByteArray.size_extract]; omega
     have hl2:k_star_sl.data.toList.length=2:=by decide
     have hix:oa (b.extract (i+2) b.size) k_star_sl=Lib.index (b.extract (i+2) b.size).data.toList k_star_sl.data.toList:=rfl
     rw [if_pos (by rw [hix] at h3' ⊢; omega)]
     obtain ⟨j,f,h4,h5,h6⟩:=nz n (i+(oa (b.extract (i+2) b.size) k_star_sl+4).toNat) (by omega) (by rw [hix] at h3' ⊢; omega)
     exact ⟨j,f,h4,by omega,h6⟩
   ·exact ⟨i,true,rfl,Nat.le_refl _,hi⟩
  ·rw [if_neg h1]; exact ⟨i,true,rfl,Nat.le_refl _,hi⟩
theorem DG {i j k:Nat} (hj:j≤b.size) (hk:i+k < j):aY (b.extract i j) k=aY b (i+k):=by
 obtain ⟨x1,x2,x3⟩:=xc (b:=b) hj hk
 rw [gj _ k x1,x3,gj b (i+k) x2]
theorem tR:∀ (n i:Nat),b.size < n+i→i≤b.size→∃ j,fh b n i=some j∧i≤j∧j≤b.size∧∀ k,i≤k→k < j→(d1 (aY b k)||c6 (aY b k))=true
 | 0,i,h,hi=>absurd h (by omega)
 | n+1,i,h,hi=>by
  unfold fh
  by_cases h1:i < b.size
  ·rw [if_pos h1]
   split
   ·rename_i h2
    obtain ⟨j,g1,g2,g3,g4⟩:=tR n (i+1) (by omega) (by omega)
    refine ⟨j,g1,by omega,g3,fun k hk hj=>?_⟩
    by_cases hki:k=i
    ·subst hki; exact h2
    ·exact g4 k (by omega) hj
   ·exact ⟨i,rfl,Nat.le_refl _,hi,fun k h1 h2=>absurd h1 (by omega)⟩
  ·rw [if_neg h1]; exact ⟨i,rfl,Nat.le_refl _,hi,fun k h1 h2=>absurd h1 (by omega)⟩
structure jK (b:ByteArray) (i:Nat) (t:Tok):Prop where
 pos:t.pos=(i:Int)
 fin:(i:Int) < t.fin∧t.fin≤b.size
 kind:1≤t.kind∧t.kind≤9
 text:Bw t
 num:o8 t
 sign:t.kind=9→t.pos+t.text.size≤t.fin
theorem uh {i j:Nat} (h:i≤j) (hj:j≤b.size) (k:Int):(dy b k i j).text.size=j - i:=by
 show (b.extract i j).size=_
 rw [ByteArray.size_extract]; omega
theorem HQ (hb:b.size≤65536) {i:Nat} (hi:i < b.size) (hl:d1 (aY b i)=true):∃ t,nG b i=some t∧jK b i t:=by
 obtain ⟨j,g1,g2,g3,g4⟩:=tR (b:=b) b.size (i+1) (by omega) (by omega)
 have e:fh b (b.size+1) i=some j:=by
  show (if i < b.size then (if d1 (aY b i)||c6 (aY b i) then fh b b.size (i+1) else some i) else some i)=_
  rw [if_pos hi,hl,Bool.true_or,if_pos rfl,g1]
 have hw:nG b i=some (dy b (if iA (b.extract i j) then 2 else 1) i j):=by unfold nG; rw [e]; exact if_pos ⟨by omega,g3⟩
 have hsz:=uh (b:=b) (i:=i) (j:=j) (by omega) g3 (if iA (b.extract i j) then 2 else 1)
 refine ⟨_,hw,rfl,⟨by show (i:Int) < (j:Int); omega,by show (j:Int)≤_; omega⟩,?_,⟨fun hk=>?_,fun hk=>?_,fun hk=>?_,fun hk=>?_⟩,⟨fun hk=>?_,by omega⟩,fun hk=>?_⟩
 ·show 1≤(if iA (b.extract i j) then (2:Int) else 1)∧(if iA (b.extract i j) then (2:Int) else 1)≤9
  split<;>decide
 ·have hr:iA (b.extract i j)=false:=by
   have hk':(if iA (b.extract i j) then (2:Int) else 1)=1:=hk
   cases hh:iA (b.extract i j) with
   | false=>rfl
   | true=>rw [hh] at hk'; exact absurd hk' (by decide)
  show dZ (b.extract i j)=true
  unfold dZ
  have hz:(b.extract i j).size=j - i:=by rw [ByteArray.size_extract]; omega
  rw [Bool.and_eq_true]
  constructor
  ·have h0:((b.extract i j).toList==kE.toList)=false:=by
    cases hh:((b.extract i j).toList==kE.toList) with
    | false=>rfl
    | true =>
     have:=vx (eq_of_beq hh)
     rw [this] at hz
     have:kE.size=0:=rfl
     omega
   have h1:c6 (aY (b.extract i j) 0)=false:=by
    rw [DG g3 (by omega),Nat.add_zero]
    unfold d1 at hl
    unfold c6
    cases h2:decide (aY b i≥48)&&decide (aY b i≤57) with
    | false=>rfl
    | true =>
     simp only [Bool.and_eq_true,decide_eq_true_eq,Bool.or_eq_true,beq_iff_eq] at h2 hl
     omega
   rw [h0,h1,hr]; rfl
  ·refine List.all_eq_true.2 fun k hk=>?_
   have hk':=List.mem_range.1 hk
   rw [DG g3 (by omega)]
   by_cases hk0:k=0
   ·subst hk0; rw [Nat.add_zero,hl]; rfl
   ·exact g4 (i+k) (by omega) (by omega)
 all_goals
  have hk':(if iA (b.extract i j) then (2:Int) else 1)=1∨(if iA (b.extract i j) then (2:Int) else 1)=2:=by split<;>simp
  have hk2:(dy b (if iA (b.extract i j) then 2 else 1) i j).kind=(if iA (b.extract i j) then (2:Int) else 1):=rfl
  omega
theorem zC {i:Nat} (h:i < b.size) (hd:c6 (aY b i)=true):Lib.digitVal b[i]=some (bN b i - 48)∧48≤bN b i∧bN b i≤57:=by
 have e:=gj b i h
 have e2:bN b i=b[i].toNat:=by unfold bN; rw [e]; rfl
 unfold c6 at hd
 simp only [Bool.and_eq_true,decide_eq_true_eq] at hd
 have h1:48≤b[i].toNat∧b[i].toNat≤57:=by omega
 refine ⟨?_,by omega,by omega⟩
 unfold Lib.digitVal
 rw [if_pos h1,e2]
theorem CL {i j:Nat} (hi:i < j) (hj:j≤b.size):(b.extract i j).data.toList=b[i]::(b.extract (i+1) j).data.toList:=by
 have hl:i < b.data.toList.length:=by rw [mq]; omega
 have e:∀ k,(b.extract k j).data.toList=(b.data.toList.drop k).take (j - k):=fun k=>by
  rw [ByteArray.data_extract,Array.toList_extract,List.extract_eq_take_drop]
 rw [e i,e (i+1),List.drop_eq_getElem_cons hl,show j - i=(j - (i+1))+1 by omega,List.take_succ_cons]
 congr 1
theorem wR:∀ (n i X:Nat),b.size < n+i→i≤b.size→∃ j X',gp b n i (min X 9007199254740992:Nat)=some (j,((min X' 9007199254740992:Nat):Int))∧i≤j∧j≤b.size∧Lib.decFrom X (b.extract i j).data.toList=some X'
 | 0,i,X,h,hi=>absurd h (by omega)
 | n+1,i,X,h,hi=>by
  unfold gp
  rw [if_pos (by omega)]
  by_cases h1:i < b.size∧c6 (aY b i)=true
  ·rw [if_pos h1]
   obtain ⟨hv,h48,h57⟩:=zC h1.1 h1.2
   have hb:aY b i=(bN b i:Int):=vd b i
   have e:(if 9007199254740992 < ((min X 9007199254740992:Nat):Int) * 10+(aY b i - 48) then (9007199254740992:Int) else ((min X 9007199254740992:Nat):Int) * 10+(aY b i - 48))=((min (X * 10+(bN b i - 48)) 9007199254740992:Nat):Int):=by
    rw [hb]
    split<;>omega
   rw [e]
   obtain ⟨j,X',g1,g2,g3,g4⟩:=wR n (i+1) (X * 10+(bN b i - 48)) (by omega) (by omega)
   refine ⟨j,X',g1,by omega,g3,?_⟩
   rw [CL (by omega) g3]
   show (match Lib.digitVal b[i] with | some d=>Lib.decFrom (X * 10+d) _ | none=>none)=_
   rw [hv]; exact g4
  ·rw [if_neg h1]
   refine ⟨i,X,rfl,Nat.le_refl _,hi,?_⟩
   have:(b.extract i i).data.toList=[]:=by
    apply List.eq_nil_of_length_eq_zero; rw [mq,ByteArray.size_extract]; omega
   rw [this]; rfl
theorem vg:∀ (l:List UInt8) (a n:Nat),Lib.decFrom a l=some n→a * 10 ^ l.length≤n
 | [],a,n,h=>by cases h; simp
 | x::l,a,n,h=>by
  have h':(match Lib.digitVal x with | some d=>Lib.decFrom (a * 10+d) l | none=>none)=some n:=h
  cases hd:Lib.digitVal x with
  | none=>rw [hd] at h'; cases h'
  | some d =>
   rw [hd] at h'
   have:=vg l (a * 10+d) n h'
   rw [List.length_cons,Nat.pow_succ]
   have h2:a * (10 ^ l.length * 10)=a * 10 * 10 ^ l.length:=by rw [Nat.mul_comm (10 ^ l.length) 10,← Nat.mul_assoc]
   have h3:a * 10 * 10 ^ l.length≤(a * 10+d) * 10 ^ l.length:=Nat.mul_le_mul_right _ (by omega)
   omega
theorem EO (hb:b.size≤65536) {i:Nat} (hi:i < b.size) (hd:c6 (aY b i)=true):∃ t,iQ b i=some t∧(t=bt∨jK b i t):=by
 obtain ⟨hv,h48,h57⟩:=zC hi hd
 have hbi:aY b i=(bN b i:Int):=vd b i
 obtain ⟨j,X,g1,g2,g3,g4⟩:=wR (b:=b) b.size (i+1) (bN b i - 48) (by omega) (by omega)
 have e:gp b (b.size+1) i 0=some (j,((min X 9007199254740992:Nat):Int)):=by
  show (if (0:Int)≤0∧(0:Int)≤9007199254740992 then (if i < b.size∧c6 (aY b i)=true then gp b b.size (i+1) (if 9007199254740992 < 0 * 10+(aY b i - 48) then 9007199254740992 else 0 * 10+(aY b i - 48)) else some (i,0)) else none)=_
  rw [if_pos (by decide),if_pos ⟨hi,hd⟩,if_neg (by omega),show (0:Int) * 10+(aY b i - 48)=((min (bN b i - 48) 9007199254740992:Nat):Int) by omega,g1]
 have hn:iQ b i=some (if oE b i j ((min X 9007199254740992:Nat):Int) then bt else dy b 3 i j):=by unfold iQ; rw [e]; exact if_pos ⟨by omega,g3⟩
 refine ⟨_,hn,?_⟩
 cases hc:oE b i j ((min X 9007199254740992:Nat):Int) with
 | true=>exact .inl rfl
 | false =>
  refine .inr ?_
  rw [if_neg (by decide)]
  unfold oE at hc
  simp only [Bool.or_eq_false_iff,decide_eq_false_iff_not,Bool.and_eq_false_iff,beq_eq_false_iff_ne] at hc
  obtain ⟨⟨hX,h0⟩,_⟩:=hc
  have hX':X≤9007199254740991:=by omega
  have hsz:=uh (b:=b) (i:=i) (j:=j) (by omega) g3 3
  have hl:(b.extract i j).data.toList=b[i]::(b.extract (i+1) j).data.toList:=CL (by omega) g3
  have hat:Lib.atoi (b.extract i j).data.toList=some (X:Int):=by
   rw [hl]
   have e2:bN b i=b[i].toNat:=by unfold bN; rw [gj b i hi]; rfl
   have hne1:(b[i]==45)=false:=by
    cases hh:b[i]==45 with
    | false=>rfl
    | true=>have:=eq_of_beq hh; rw [this] at e2; have:bN b i=45:=e2; omega
   have hne2:(b[i]==43)=false:=by
    cases hh:b[i]==43 with
    | false=>rfl
    | true=>have:=eq_of_beq hh; rw [this] at e2; have:bN b i=43:=e2; omega
   show (if b[i]==45 then _ else if b[i]==43 then _ else (Lib.decNat (b[i]::(b.extract (i+1) j).data.toList)).map fun (m:Nat)=>(m:Int))=_
   rw [hne1,hne2,if_neg (by decide),if_neg (by decide)]
   have:Lib.decNat (b[i]::(b.extract (i+1) j).data.toList)=some X:=by
    show Lib.decFrom 0 (b[i]::_)=_
    show (match Lib.digitVal b[i] with | some d=>Lib.decFrom (0 * 10+d) _ | none=>none)=_
    rw [hv]; simpa using g4
   rw [this]; rfl
  have hnum:lp (dy b 3 i j).text=(X:Int):=by
   show (Lib.atoi (b.extract i j).data.toList).getD 0=_
   rw [hat]; rfl
  have hlen:j - i≤18:=by
   by_cases hz:bN b i=48
   ·rcases h0 with h0 | h0
    ·exact absurd (by rw [hbi,hz]; rfl) h0
    ·omega
   ·have h1:=vg _ _ _ g4
    have h2:(b.extract (i+1) j).data.toList.length=j - (i+1):=by rw [mq,ByteArray.size_extract]; omega
    rw [h2] at h1
    by_cases h18:j - i≤18
    ·exact h18
    ·exfalso
     have h3:10 ^ 17≤10 ^ (j - (i+1)):=Nat.pow_le_pow_right (by decide) (by omega)
     have h4:1 * 10 ^ (j - (i+1))≤(bN b i - 48) * 10 ^ (j - (i+1)):=Nat.mul_le_mul_right _ (by omega)
     omega
  refine ⟨rfl,⟨by show (i:Int) < (j:Int); omega,by show (j:Int)≤_; omega⟩,by show (1:Int)≤3∧(3:Int)≤9; decide,⟨fun hk=>?_,fun hk=>by rw [hnum]; omega,fun hk=>?_,fun hk=>?_⟩,⟨fun hk=>⟨by rw [hsz]; exact hlen,?_⟩,by omega⟩,fun hk=>?_⟩
  ·exact absurd hk (by show ¬ (3:Int)=1; decide)
  ·exact absurd hk (by show ¬ ((3:Int)=4∨(3:Int)=5∨(3:Int)=6∨(3:Int)=7∨(3:Int)=8); decide)
  ·exact absurd hk (by show ¬ (3:Int)=9; decide)
  ·show (Lib.atoi (b.extract i j).data.toList).isSome=true; rw [hat]; rfl
  ·exact absurd hk (by show ¬ (3:Int)=9; decide)
theorem CM (i:Nat):∀ (f k:Nat),3 < f+k→k≤3→∃ r,fv b i f k=some r∧(r=none∨∃ k',k' < 3∧i+(3 - k')≤b.size∧r=some (dy b 9 i (i+(3 - k'))))
 | 0,k,h,hk=>by
  omega
 | f+1,k,h,hk=>by
  unfold fv
  by_cases h1:k < 3
  ·rw [if_pos h1]
   have ih:=CM i f (k+1) (by omega) (by omega)
   split
   ·exact ih
   split
   ·exact ih
   split
   ·exact ih
   ·rename_i h2 h3 h4
    exact ⟨_,rfl,.inr ⟨k,h1,by
     have h5:¬ (b.size:Int) - i < 3 - (k:Int):=fun h=>h2 (decide_eq_true h)
     omega,rfl⟩⟩
  ·rw [if_neg h1]; exact ⟨none,rfl,.inl rfl⟩
theorem uK {i k:Nat} (hk:k < 3) (hi:i+(3 - k)≤b.size):jK b i (dy b 9 i (i+(3 - k))):=by
 have hsz:=uh (b:=b) (i:=i) (j:=i+(3 - k)) (by omega) hi 9
 refine ⟨rfl,⟨by show (i:Int) < ((i+(3 - k):Nat):Int); omega,by show ((i+(3 - k):Nat):Int)≤_; omega⟩,by show (1:Int)≤9∧(9:Int)≤9; decide,⟨fun h=>?_,fun h=>?_,fun h=>?_,fun h=>by omega⟩,⟨fun h=>?_,by omega⟩,fun h=>?_⟩
 ·exact absurd h (by show ¬ (9:Int)=1; decide)
 ·exact absurd h (by show ¬ (9:Int)=3; decide)
 ·exact absurd h (by show ¬ ((9:Int)=4∨(9:Int)=5∨(9:Int)=6∨(9:Int)=7∨(9:Int)=8); decide)
 ·exact absurd h (by show ¬ (9:Int)=3; decide)
 ·show (i:Int)+((dy b 9 i (i+(3 - k))).text.size:Int)≤((i+(3 - k):Nat):Int); omega
theorem xh {i:Nat} {t:Tok} (hb:b.size≤65536) (h:wQ b i t) (hk:4≤t.kind∧t.kind≤8):jK b i t :=
 ⟨h.pos,h.fin,by omega,⟨fun h=>by omega,fun h=>by omega,fun _=>h.good,fun h=>by omega⟩,⟨fun h=>by omega,by have:=h.size; omega⟩,fun h=>by omega⟩
theorem Fs (hb:b.size≤65536) (st:cM) (hi:st.pos < b.size) (ho:st.opn.length < 1048576):∃ t st',eN b (aY b st.pos) st=some (t,st')∧(t=bt∨jK b st.pos t)∧st'.pos=st.pos∧st'.opn.length≤st.opn.length+1:=by
 unfold eN
 split
 ·rename_i h1
  obtain ⟨t,g1,g2⟩:=HQ hb hi h1
  exact ⟨t,st,by rw [g1]; rfl,.inr g2,rfl,by omega⟩
 split
 ·rename_i h1 h2
  obtain ⟨t,g1,g2⟩:=EO hb hi h2
  exact ⟨t,st,by rw [g1]; rfl,g2,rfl,by omega⟩
 split
 ·refine ⟨_,st,rfl,?_,rfl,by omega⟩
  rcases EB b (aY b st.pos) st.pos with h | ⟨h1,h2⟩
  ·exact .inl h
  ·exact .inr (xh hb h2 (by omega))
 split
 ·have ht:dq b 5 6 st.pos=bt∨jK b st.pos (dq b 5 6 st.pos):=by
   rcases zO b 5 6 st.pos with h | ⟨h1,h2⟩
   ·exact .inl h
   ·exact .inr (xh hb h2 (by omega))
  unfold sW
  split
  ·exact ⟨_,_,rfl,ht,rfl,by simp⟩
  ·exact ⟨_,_,rfl,ht,rfl,by omega⟩
 split
 ·have ht:dq b 8 7 st.pos=bt∨jK b st.pos (dq b 8 7 st.pos):=by
   rcases zO b 8 7 st.pos with h | ⟨h1,h2⟩
   ·exact .inl h
   ·exact .inr (xh hb h2 (by omega))
  refine ⟨_,_,rfl,ht,?_,?_⟩
  ·show (if _ then _ else _:cM).pos=_
   split<;>rfl
  ·show (if _ then _ else _:cM).opn.length≤_
   split
   ·simp; omega
   ·omega
 ·obtain ⟨r,h1,h2⟩:=CM (b:=b) st.pos 4 0 (by omega) (by omega)
  unfold qF
  rw [h1]
  rcases h2 with rfl | ⟨k,hk,hk2,rfl⟩
  ·exact ⟨bt,st,rfl,.inl rfl,rfl,by omega⟩
  ·simp only
   unfold nF
   split
   ·exact ⟨_,_,rfl,.inr (uK hk hk2),rfl,by simp⟩
   split
   ·exact ⟨_,_,rfl,.inr (uK hk hk2),rfl,by simp; omega⟩
   ·exact ⟨_,_,rfl,.inr (uK hk hk2),rfl,by simp⟩
inductive vn (b:ByteArray) (st:cM):Tok→Bool→cM→Prop
 | bad (p:Nat) (st':cM):p≤b.size→vn b st ⟨0,kE,p,0,()⟩ false st'
 | fin (st':cM):vn b st ⟨10,kE,b.size,b.size,()⟩ true st'
 | tok (p:Nat) (t:Tok) (st':cM):st.pos≤p→jK b p t→(st'.pos:Int)=t.fin→st'.opn.length≤st.opn.length+1→vn b st t true st'
theorem HO (hb:b.size≤65536) (st:cM) (hi:st.pos≤b.size) (ho:st.opn.length < 1048576):∃ t ok st',pk b st=some ((t,ok),st')∧vn b st t ok st':=by
 obtain ⟨j,f,g1,g2,g3⟩:=nz (b:=b) (b.size+1) st.pos (by omega) hi
 unfold pk
 rw [g1]
 cases f with
 | false=>exact ⟨_,_,_,rfl,.bad j _ g3⟩
 | true =>
  simp only [Bool.not_true,if_neg (show ¬ false=true by decide)]
  by_cases hj:j=b.size
  ·rw [if_pos hj]
   subst hj
   exact ⟨_,_,_,rfl,.fin _⟩
  ·rw [if_neg hj]
   obtain ⟨t,st',h1,h2,h3,h4⟩:=Fs hb { st with pos:=j } (by show j < b.size; omega) ho
   rw [show eN b (aY b j) { st with pos:=j }=some (t,st') from h1]
   simp only
   unfold EY
   have h3':st'.pos=j:=h3
   rcases h2 with rfl | h2
   ·rw [if_pos (by rfl),h3']
    exact ⟨_,_,_,rfl,.bad j _ g3⟩
   ·have h5:jK b j t:=h2
    have h6:=h5.fin
    rw [if_neg (by have:=h5.kind; intro h; have:=eq_of_beq h; omega),if_pos (by omega)]
    exact ⟨_,_,_,rfl,.tok j t _ g2 h5 (by show ((t.fin.toNat:Nat):Int)=t.fin; omega) h4⟩
structure TokRow (b:ByteArray) (p:Nat) (l:List Tok):Prop where
 all:∀ (i:Nat) (t:Tok),l[i]? = some t→∃ q,jK b q t∧t.fin≤p
 step:∀ (i:Nat) (t u:Tok),l[i]? = some t→l[i+1]? = some u→t.fin≤u.pos
theorem TokRow.snoc {p q:Nat} {l:List Tok} {t:Tok} (h:TokRow b p l) (hq:p≤q) (ht:jK b q t) {p':Nat} (hp:(p':Int)=t.fin):TokRow b p' (l++[t]):=by
 have hf:=ht.fin
 constructor
 ·intro i u hu
  by_cases hi:i < l.length
  ·rw [List.getElem?_append_left hi] at hu
   obtain ⟨q2,h1,h2⟩:=h.all i u hu
   exact ⟨q2,h1,by omega⟩
  ·rw [List.getElem?_append_right (by omega)] at hu
   have hi2:i - l.length=0:=by have:=(List.getElem?_eq_some_iff.1 hu).1; simp at this; omega
   rw [hi2] at hu; simp at hu; subst hu
   exact ⟨q,ht,by omega⟩
 ·intro i u v hu hv
  have hi:i+1 < l.length+1:=by have:=(List.getElem?_eq_some_iff.1 hv).1; simpa using this
  rw [List.getElem?_append_left (by omega)] at hu
  by_cases hi2:i+1 < l.length
  ·rw [List.getElem?_append_left hi2] at hv
   exact h.step i u v hu hv
  ·rw [List.getElem?_append_right (by omega),show i+1 - l.length=0 by omega] at hv
   simp at hv; subst hv
   obtain ⟨q2,h1,h2⟩:=h.all i u hu
   have:=ht.pos
   omega
def zF (b:ByteArray) (r:Sum (Int × Int) (List Tok)):Prop:=match r with
 | .inl (p,e)=>0≤p∧p≤b.size∧(e=3∨e=4)
 | .inr l=>∃ l' p,l=l'++[⟨10,kE,b.size,b.size,()⟩]∧TokRow b p l'∧l'.length≤8192
theorem u5 (hb:b.size≤65536):∀ (f n:Nat) (s:cM) (acc:List Tok),f+n=8194→n≤8192→s.pos≤b.size→s.opn.length≤n→acc.length=n→TokRow b s.pos acc →
  ∃ st',fu eQ b f n s ⟨acc,none⟩=some (.ok () st')∧zF b (match st'.fin with | some x=>.inl x | none=>.inr st'.acc)
 | 0,n,s,acc,h,hn,hs,ho,ha,hr=>by omega
 | f+1,n,s,acc,h,hn,hs,ho,ha,hr=>by
  obtain ⟨t,ok,s',h1,h2⟩:=HO hb s hs (by omega)
  unfold fu
  rw [h1]
  simp only
  have put:∀ u:Tok,eQ u 0 ⟨acc,none⟩=some (.ok true ⟨acc++[u],none⟩):=fun u=>by
   unfold eQ
   rw [if_neg (show ¬ (none:Option (Int × Int)).isSome=true by decide),if_neg (by decide),if_pos (by show acc.length≤65536; omega)]
  cases h2 with
  | bad p _ hp =>
   refine ⟨⟨acc,some ((p:Int),3)⟩,rfl,?_⟩
   show 0≤(p:Int)∧(p:Int)≤b.size∧((3:Int)=3∨_)
   exact ⟨by omega,by omega,.inl rfl⟩
  | fin _ =>
   rw [if_neg (by decide),if_neg (by simp [Tok.kind])]
   refine ⟨⟨acc++[⟨10,kE,b.size,b.size,()⟩],none⟩,?_,acc,s.pos,rfl,hr,by omega⟩
   show Sp.bind (eQ _ 0) _ _=_
   unfold Sp.bind
   rw [put]
   rfl
  | tok p t _ hp ht hf hol =>
   rw [if_neg (by decide)]
   have hk:=ht.kind
   have hpos:=ht.pos
   have hfin:=ht.fin
   have hne:(t.kind != 10)=true:=by simp; omega
   rw [hne,Bool.and_true]
   by_cases h8:n=8192
   ·rw [if_pos (by simpa using h8)]
    refine ⟨⟨acc,some (t.pos,4)⟩,rfl,?_⟩
    show 0≤t.pos∧t.pos≤b.size∧((4:Int)=3∨(4:Int)=4)
    exact ⟨by omega,by omega,.inr rfl⟩
   ·rw [if_neg (by simpa using h8)]
    obtain ⟨st',g1,g2⟩:=u5 hb f (n+1) s' (acc++[t]) (by omega) (by omega) (by omega) (by omega) (by simp; omega) (hr.snoc (by omega) ht (by omega))
    refine ⟨st',?_,g2⟩
    show Sp.bind (eQ _ 0) _ _=_
    unfold Sp.bind
    rw [put]
    have hne2:(t.kind==10)=false:=by simp; omega
    show (if (!true)=true then _ else if (t.kind==10)=true then _ else _:Sp Empty KO Unit) _=_
    rw [if_neg (by decide),hne2,if_neg (by decide)]
    exact g1
theorem E8 (hb:b.size≤65536):∃ r,fb b=some r∧zF b r:=by
 obtain ⟨st',h1,h2⟩:=u5 hb 8194 0 ⟨0,[]⟩ [] (by omega) (by omega) (Nat.zero_le _) (Nat.le_refl _) rfl ⟨fun i t h=>by simp at h,fun i t u h=>by simp at h⟩
 refine ⟨_,?_,h2⟩
 unfold fb kp
 rw [if_neg (by omega),h1]
 rfl
theorem KQ (hb:b.size≤65536) {l':List Tok} {p:Nat} (h:TokRow b p l'):B8 b.size (l'++[⟨10,kE,b.size,b.size,()⟩]):=by
 have hat:∀ (i:Nat) (t:Tok),(l'++[(⟨10,kE,b.size,b.size,()⟩:Tok)])[i]? = some t→(i < l'.length∧∃ q,jK b q t∧t.fin≤p∧l'[i]? = some t)∨(i=l'.length∧t=⟨10,kE,b.size,b.size,()⟩):=fun i t ht=>by
  by_cases hi:i < l'.length
  ·rw [List.getElem?_append_left hi] at ht
   obtain ⟨q,h1,h2⟩:=h.all i t ht
   exact .inl ⟨hi,q,h1,h2,ht⟩
  ·rw [List.getElem?_append_right (by omega)] at ht
   have hi2:i - l'.length=0:=by have:=(List.getElem?_eq_some_iff.1 ht).1; simp at this; omega
   rw [hi2] at ht; simp at ht
   exact .inr ⟨by omega,ht.symm⟩
 refine ⟨by simp,fun i t ht hi=>?_,fun i t ht hi=>?_,fun i t ht=>?_,fun i t u ht hu=>?_,fun i t ht=>?_,by omega⟩
 ·rcases hat i t ht with ⟨_,q,h1,_⟩ | ⟨h1,_⟩
  ·have:=h1.kind; omega
  ·simp at hi; omega
 ·rcases hat i t ht with ⟨h0,_⟩ | ⟨_,rfl⟩
  ·simp at hi; omega
  ·rfl
 ·rcases hat i t ht with ⟨_,q,h1,_⟩ | ⟨_,rfl⟩
  ·have:=h1.pos; have:=h1.fin; omega
  ·show 0≤(b.size:Int)∧(b.size:Int)≤b.size; omega
 ·rcases hat i t ht with ⟨h0,q,h1,h2,h3⟩ | ⟨h1,rfl⟩
  ·have hp:=h1.pos
   have hf:=h1.fin
   have hs:=h1.sign
   rcases hat (i+1) u hu with ⟨g0,q2,g1,g2,g3⟩ | ⟨g1,rfl⟩
   ·have:=h.step i t u h3 g3
    exact ⟨by omega,fun hk=>by have:=hs hk; omega⟩
   ·show t.pos≤(b.size:Int)∧(t.kind=9→t.pos+t.text.size≤(b.size:Int))
    exact ⟨by omega,fun hk=>by have:=hs hk; omega⟩
  ·have:=(List.getElem?_eq_some_iff.1 hu).1; simp at this; omega
 ·rcases hat i t ht with ⟨_,q,h1,_⟩ | ⟨_,rfl⟩
  ·exact h1.text
  ·have hk:Tok.kind (⟨10,kE,b.size,b.size,()⟩:Tok)=10:=rfl
   exact ⟨fun h=>by omega,fun h=>by omega,fun h=>by omega,fun h=>by omega⟩
end Go.Proofs.YtjlgcpgjdgeejaaGreatDoor
end

section
namespace Go.Proofs.YtjlgcpgjdgeejaaGreatDoor
open Go
set_option linter.unusedSimpArgs false
set_option linter.unusedVariables false
set_option linter.constructorNameAsVariable false
set_option maxRecDepth 100000
theorem BA (m:Int):∀ (l:List Tok) (i:Nat) (n d f:Int),(f < 0∨f.toNat < i)→0≤(c9 m l i n d f).2→(c9 m l i n d f).2.toNat < i+l.length
 | [],i,n,d,f,h,h0=>by
  show (f:Int).toNat < i+0
  have h0':0≤f:=h0
  omega
 | t::l,i,n,d,f,h,h0=>by
  have e:c9 m (t::l) i n d f=c9 m l (i+1) (if n+cy t > 0 then n+cy t else 0) (if (if n+cy t > 0 then n+cy t else 0) > d then (if n+cy t > 0 then n+cy t else 0) else d) (if (if n+cy t > 0 then n+cy t else 0) > m∧f < 0 then (i:Int) else f):=rfl
  rw [e] at h0 ⊢
  have ih:=BA m l (i+1) _ _ (if (if n+cy t > 0 then n+cy t else 0) > m∧f < 0 then (i:Int) else f) (by
   by_cases hc:(if n+cy t > 0 then n+cy t else 0) > m∧f < 0
   ·rw [if_pos hc]; omega
   ·rw [if_neg hc]; omega) h0
  rw [List.length_cons]
  omega
section
variable {B:Int} {l:List Tok} {s:PSt} {R:a6} {M1 M2:Nat}
theorem Kb (h:B8 B l):bV B l (gn l):=⟨h,rfl,h.len,fun h=>by cases h⟩
theorem MC (h:0 < l.length):mu (gn l)≤4 * l.length:=by
 unfold mu gn
 show 4 * (l.length - 1 - 0)+(if false=true then _ else 3)≤_
 rw [if_neg (by decide)]
 omega
theorem GD (hR:bU B l R M1 M2) (hB:0≤B):∀ (k:Nat) (s:PSt) (ks:List N),bV B l s→mu s < k→mu s < M2→(∀ x∈ks,Nd B 0 x∧aQ .stmt x) →
  W B (sZ R k (aE 3 kE 0 0 ks)) s fun n s'=>bV B l s'∧Nd B 0 n∧n.kind=3
 | 0,s,ks,hs,hk,hM,hks=>absurd hk (Nat.not_lt_zero _)
 | k+1,s,ks,hs,hk,hM,hks=>by
  have hn:=bq hs
  refine ah (cA ?_)
  refine bY (fun _=>?_) fun _=>aH ⟨hs,MB (Int.le_refl _) hB hks,rfl⟩
  refine ah ((hR.statement s hs hM).mono ?_)
  rintro x s1 ⟨⟨i1,m1,n1⟩,hx,hkx⟩
  refine GD hR hB k s1 (ks++[x]) i1 (by omega) (by omega) fun y hy=>?_
  rcases List.mem_append.1 hy with hy | hy
  ·exact hks y hy
  ·obtain rfl:=List.mem_singleton.1 hy; exact ⟨hx.le hn.1,hkx⟩
theorem Lh (hR:bU B l R M1 M2) (hB:0≤B) (h:B8 B l) (h1:4 * l.length < M2):W B (lO R 0) (gn l) fun n s'=>bV B l s'∧Nd B 0 n∧n.kind=3:=by
 have h0:=MC h.len
 have hf:=hR.fuel
 refine ah ((GD hR hB R.fuel (gn l) [] (Kb h) (by omega) (by omega) (fun _ h=>nomatch h)).mono ?_)
 rintro n s1 ⟨i1,hn⟩
 refine ah (cA ?_)
 exact bY (fun _=>fM i1) fun _=>aH ⟨i1,hn⟩
end
variable {b:ByteArray}
def KD (b:ByteArray) (r:Sum Int (List FN)):Prop:=match r with
 | .inl p=>0≤p∧p≤b.size
 | .inr ns=>∃ n,ns=eI 0 n∧Nd b.size 0 n∧n.kind=3∧n.size≤300000
theorem IZ {k:Nat} {l:List Tok} {n:N} {s':PSt} (h:lO (de k) 0 (gn l)=some (.ok n s')) (hn:n.size≤549755813888):kF k l 0=some (.inr (eI 0 n)):=by
 unfold kF
 rw [h]
 show (if n.size≤549755813888 then some (Sum.inr (dO n.size [(n,-1)] [])) else none)=_
 rw [if_pos hn,Gm]
theorem Ha {k:Nat} {l:List Tok} {e:Int} (h:lO (de k) 0 (gn l)=some (.err e)):kF k l 0=some (.inl e):=by
 unfold kF
 rw [h]
theorem I1 {k:Nat} (hk:40000≤k) {l:List Tok} (h:B8 b.size l) (hl:l.length≤8193):∃ r,kF (2 * k) l 0=some r∧KD b r:=by
 have hR:bU b.size l (de (2 * k)) k k:=(IP (B:=b.size) (l:=l) k).1
 have hw:=Lh hR (by omega) h (by omega)
 unfold W at hw
 cases hr:lO (de (2 * k)) 0 (gn l) with
 | none=>rw [hr] at hw; exact hw.elim
 | some r =>
  rw [hr] at hw
  cases r with
  | err e=>exact ⟨.inl e,Ha hr,hw⟩
  | ok n s' =>
   obtain ⟨i1,hn,hk⟩:bV b.size l s'∧Nd b.size 0 n∧n.kind=3:=hw
   have hz:=Lk (Kb h) hr
   exact ⟨.inr (eI 0 n),IZ hr (by omega),n,rfl,hn,hk,by omega⟩
def CB (b:ByteArray) (r:Sum (Int × Int) (List FN)):Prop:=match r with
 | .inl (p,e)=>0≤p∧p≤b.size∧3≤e∧e≤6
 | .inr ns=>∃ n,ns=eI 0 n∧Nd b.size 0 n∧n.kind=3∧n.size≤300000
theorem KZ {l':List Tok} {p:Nat} (h:TokRow b p l') (hl:l'.length≤8192):Bv (l'++[⟨10,kE,b.size,b.size,()⟩])=true:=by
 unfold Bv
 simp only [Bool.and_eq_true,decide_eq_true_eq,List.length_append,List.length_singleton]
 refine ⟨⟨by omega,by omega⟩,List.all_eq_true.2 fun t ht=>?_⟩
 have key:o8 t:=by
  rcases List.mem_append.1 ht with ht | ht
  ·obtain ⟨i,hi⟩:=List.mem_iff_getElem?.1 ht
   obtain ⟨q,h1,_⟩:=h.all i t hi
   exact h1.num
  ·obtain rfl:=List.mem_singleton.1 ht
   have h0:kE.size=0:=by kernel_rfl
   exact ⟨fun h=>absurd (show (10:Int)=3 from h) (by decide),show kE.size≤4194304 by omega⟩
 unfold vb
 rw [Bool.and_eq_true,decide_eq_true_eq,Bool.or_eq_true,Bool.and_eq_true,decide_eq_true_eq]
 refine ⟨?_,key.2⟩
 by_cases h3:t.kind=3
 ·exact .inr (key.1 h3)
 ·exact .inl (by simpa using h3)
theorem GN {k:Nat} (hk:40000≤k) (hb:b.size≤65536):∃ r,iG (2 * k) b 0=some r∧CB b r:=by
 obtain ⟨r,h1,h2⟩:=E8 hb
 unfold iG
 rw [h1]
 cases r with
 | inl p =>
  obtain ⟨p,e⟩:=p
  obtain ⟨g1,g2,g3⟩:0≤p∧p≤b.size∧(e=3∨e=4):=h2
  refine ⟨.inl (p,e),if_pos ?_,g1,g2,by omega,by omega⟩
  show (e != 0)=true
  simp; omega
 | inr l =>
  obtain ⟨l',p,rfl,hr,hl⟩:∃ (l':List Tok) (p:Nat),l=l'++[(⟨10,kE,b.size,b.size,()⟩:Tok)]∧TokRow b p l'∧l'.length≤8192:=h2
  have htk:=KQ hb hr
  have hlen:(l'++[(⟨10,kE,b.size,b.size,()⟩:Tok)]).length≤8193:=by simp; omega
  generalize hL:l'++[(⟨10,kE,b.size,b.size,()⟩:Tok)]=L at htk hlen
  show ∃ r,(if Bv L=true then _ else none)=some r∧_
  rw [if_pos (by rw [← hL]; exact KZ hr hl)]
  by_cases hd:(c9 64 L 0 0 0 (-1)).2≥0
  ·rw [if_pos (by simpa using hd)]
   have hi:=BA 64 L 0 0 0 (-1) (.inl (by decide)) hd
   have hi':(c9 64 L 0 0 0 (-1)).2.toNat < L.length:=by omega
   have hg:=List.getElem?_eq_getElem hi'
   rw [hg]
   have hp:=htk.pos _ _ hg
   exact ⟨_,rfl,hp.1,hp.2,by decide,by decide⟩
  ·rw [if_neg (by simpa using hd)]
   obtain ⟨r,g1,g2⟩:=I1 hk htk hlen
   rw [g1]
   cases r with
   | inl p=>exact ⟨_,rfl,g2.1,g2.2,by decide,by decide⟩
   | inr ns=>exact ⟨_,rfl,g2⟩
theorem GR (hb:b.size≤65536):∃ f,f≤549755813888∧∃ r,iG f b 0=some r∧CB b r:=⟨2 * 40000,by decide,GN (k:=40000) (Nat.le_refl _) hb⟩
theorem zu:∀ l:List N,l.length≤N.sizes l
 | []=>Nat.le_refl _
 | x::l=>by
  have h1:=zu l
  have h2:1≤x.size:=by rw [N.size_eq]; omega
  show l.length+1≤x.size+N.sizes l
  omega
theorem zD:∀ (l:List N) (x:N),x∈l→x.size≤N.sizes l
 | y::l,x,h=>by
  show x.size≤y.size+N.sizes l
  rcases List.mem_cons.1 h with rfl | h
  ·omega
  ·have:=zD l x h; omega
theorem IL {n:N}:∀ x∈eI 0 n,x.kids.length≤n.size:=fun x hx=>by
 obtain ⟨i,hi⟩:=List.mem_iff_getElem?.1 hx
 obtain ⟨m,hm,hl⟩:=yG n (eI 0 n) 0 (fun m=>m.size≤n.size) (fun i x h=>by rw [Nat.zero_add]; exact h) (fun m hm x hx=>by
  have:=zD _ x hx
  have:=N.size_eq m
  omega) (Nat.le_refl _) i x hi
 obtain ⟨y,h1,_,_,_,_,h2⟩:=hl.node
 rw [Nat.zero_add,hi] at h1
 cases h1
 rw [h2,vE]
 have:=zu m.kids
 have:=N.size_eq m
 omega
end Go.Proofs.YtjlgcpgjdgeejaaGreatDoor
end

section
namespace Go.Proofs.YtjlgcpgjdgeejaaGreatDoor
open Go
set_option linter.unusedSimpArgs false
set_option linter.unusedVariables false
set_option linter.constructorNameAsVariable false
set_option maxRecDepth 100000
section
variable {ε σ β:Type} {I:aN ε σ} {t:Ty} {Rel:β→t.den→ak→Fact} {Δ Δ1:Labels ε σ β} {md:cS} {L Lq:ak} {Γ Γq:List Fact} {st:σ} {run:Option (Res ε σ β)}
theorem Kj {l:Nat} {vs:List Value} (e:Δ l=Δ1 l) (h:ay PG I t Rel Δ1 md st (.out l vs) run L Γ):ay PG I t Rel Δ md st (.out l vs) run L Γ:=fun H r w F res S hs hΓ hsp hq=>by
 have h2:=h H r w F res S hs hΓ hsp hq
 simp only [T.wp] at h2 ⊢
 rw [e]; exact h2
theorem IY {x:aV} {es:List E} {b:Nat} {e:E} {i:Int} (n:Nat) {k:Addr→T} (hb:EL b x∈Γ) (hT:Rw 5 f9 x es∈Γ) (hi:i=n) (he:es[n]? = some e) (hk:∀ b2,ay PG I t Rel Δ none st (k ⟨b2,0,none⟩) run L (Ev b2 e::Γ)) :
  ay PG I t Rel Δ md st (.op (am bf (.pointer (some ⟨b,0,none⟩))) ai fun r2=>.op (bQ bf (.slice r2.1 r2.2.1 r2.2.2) (.int .i64 i)) tA fun r3=>.op (am ci (.pointer (some r3))) (.c (.agg [.int .i64,.str,.int .i64,.slice,.int .i64])) fun r4 =>
   .op (bD ci) tA fun r5=>.op (a7 ci (.pointer (some r5)) (.agg #[.int .i64 r4.1,.string r4.2.1,.int .i64 r4.2.2.1,.slice r4.2.2.2.1.1 r4.2.2.2.1.2.1 r4.2.2.2.1.2.2,.int .i64 r4.2.2.2.2.1])) tU fun _=>k r5) run L Γ:=by
 refine IB hb ?_
 refine LF (bs:=Lo) et hT (by kernel_rfl) (by kernel_rfl) n hi he (e.f.kind,e.f.text,e.f.num,e.ks,e.f.pos,()) rfl ?_
 exact EA (c:=true) (z:=[.int .i64 0,.string kE,.int .i64 0,.slice none 0 0,.int .i64 0]) (by kernel_rfl) (by kernel_rfl) rfl (by simp [Value.cells,Value.oneCell']) fun b2=>hk b2
theorem KX {α:Type} {n:Nat} {f:α→List Value} (hf:∀ x,(f x).length=n) {x:aV} {l:List α} (hm:Rw n f x l∈Γ) (hq:Rw n f x l∈Γq) {T1 T2:TypeId} (ht:p8 PG T1=some n) (hT:cK PG T2=some (true,n)) {i:Int} (j:Nat) (hi:i=j) {y:α} (hy:l[j]? = some y) {bs:List B} (v:HB bs) (hv:f y=HB.enc bs v) {k:HB bs→T}
  (hk:ay PG I t Rel Δ (some (Γq,Lq)) st (k v) run L Γ):ay PG I t Rel Δ (some (Γq,Lq)) st (.opq (bQ T1 (.slice x.1 x.2.1 x.2.2) (.int .i64 i)) tA fun r=>.opq (am T2 (.pointer (some r))) (.c (.agg bs)) k) run L Γ:=by
 have hj:j < l.length:=(List.getElem?_eq_some_iff.1 hy).1
 refine G5 hm (by omega) fun a ha hs=>kQ (t1:=tA) (a.add (j * n)) (Cy hq ha ht j hi hj) (kQ (t1:=.c (.agg bs)) v ?_ hk)
 have h:=Gg (n:=n) hf hq ha hs hy hT
 rw [hv] at h
 exact h
theorem KJ {T1:TypeId} {v:Value} {z:List Value} {c:Bool} {k:Addr→T} (hz:oX PG T1=some z) (hs:cK PG T1=some (c,v.cells.toList.length)) (hl:v.cells.toList.length=z.length) (h1:∀ x∈v.cells.toList,x.oneCell'=true)
  (hk:∀ b,ay PG I t Rel Δ none st (k ⟨b,0,none⟩) run L (Fact.at b (ap T1 v.cells.toList)::Γ)):ay PG I t Rel Δ (some (Γq,[])) st (.opl (bD T1) tA fun r=>.op (a7 T1 (.pointer (some r)) v) tU fun _=>k r) run L Γ:=by
 refine Cx (bT hz) ?_
 rintro _ _ _ ⟨b,rfl,rfl,rfl⟩
 refine ⟨fun _ h=>(nomatch h),?_⟩
 refine cT (br (L1:=[]) (L2:=L) (l:=z) (T:=T1) (T0:=T1) (c:=c) rfl hs rfl (by show 0+_≤_; omega) h1) ?_
 rintro _ _ _ ⟨rfl,rfl⟩
 have e:bW z 0 v.cells.toList=v.cells.toList:=by unfold bW; rw [Nat.zero_add,hl]; simp
 show ay PG I t Rel Δ none st (k ⟨b,0,none⟩) run ((b,ap T1 (bW z 0 v.cells.toList))::L) _
 rw [e]
 exact qI (hk b)
end
theorem Am (sl:aV) (b:ByteArray):Meets PG (I0:aN Empty Unit) (aa mA #[.slice sl.1 sl.2.1 sl.2.2]) tB (Pure.pure true) bm [ByF sl b,MxF]:=by
 refine rY sl (c5 fun st=>?_)
 obtain rfl:st=():=rfl
 unfold ik
 have fin:∀ {md:cS} {Δ:Labels Empty Unit Bool} {L:ak} {Γ:List Fact},MxF∈Γ→ay PG (I0:aN Empty Unit) tB (pl bm) Δ md () (.op (aa iD #[]) tB fun r=>.ret #[.v (.bool r)]) ((Pure.pure true:Sp Empty Unit Bool) ()) L Γ:=fun hM =>
  fy Jn (fun A hA=>by obtain rfl:=List.mem_singleton.1 hA; exact hM) (f8 (t:=tB) true rfl rfl)
 refine fk (φ:=sl.2.1=b.size) (fun F hF=>(hF (ByF sl b) (List.mem_cons_self ..)).1) fun hlen=>?_
 refine aT (fun _=>f8 (t:=tB) true rfl rfl) fun h=>?_
 have hb:b.size≤800:=by have h':¬ (sl.2.1:Int) > 800:=of_decide_eq_false h; omega
 obtain ⟨fuel,hfuel,r,hw,hr⟩:=GR (b:=b) (by omega)
 have hmm:=vo (I0:aN Empty Unit) fuel hfuel sl b (by omega)
 have e:(fL fuel b 0:Sp Empty Unit _)=Pure.pure r:=by funext st; simp only [fL,hw]; rfl
 rw [e] at hmm
 refine vv hmm (fun A hA=>by
  rcases List.mem_cons.1 hA with rfl | hA
  ·exact (by repeat (first | exact mz | apply ms))
  ·obtain rfl:=List.mem_singleton.1 hA; exact (by repeat (first | exact mz | apply ms))) fun x K=>?_
 obtain ⟨⟨x,⟨⟩⟩,at_,er,⟨⟩⟩:=x
 cases r with
 | inl p =>
  obtain ⟨p,q⟩:=p
  refine bX fun F0 hx=>?_
  obtain ⟨hx,rfl⟩:=hx
  cases hx
  have hq:3≤q∧q≤6:=⟨hr.2.2.1,hr.2.2.2⟩
  refine EA (c:=true) (z:=[.slice none 0 0]) (by kernel_rfl) (by kernel_rfl) rfl (by simp [Value.cells,Value.oneCell']) fun b1=>?_
  refine aT (fun _=>fin (by repeat (first | exact mz | apply ms))) fun h=>?_
  exfalso
  have h':(q != 0)=false:=h
  simp at h'
  omega
 | inr ns =>
  obtain ⟨n,rfl,hn,hk3,hsz⟩:∃ n,ns=eI 0 n∧Nd b.size 0 n∧n.kind=3∧n.size≤300000:=hr
  have hpos:=Ko hn
  have hkl:=IL (n:=n)
  have hnl:=oS n 0
  generalize eI 0 n=ns at hpos hkl hnl
  refine jy (bX fun F0 hx=>?_)
  cases hx
  refine Gi fun es hes=>?_
  have hel:es.length=ns.length:=by rw [← hes,List.length_map]
  have hin:∀ (i:Nat) (e:E),es[i]? = some e→ns[i]? = some e.f:=fun i e h=>by rw [← hes,List.getElem?_map,h]; rfl
  have hout:∀ (i:Nat) (y:FN),ns[i]? = some y→∃ e:E,es[i]? = some e∧e.f=y:=fun i y h=>by
   rw [← hes,List.getElem?_map] at h
   cases hi:es[i]? with
   | none=>rw [hi] at h; cases h
   | some e=>rw [hi] at h; exact ⟨e,rfl,by cases h; rfl⟩
  refine sn (A:=Rw 5 f9 x es) (fun F hF=>Sl.rw et (hF (Sl 5 f9 x es) (List.mem_cons_self ..))) ?_
  refine EA (c:=true) (z:=[.slice none 0 0]) (by kernel_rfl) (by kernel_rfl) rfl (by simp [Value.cells,Value.oneCell']) fun b1=>?_
  refine sn (A:=EL b1 x) (fun F hF=>hF _ (List.mem_cons_self ..)) ?_
  refine aT (fun h=>by cases h) fun _=>?_
  refine lm (δ:=Unit) (ts:=[]) (fun _=>()) (fun _ L'=>Fact.prop (L'=[])) (fun _ _=>(Pure.pure true:Sp Empty Unit Bool) ()) ?_ ?_
  ·refine FL (ts:=[.b (.int .i64)]) es.length (fun i=>((i:Int),())) (fun _ L'=>Fact.prop (L'=[])) rfl (fun F hF=>rfl) fun i L' Δ' hi hΔ out=>?_
   refine bX fun F0 hx=>?_
   obtain rfl:L'=[]:=hx
   refine IB (b:=b1) (x:=x) (by repeat (first | exact mz | apply ms)) (Ks (n:=5) (f:=f9) (l:=es) (by repeat (first | exact mz | apply ms)) fun hl=>?_)
   refine aT (fun h=>?_) (fun h=>?_)
   ·have hi':i < es.length:=by have h':(i:Int) < (x.2.1:Int):=of_decide_eq_true h; omega
    have hei:es[i]? = some es[i]:=List.getElem?_eq_getElem hi'
    have hni:=hin i _ hei
    have hok:=hpos _ (List.mem_of_getElem? hni)
    have hkn:=hkl _ (List.mem_of_getElem? hni)
    generalize es[i]=e at hei hni hok hkn
    have nxt:∀ {md:cS} {L2:ak} {Γ2:List Fact},L2=[]→ay PG (I0:aN Empty Unit) tB (pl bm) Δ' md () (.out 1 [.int .i64 (IntKind.i64.wrap ((i:Int)+1))]) ((Pure.pure true:Sp Empty Unit Bool) ()) L2 Γ2:=fun hL=>by
     refine out hi' ?_ fun F hF=>hL
     show [Value.int .i64 (IntKind.i64.wrap ((i:Int)+1))]=[Value.int .i64 ((i+1:Nat):Int)]
     rw [bg (by omega) (by omega)]; rfl
    refine IY (b:=b1) (x:=x) (es:=es) i (by repeat (first | exact mz | apply ms)) (by repeat (first | exact mz | apply ms)) rfl hei fun b2=>?_
    refine ov (e.f.kind==1||e.f.kind==2) ?_ ?_
    ·refine gK (b1:=.int .i64) (b:=b2) (e:=e) e.f.kind (by repeat (first | exact mz | apply ms)) (by kernel_rfl) rfl ?_
     refine Km rfl fun e1=>?_
     exact gK (b1:=.int .i64) (b:=b2) (e:=e) e.f.kind (by repeat (first | exact mz | apply ms)) (by kernel_rfl) rfl (j9 e1.symm)
    refine aT (fun _=>nxt rfl) fun _=>?_
    refine ov false ?_ ?_
    ·refine gK (b1:=.int .i64) (b:=b2) (e:=e) e.f.pos (by repeat (first | exact mz | apply ms)) (by kernel_rfl) rfl ?_
     refine aT (fun h2=>?_) fun _=>?_
     ·exfalso
      have h2':e.f.pos < 0:=of_decide_eq_true h2
      have:=hok.pos.1; omega
     refine gK (b1:=.int .i64) (b:=b2) (e:=e) e.f.pos (by repeat (first | exact mz | apply ms)) (by kernel_rfl) rfl (j9 ?_)
     have:=hok.pos.2
     show decide (e.f.pos > (sl.2.1:Int))=false
     exact decide_eq_false (by omega)
    refine aT (fun h=>by cases h) fun _=>?_
    refine fk (φ:=e.ks.2.1=e.f.kids.length) (fun F hF=>(hF (th es) (by repeat (first | exact mz | apply ms)) e (List.mem_of_getElem? hei)).1) fun hkl2=>?_
    refine sn (A:=Rw 1 si e.ks e.f.kids) (fun F hF=>Sl.rw Bo (hF (th es) (by repeat (first | exact mz | apply ms)) e (List.mem_of_getElem? hei))) ?_
    refine FL (ts:=[.b (.int .i64)]) e.f.kids.length (fun j=>((j:Int),())) (fun _ L'=>Fact.prop (L'=[])) rfl (fun F hF=>rfl) fun j L' Δ2 hj hΔ2 out2=>?_
    refine bX fun F0 hx=>?_
    obtain rfl:L'=[]:=hx
    have nxt2:∀ {md:cS} {L2:ak} {Γ2:List Fact},L2=[]→ay PG (I0:aN Empty Unit) tB (pl bm) Δ2 md () (.out 1 [.int .i64 (IntKind.i64.wrap ((i:Int)+1))]) ((Pure.pure true:Sp Empty Unit Bool) ()) L2 Γ2:=fun hL=>Kj (hΔ2 1 (by decide)) (nxt hL)
    refine gK (b1:=.slice) (b:=b2) (e:=e) e.ks (by repeat (first | exact mz | apply ms)) (by kernel_rfl) rfl ?_
    refine aT (fun h=>?_) (fun h=>nxt2 rfl)
    have hj':j < e.f.kids.length:=by have h':(j:Int) < (e.ks.2.1:Int):=of_decide_eq_true h; omega
    have hkj:e.f.kids[j]? = some e.f.kids[j]:=List.getElem?_eq_getElem hj'
    obtain ⟨m,y,hm1,hm2,hm3⟩:=hok.kid _ (List.mem_of_getElem? hkj)
    obtain ⟨c,hc1,rfl⟩:=hout m y hm2
    generalize e.f.kids[j]=kj at hkj hm1
    refine ft [] (fun _ h=>nomatch h) (Kc (x:=x) (b:=b1) (by repeat (first | exact mz | apply ms)) ?_)
    refine F9 (b1:=.slice) (b:=b2) (e:=e) e.ks (by repeat (first | exact mz | apply ms)) (by kernel_rfl) rfl ?_
    refine Ln (n:=1) (f:=si) (l:=e.f.kids) (b1:=.int .i64) (by repeat (first | exact mz | apply ms)) (by repeat (first | exact mz | apply ms)) (by kernel_rfl) (by decide) (by kernel_rfl) j rfl hkj kj rfl ?_
    refine KX (bs:=Lo) et (x:=x) (l:=es) (by repeat (first | exact mz | apply ms)) (by repeat (first | exact mz | apply ms)) (by kernel_rfl) (by kernel_rfl) m hm1 hc1 (c.f.kind,c.f.text,c.f.num,c.ks,c.f.pos,()) rfl ?_
    refine KJ (c:=true) (z:=[.int .i64 0,.string kE,.int .i64 0,.slice none 0 0,.int .i64 0]) (by kernel_rfl) (by kernel_rfl) rfl (by simp [Value.cells,Value.oneCell']) fun b3=>?_
    refine sn (A:=Ev b3 c) (fun F hF=>hF _ (List.mem_cons_self ..)) ?_
    refine ov (c.f.kind != 1&&c.f.kind != 2) ?_ ?_
    ·refine gK (b1:=.int .i64) (b:=b3) (e:=c) c.f.kind (by repeat (first | exact mz | apply ms)) (by kernel_rfl) rfl ?_
     refine aT (fun h2=>?_) fun h2=>?_
     ·refine gK (b1:=.int .i64) (b:=b3) (e:=c) c.f.kind (by repeat (first | exact mz | apply ms)) (by kernel_rfl) rfl (j9 ?_)
      have h2':(c.f.kind != 1)=true:=h2
      rw [h2']; rfl
     ·refine j9 ?_
      have h2':(c.f.kind != 1)=false:=h2
      rw [h2']; rfl
    refine aT (fun _=>?_) fun _=>?_
    ·refine gK (b1:=.int .i64) (b:=b3) (e:=c) c.f.pos (by repeat (first | exact mz | apply ms)) (by kernel_rfl) rfl ?_
     refine gK (b1:=.int .i64) (b:=b2) (e:=e) e.f.pos (by repeat (first | exact mz | apply ms)) (by kernel_rfl) rfl ?_
     refine aT (fun h2=>?_) fun _=>nxt2 rfl
     exfalso
     have h2':c.f.pos < e.f.pos:=of_decide_eq_true h2
     omega
    ·refine out2 hj' ?_ fun F hF=>rfl
     show [Value.int .i64 (IntKind.i64.wrap ((j:Int)+1))]=[Value.int .i64 ((j+1:Nat):Int)]
     rw [bg (by omega) (by omega)]; rfl
   ·exact mw () ((hΔ 0 (by decide)).trans co) rfl rfl fun F hF=>rfl
  ·rintro ⟨⟩ L' ⟨⟩
   refine bX fun F0 hx=>?_
   obtain rfl:L'=[]:=hx
   exact fin (by repeat (first | exact mz | apply ms))
end Go.Proofs.YtjlgcpgjdgeejaaGreatDoor
end

section
open Go.ChangeShapes Go.WideShapes Go.ChangeAt Go.WideElems Go.RowKit
namespace Go.Proofs.YtjlgcpgjdgeejaaGreatDoor
set_option linter.unusedSimpArgs false
set_option linter.unusedVariables false
section
variable {H:Type} {enc:TypeId × Value→H}
theorem tD {a:Assume} {C:Checked} {os:Os} {f:FuncId} {fn:Func} {s:ChangeSpec} {conds:List PathCond} {apart fresh handsOn again:Bool} {X:World→Array Value→Prop}
  (own:ownKnob C.prog.godebug=none) (started:os.Started) (noInit:C.prog.inits.idxOf? f=none) (hfn:C.prog.funcs[f]? = some fn)
  (witness:∃ (w:World) (tape:Tape) (i:Input),w.os=os∧(w.forCall tape i).Shaped C.prog∧i.vars=[]∧Input.okWide C.prog (w.forCall tape i) .any w.heap.size f i ∧
   ((s.pre enc C.prog fn conds apart (w.forCall tape i).memory i.args∧X (w.forCall tape i).memory i.args)∧sizedMet enc C.prog fn (OpenSpec.ofChange s) apart (w.forCall tape i).memory i.args)∧a.holds C.prog (lone (Frame.enter C.prog f i.args .normal) [] (w.forCall tape i)))
  (contract:∀ (W:World) (base:Nat) (args:Array Value) (ds gs:List (DataW H)) (before:List MemPlace),
   (∀ (j:Nat) t v,fn.params[j]? = some t→args[j]? = some v→Value.okWide C.prog W .any base t v) →
   DataW.Whole enc C.prog fn.params.toList s.vars apart W args.toList ds gs before →
   (DataW.weightsEach C.prog (fn.params.toList++s.plain.varTypes C.prog) (ds++gs)).all (·≤reachBytes)=true →
   W.ShapedOpen C.prog →
   Calls C.prog f args W fun e W'=>∃ v,e=.returned v∧s.post enc C.prog fn apart fresh handsOn again W args v W') :
  ReturnsInHanded a C os f .any (fun w args=>(s.pre enc C.prog fn conds apart w args∧X w args)∧sizedMet enc C.prog fn (OpenSpec.ofChange s) apart w args) (s.post enc C.prog fn apart fresh handsOn again):=by
 refine returnsInHanded_of_calls own started noInit witness ?_
 intro w tape i _ hsh _ hok hpre hholds
 obtain ⟨_,_,_,fn',hfn',_,_,_,_,hval⟩:=hok
 have e:fn'=fn:=Option.some.inj (hfn'.symm.trans hfn)
 subst e
 obtain ⟨⟨⟨ds,gs,before,hw,hc⟩,hx⟩,hz⟩:=hpre
 have hw':=DataW.Whole.of_heap (w':=w.forCall tape i) (by rfl) hw
 refine (contract (w.forCall tape i) w.heap.size i.args ds gs before hval hw' (hz.weights hw) hsh).mono fun e W' ⟨v,he,hp⟩=>?_
 subst he
 exact ChangeSpec.post_blind hp
theorem rh {P:Program} (hl:laidOutB P=true) {W W':World} {sp':Nat→Bool}:∀ {ts:List TypeId} {vs:List Value} {ds:List (DataW H)} {ps:List MemPlace},(∀ t∈ts,P.readableRec t=true∧t < P.types.size) →
  DataW.TrodAll enc P W 0 (fun _=>true) true ts vs ds ps→(∀ x∈ps,W.sameAt W' x)→(∀ x∈ps,sp' x.block=true)→DataW.TrodAll enc P W' 0 sp' true ts vs ds ps
 | [],_,_,_,_,h,_,_=>by
  obtain ⟨rfl,rfl,rfl⟩:=trodAll_nil h
  exact rfl
 | t::ts,_,_,_,ht,h,h1,h2=>by
  obtain ⟨v,vs1,d,ds1,a,b,rfl,rfl,rfl,h3,h4⟩:=trodAll_cons h
  obtain ⟨g1,g2⟩:=ht t (List.mem_cons_self ..)
  exact ⟨a,b,Trod_stays hl g1 g2 h3 (fun x hx=>h1 x (List.mem_append_left _ hx)) (fun x hx=>h2 x (List.mem_append_left _ hx)),
   rh hl (fun t' ht'=>ht t' (List.mem_cons_of_mem _ ht')) h4 (fun x hx=>h1 x (List.mem_append_right _ hx)) (fun x hx=>h2 x (List.mem_append_right _ hx)),rfl⟩
theorem EF {P:Program} {f:Func} {s:ChangeSpec} {apart fresh handsOn again:Bool} {W W':World} {args:Array Value} {ds gs:List (DataW H)} {before:List MemPlace} {tb:TypeId}
  (hl:laidOutB P=true) (ht:∀ t∈f.params.toList,P.readableRec t=true∧t < P.types.size) (hW:DataW.Whole enc P f.params.toList s.vars apart W args.toList ds gs before) (hv:s.vars=[])
  (hfn:s.fn H (ds++gs)={ results:=[.lit (.bool true)],args:=ds }) (hr:f.resultTypes=#[tb]) (hb:P.underlying tb=some .bool) (h:Below W.heap.size W W') :
  s.post enc P f apart fresh handsOn again W args (.bool true) W':=by
 have hW0:=hW
 have hlt:∀ p∈before,p.block < W.heap.size:=fun p hp=>hW.lt p hp
 obtain ⟨pa,pv,hA,hV,hps,hz,hn⟩:=hW
 rw [hv] at hV
 obtain ⟨rfl,rfl⟩:=trodVars_none hV
 rw [List.append_nil] at hps
 subst hps
 have hargs:∀ sp:Nat→Bool,(∀ p∈before,sp p.block=true)→DataW.TrodAll enc P W' 0 sp true f.params.toList args.toList ds before:=fun sp hsp =>
  rh hl ht hA (fun x hx=>h.same (hlt x hx)) hsp
 have hres:∀ (b:Nat) (sp:Nat→Bool) (hd:Bool),DataW.TrodAll enc P W' b sp hd f.resultTypes.toList ((Value.bool true).resultList f.resultTypes.size) [.lit (.bool true)] []:=fun b sp hd=>by
  rw [hr]; exact trodAll_mk1 (shut_bool hb _)
 have hold:∀ p∈before,(fun b=>decide (b < W.heap.size)) p.block=true:=fun p hp=>by simpa using hlt p hp
 refine ⟨ds,[],before,[],before,[],hW0,?_,?_,?_,h.frame _,fun _=>⟨?_,?_⟩⟩
 ·rw [hfn]; exact hres _ _ _
 ·rw [hfn]; exact hargs _ hold
 ·rw [hfn,hv]; exact rfl
 ·exact ok_one (v:=.bool true) hr rfl (okWide_bool_mk hb _)
 ·refine ⟨_,[],([]++before)++[],⟨[]++before,[],trodAll_append (hargs _ (fun _ _=>rfl)) (hres _ _ _),by rw [hv]; exact rfl,rfl,?_,?_⟩,?_⟩
  ·intro b off hp
   have hp':MemPlace.cell b off∈before:=by simpa using hp
   have h1:b < W.heap.size:=hlt _ hp'
   rw [h.frozen (p:=⟨b,off,none⟩) h1]
   exact hz b off hp'
  ·intro ha
   simpa using hn ha
  ·intro p hp _
   simpa using hp
end
theorem C8 {P:Program} {f:FuncId} {fn:Func} {args:Array Value} {Γ:List Fact} (hf:P.funcs[f]? = some fn) (hb:fn.body.isNone=false) (hn:(fn.name == "runtime.NumGoroutine")=false)
  (h:Meets P (I0:aN Empty Unit) (aa f args) tB (Pure.pure true) bm Γ) (W:World) (hΓ:Holds Γ fun b=>W.heap[b]?) :
  Calls P f args W fun e W'=>e=.returned (.bool true)∧Below W.heap.size W W':=by
 have hsp:Split ⟨W,fun _=>none⟩ W [] (fun b=>W.heap[b]?):=⟨rfl,rfl,rfl,Nat.le_refl _,List.nodup_nil,(fun _ _ h=>nomatch h),(fun b o hb=>⟨hb,fun p hp=>nomatch hp⟩),(fun b o hb=>nomatch hb)⟩
 have h1:=h ⟨W,fun _=>none⟩ W (fun b=>W.heap[b]?) [] () (.ok true ()) rfl hΓ rfl hsp
 rw [fK hf hb hn] at h1
 refine Calls.mono h1 fun e W' he=>?_
 cases e with
 | returned v =>
  obtain ⟨F',hle,H',K,x,hv,_,hS,hK,hx⟩:=he
  have hx':x=true:=hx
  subst hx'
  cases hv
  refine ⟨rfl,hS.os,hS.tape,hS.output,hS.size,fun k hk=>?_⟩
  have hk':W.heap[k]? = some W.heap[k]:=Array.getElem?_eq_getElem hk
  rw [hk']
  exact (hS.frz k _ (hle k _ hk')).1
 | panicked c =>
  obtain ⟨F',hle,H',K,x,hv,_⟩:=he
  cases hv
 | outgrown=>exact he.elim
end Go.Proofs.YtjlgcpgjdgeejaaGreatDoor
end

section
open Go.ChangeShapes Go.WideShapes Go.ChangeAt Go.WideElems Go.RowKit
namespace Go.Proofs.YtjlgcpgjdgeejaaGreatDoor
open Go
set_option maxRecDepth 100000
theorem Lu:ownKnob Tryz.prog.godebug=none:=by kernel_rfl
theorem Lj:laidOutB Tryz.prog=true:=by kernel_rfl
theorem K7:Tryz.prog.underlying 4=some .bool:=by kernel_rfl
theorem Lf {W:World} (h:W.ShapedOpen Tryz.prog):MxF.p fun b=>W.heap[b]?:=by
 obtain ⟨m,hm⟩:=cell_of_shapedOpen_int (g:=0) (t:=ar) (zero:=#[.int .i64 0]) (k:=.i64) h (of_decide_eq_true (by kernel_rfl)) (by kernel_rfl) rfl (by kernel_rfl) (by kernel_rfl) (by kernel_rfl)
 unfold World.cell? at hm
 simp only at hm
 cases hh:W.heap[0]? with
 | none=>rw [hh] at hm; cases hm
 | some o =>
  rw [hh] at hm
  cases o with
  | cells c t fr=>exact ⟨t,c,m,fr,hh,by simpa using hm⟩
  | _=>cases hm
theorem Gc {fn:Func} {ts:Array TypeId} (h:fn.params=ts) (hall:(ts.toList.all fun t=>Tryz.prog.readableRec t&&decide (t < Tryz.prog.types.size))=true):∀ t∈fn.params.toList,Tryz.prog.readableRec t=true∧t < Tryz.prog.types.size:=by
 subst h
 intro t ht
 have:=List.all_eq_true.1 hall t ht
 rw [Bool.and_eq_true,decide_eq_true_eq] at this
 exact this
section
variable {H:Type} {enc:TypeId × Value→H}
theorem HP {W:World} {b o:Nat} {u:Value} (h:W.cell? ⟨b,o,none⟩=some u):∃ c T0 fr,W.heap[b]? = some (.cells c T0 fr):=by
 unfold World.cell? at h
 simp only at h
 cases hh:W.heap[b]? with
 | none=>rw [hh] at h; cases h
 | some x =>
  rw [hh] at h
  cases x with
  | cells c T0 fr=>exact ⟨c,T0,fr,rfl⟩
  | _=>cases h
theorem IV {W:World} {b o:Nat} {u:Value} {c:Array Value} {T0:TypeId} {fr:Nat × Nat} (hb:W.heap[b]? = some (.cells c T0 fr)) (h:W.cell? ⟨b,o,none⟩=some u):c[o]? = some u:=by
 unfold World.cell? at h
 simp only [hb] at h
 exact h
theorem Hn {W:World} {base:Nat} {v:Value} {d:DataW H} {ps:List MemPlace} (hval:Value.okWide Tryz.prog W .any base aj v) (h:DataW.Trod enc Tryz.prog W 0 (fun _=>true) true aj v d ps) :
  ∃ (sl:aV) (x:ByteArray),v=.slice sl.1 sl.2.1 sl.2.2∧(ByF sl x).p fun b=>W.heap[b]?:=by
 obtain ⟨a0,len,cap,rfl⟩:=okWide_slice (e:=ax) (by kernel_rfl) hval
 obtain ⟨fuel,hf⟩:=h
 rcases open_ints (e:=ax) (k:=.u8) (by kernel_rfl) (by kernel_rfl) (by kernel_rfl) hf with ⟨hcs,hx⟩ | ⟨a,len',cap',zs,hcs,_,hl,hm,hz,hx,hcell,hwz⟩
 ·have e:(Value.slice a0 len cap)=.slice none 0 0:=by simpa [Value.cells] using hcs
  cases e
  exact ⟨(none,0,0),kE,rfl,rfl,Nat.le_refl _,.inl rfl⟩
 ·have e:(Value.slice a0 len cap)=.slice (some a) len' cap':=by simpa [Value.cells] using hcs
  cases e
  have hz':zs.length=cap:=by simpa using hz
  have hlen:(zs.take len).length=len:=by rw [List.length_take]; omega
  have hsz:(⟨((zs.take len).map fun z=>z.toNat.toUInt8).toArray⟩:ByteArray).size=len:=by
   show ((zs.take len).map fun z=>z.toNat.toUInt8).toArray.size=len
   rw [List.size_toArray,List.length_map,hlen]
  refine ⟨(some a,len,cap),⟨((zs.take len).map fun z=>z.toNat.toUInt8).toArray⟩,rfl,hsz.symm,hl,?_⟩
  rcases Nat.eq_zero_or_pos len with h0 | h0
  ·left; rw [hsz]; exact h0
  ·right
   obtain ⟨b,off,rfl,hat⟩:=ints_at hcell (by omega)
   obtain ⟨c,T0,fr,hb⟩:=HP (hat 0 (by omega))
   refine ⟨_,c,T0,fr,rfl,rfl,hb,fun i hi=>?_⟩
   rw [hsz] at hi
   have h1:=IV hb (hat i (by omega))
   rw [h1,List.getD_eq_getElem?_getD,List.getElem?_eq_getElem (by omega)]
   have hw:=hwz zs[i] (List.getElem_mem ..)
   simp only [Lit.wf,Bool.and_eq_true,decide_eq_true_eq] at hw
   have hr:0≤zs[i]∧zs[i] < 256:=by
    have h1:IntKind.u8.min=0:=by decide
    have h2:IntKind.u8.max=255:=by decide
    omega
   have e2:(⟨((zs.take len).map fun z=>z.toNat.toUInt8).toArray⟩:ByteArray)[i]'(by rw [hsz]; exact hi)=zs[i].toNat.toUInt8:=by
    show (((zs.take len).map fun z=>z.toNat.toUInt8).toArray)[i]'(by simp; omega)=_
    simp
   rw [e2]
   simp only [Option.getD_some,Option.some.injEq,Value.int.injEq,true_and]
   rw [Nat.toUInt8_eq,UInt8.toNat_ofNat']
   omega
end
end Go.Proofs.YtjlgcpgjdgeejaaGreatDoor
end

section
open Go.ChangeShapes Go.WideShapes Go.ChangeAt Go.WideElems Go.RowKit
namespace Go.Proofs.YtjlgcpgjdgeejaaGreatDoor
open Go
set_option linter.unusedSimpArgs false
set_option linter.unusedVariables false
set_option maxRecDepth 100000
theorem uy (os:Os) (args:Array Value):laidMetH Tryz.prog Rows.parsePlacesRow.laid ((World.laidAll Tryz.prog os Rows.parsePlacesRow.laid).forCall (fun _ _=>0) ⟨#[],args,[]⟩).memory:=by
 rw [MakeChecks.laidMetH_plain _ _ _ (by kernel_rfl)]
 exact laidMet_laidAll _ (by kernel_rfl) (by kernel_rfl)
theorem vC (os:Os) (H:Type) (enc:TypeId × Value→H):∃ (w:World) (tape:Tape) (i:Input),w.os=os∧(w.forCall tape i).Shaped Tryz.checked.prog∧i.vars=[]∧Input.okWide Tryz.checked.prog (w.forCall tape i) .any w.heap.size 4 i ∧
   ((Rows.parsePlacesSpec.pre enc Tryz.checked.prog Tryz.f4 [] false (w.forCall tape i).memory i.args∧laidMetH Tryz.prog Rows.parsePlacesRow.laid (w.forCall tape i).memory)∧sizedMet enc Tryz.checked.prog Tryz.f4 (OpenSpec.ofChange Rows.parsePlacesSpec) false (w.forCall tape i).memory i.args)∧({}:Assume).holds Tryz.checked.prog (lone (Frame.enter Tryz.checked.prog 4 i.args .normal) [] (w.forCall tape i)) :=
  ChangeSpec.witness_shaped (enc:=enc) (C:=Tryz.checked) (os:=os) (X:=fun w _=>laidMetH Tryz.prog Rows.parsePlacesRow.laid w) false (World.laidAll Tryz.prog os Rows.parsePlacesRow.laid) #[.slice none 0 0] 8 (World.laidAll_os _ _ _) (World.shaped_of_ZipB (by kernel_rfl) (by kernel_rfl)) (by kernel_rfl) (by kernel_rfl) (by kernel_rfl) (uy os _)
theorem sy (os:Os) (started:os.Started) (H:Type) (enc:TypeId × Value→H) :
  ReturnsInHanded {} Tryz.checked os 4 .any (fun w args=>(Rows.parsePlacesSpec.pre enc Tryz.prog Tryz.f4 [] false w args∧laidMetH Tryz.prog Rows.parsePlacesRow.laid w)∧sizedMet enc Tryz.prog Tryz.f4 (OpenSpec.ofChange Rows.parsePlacesSpec) false w args)
   (Rows.parsePlacesSpec.post enc Tryz.prog Tryz.f4 false true false false):=by
 refine tD (C:=Tryz.checked) (X:=fun w _=>laidMetH Tryz.prog Rows.parsePlacesRow.laid w) Lu started (by kernel_rfl) Tryz.func4 (vC os H enc) ?_
 intro W base args ds gs before hval0 hW _ hsh
 have hval:∀ (j:Nat) t v,Tryz.f4.params[j]? = some t→args[j]? = some v→Value.okWide Tryz.prog W .any base t v:=hval0
 have hW':=hW
 obtain ⟨p,q,hA0,hV,rfl,hfz,hnd⟩:=hW
 have hA:DataW.TrodAll enc Tryz.prog W 0 (fun _=>true) true Tryz.f4.params.toList args.toList ds p:=hA0
 rw [Tryz.params4] at hA hval
 obtain ⟨v0,d0,rfl,rfl,h0⟩:=trodAll_one hA
 obtain ⟨rfl,rfl⟩:=trodVars_none hV
 obtain ⟨s0,l0,rfl,f0⟩:=Hn (hval 0 22 v0 rfl rfl) h0
 refine (C8 (args:=#[.slice s0.1 s0.2.1 s0.2.2]) Tryz.func4 rfl rfl (Am s0 l0) W (fun A hA=>by rcases List.mem_cons.1 hA with rfl | hA; exact f0; obtain rfl:=List.mem_singleton.1 hA; exact Lf hsh)).mono fun e W' ⟨he,hbel⟩=>?_
 subst he
 exact ⟨_,rfl,EF (tb:=4) Lj (Gc Tryz.params4 (by kernel_rfl)) hW' rfl rfl (by kernel_rfl) K7 hbel⟩
theorem y6:joinedFacts Tryz.pinned.checked.prog 4 Tryz.f4 Rows.parsePlacesSpec Rows.parsePlacesRow=true:=by kernel_rfl
theorem pT:Tryz.pinned.checked.prog.funcNamed Rows.parsePlacesRow.func=some 4:=by kernel_rfl
theorem xC:Tryz.f4.isInstance Tryz.pinned.checked.prog Rows.parsePlacesRow.origin Rows.parsePlacesRow.targs:=of_decide_eq_true (by kernel_rfl)
theorem xB:Tryz.f4.isWrapper Tryz.pinned.checked.prog Rows.parsePlacesRow.wrapper Rows.parsePlacesRow.mainSum:=by unfold Func.isWrapper; first | (rw [if_pos (by decide +kernel)]; kernel_rfl) | (rw [if_neg (by decide +kernel)]; exact ⟨rfl,rfl⟩)
theorem vI:Rows.ParsePlacesSaid :=
 OpenClaim.holds_of_wide 4 Tryz.f4 rfl rfl rfl rfl rfl rfl rfl ⟨rfl,rfl,rfl,rfl,rfl⟩ rfl rfl rfl rfl rfl pT Tryz.func4 y6 xC xB (fun os started H enc _=>sy os started H enc)
end Go.Proofs.YtjlgcpgjdgeejaaGreatDoor
end

section
namespace Go.Proofs.YtjlgcpgjdgeejaaGreatDoor
open Go
set_option maxRecDepth 100000
theorem y4 (f:FuncId) (fn:Func) (hf:Tryz.prog.funcNamed "shuck/shucklaw4.ParsePlaces" = some f) (hfn:Tryz.prog.funcs[f]? = some fn):f=4∧fn=Tryz.f4:=by
 obtain rfl:f=4:=Option.some.inj (hf.symm.trans pT)
 exact ⟨rfl,(Option.some.inj (Tryz.func4.symm.trans hfn)).symm⟩
theorem parsePlaces_holds:Rows.ParsePlacesCardSaid :=
 Claim7.holds_tied_plain_at .later [] [.data,.data,.data,.sentinel,.sentinel] true (true, "fabbca7475e12f51d7834343e6111eabd2fa15b7b88547ffaa62aaa041ae6fe1") true
  vI (fun _ h=>by cases h) (by kernel_rfl) (fun _ h=>by cases h) parsePlaces_row_tie rfl ⟨rfl,rfl⟩ (by kernel_rfl) rfl
  (fun f fn hf hfn=>by
   obtain ⟨rfl,rfl⟩:=y4 f fn hf hfn
   exact ⟨by kernel_rfl,fun j t ht=>by
    rw [Tryz.params4] at ht
    have hm:t∈[22]:=by simpa using Array.mem_of_getElem? ht
    have hall:([22].all fun u=>!Tryz.prog.wantsStandIn u)=true:=by kernel_rfl
    exact (show Tryz.prog.wantsStandIn t=false by simpa using List.all_eq_true.1 hall t hm)⟩)
  (by kernel_rfl)
#print axioms parsePlaces_holds
end Go.Proofs.YtjlgcpgjdgeejaaGreatDoor
end
