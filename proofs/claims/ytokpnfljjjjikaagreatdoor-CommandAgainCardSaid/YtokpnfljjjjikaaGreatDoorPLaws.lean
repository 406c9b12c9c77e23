import Derived.Test.YtokpnfljjjjikaaGreatDoorZo
import Derived.Test.YtokpnfljjjjikaaGreatDoorQCbx9
import Derived.Test.YtokpnfljjjjikaaGreatDoorQCbx11
import Derived.Test.YtokpnfljjjjikaaGreatDoorQCbx16
import Derived.Test.YtokpnfljjjjikaaGreatDoorEParams
import Derived.Test.YtokpnfljjjjikaaGreatDoorQCbx5
import Derived.Test.YtokpnfljjjjikaaGreatDoorQCbx17
import Derived.Test.YtokpnfljjjjikaaGreatDoorEParse
import Derived.Test.YtokpnfljjjjikaaGreatDoorQCbx12
import Derived.Test.YtokpnfljjjjikaaGreatDoorQCbx19
import Derived.Test.YtokpnfljjjjikaaGreatDoorRows
import Derived.Test.YtokpnfljjjjikaaGreatDoorEStr
import Derived.Stop.LaidErr
import Derived.LaidMore
import Derived.ChangeArms
import Derived.KernelRfl
namespace Go.Proofs.YtokpnfljjjjikaaGreatDoor.lR
open Go.RowKit Go.Proofs.YtokpnfljjjjikaaGreatDoor Go.Proofs.YtokpnfljjjjikaaGreatDoor.pJ Go.Proofs.aj.bV Go.Proofs.aj.dB
def rest (s:ByteArray) (p:Nat):List UInt8:=s.data.toList.drop p
theorem gU (s:ByteArray) (p:Nat):(rest s p).length=s.size - p:=by
 unfold rest
 rw [List.length_drop,fN]
theorem jg (s:ByteArray) (p n:Nat):rest s (p + n)=(rest s p).drop n:=by
 unfold rest
 rw [List.drop_drop]
theorem pO {s:ByteArray} {p:Nat} {b:UInt8} {l:List UInt8} (h:rest s p=b :: l):p < s.size∧bt s (p:Int)=(b.toNat:Int)∧rest s (p + 1)=l:=by
 have hlen:=gU s p
 rw [h] at hlen
 have hp:p < s.size:=by simp at hlen;omega
 refine ⟨hp,?_,?_⟩
 ·have h0:(rest s p)[0]? =some b:=by rw [h];rfl
  unfold rest at h0
  rw [List.getElem?_drop] at h0
  unfold bt
  have hp':((p:Int)).toNat < s.size:=by omega
  rw [dif_pos hp']
  have h1:s[((p:Int)).toNat]'hp'=b:=by
   have h2:s.data.toList[p]? =some b:=by simpa using h0
   rw [List.getElem?_eq_getElem (by rw [fN];exact hp)] at h2
   have h3:=Option.some.inj h2
   rw [← h3]
   simp [ByteArray.getElem_eq_getElem_data]
  rw [h1]
 ·rw [jg,h]
  rfl
theorem sO {s:ByteArray} {p:Nat} (h:rest s p= []):s.size≤p:=by
 have hlen:=gU s p
 rw [h] at hlen
 simp at hlen
 omega
theorem kP (s:ByteArray) (p q:Nat) (_h:p≤q):s.extract p q=aJ ((rest s p).take (q - p)):=by
 apply ByteArray.ext
 rw [← Array.toList_inj]
 simp [aJ,rest]
theorem nM {α:Type} (P:α→Bool):∀ l:List α,l.take (l.takeWhile P).length=l.takeWhile P
 | []=>rfl
 |b :: l=>by
  by_cases hb:P b=true
  ·simp [hb,nM P l]
  ·simp [hb]
theorem sP (n:Nat) (h:n < 4611686018427387904):wrap64 ((n:Int) + 1)=((n + 1:Nat):Int):=by unfold wrap64;omega
def cZ (c:UInt8):List UInt8→Bool
 | []=>false
 |b :: _ =>b == c
theorem nY (s:ByteArray) (p:Nat) (c:UInt8) (ci:Int) (hc:ci=(c.toNat:Int)) (hs:s.size < 4611686018427387904):
 bq.f s (p:Int) ci=some (cZ c (rest s p),s,(((if cZ c (rest s p)=true then p + 1 else p):Nat):Int)):=by
 subst hc
 unfold bq.f
 cases hr:rest s p with
 |nil=>
  have:=sO hr
  rw [if_neg aq]
  rfl
 |cons b l=>
  obtain ⟨h1,h2,_⟩:=pO hr
  rw [if_pos aq,if_pos aq,h2]
  by_cases hb:b=c
  ·subst hb
   rw [if_pos rfl,sP p aq]
   simp [cZ]
  ·rw [if_neg (by intro h;exact hb (UInt8.toNat_inj.mp aq))]
   simp [cZ,hb]
def SI:List UInt8→UInt8
 | []=>0
 |b :: _ =>b
theorem SJ (s:ByteArray) (p:Nat):dh.f s (p:Int)=some (((SI (rest s p)).toNat:Int),s,(p:Int)):=by
 unfold dh.f
 cases hr:rest s p with
 |nil=>
  have:=sO hr
  rw [if_neg aq]
  rfl
 |cons b l=>
  obtain ⟨h1,h2,_⟩:=pO hr
  rw [if_pos aq,if_pos aq,h2]
  rfl
theorem gj {Q:UInt8→Prop} (h:∀ n,n < 256→Q (UInt8.ofNat n)) (b:UInt8):Q b:=by
 have:=h b.toNat (UInt8.toNat_lt b)
 rwa [UInt8.ofNat_toNat] at this
def nC (b:UInt8):Bool:=(eZ.f (b.toNat:Int)).getD false
theorem ZP (b:UInt8):eZ.f (b.toNat:Int)=some (nC b):=by
 unfold nC
 have h:(eZ.f (b.toNat:Int)).isSome=true:=by
  have h2:∀ n,n < 256→(eZ.f ((n:Nat):Int)).isSome=true:=by decide +kernel
  exact h2 _ (UInt8.toNat_lt b)
 cases hf:eZ.f (b.toNat:Int) with
 |none=>rw [hf] at h;cases h
 |some x=>rfl
def kG (b:UInt8):Bool:=(iW.f (b.toNat:Int)).getD false
theorem WK (b:UInt8):iW.f (b.toNat:Int)=some (kG b):=by
 unfold kG
 have h:(iW.f (b.toNat:Int)).isSome=true:=by
  have h2:∀ n,n < 256→(iW.f ((n:Nat):Int)).isSome=true:=by decide +kernel
  exact h2 _ (UInt8.toNat_lt b)
 cases hf:iW.f (b.toNat:Int) with
 |none=>rw [hf] at h;cases h
 |some x=>rfl
def jD (b:UInt8):Bool:=b != 93
theorem WL (b:UInt8):gF.f (b.toNat:Int)=some (jD b):=by
 unfold gF.f jD
 congr 1
 by_cases hb:b=93
 ·subst hb;rfl
 ·have: ¬ ((b.toNat:Int)=93):=by
   intro h
   exact hb (UInt8.toNat_inj.mp (by simpa using (aq:b.toNat=93)))
  rw [bne_iff_ne.mpr this,bne_iff_ne.mpr hb]
theorem SK (s:ByteArray) (hs:s.size < 4611686018427387904) (a:Nat):∀ (k p:Nat),(rest s p).length < k→a≤p→p≤s.size→
 aT.l0 k (a:Int) s (p:Int)=some (s.extract a (p + ((rest s p).takeWhile nC).length),decide (a < p + ((rest s p).takeWhile nC).length),s,((p + ((rest s p).takeWhile nC).length:Nat):Int))
 | 0,p,h,_,_ =>absurd h (Nat.not_lt_zero _)
 |k + 1,p,h,ha,hp=>by
  unfold aT.l0
  cases hr:rest s p with
  |nil=>
   have:=sO hr
   rw [if_neg aq,if_pos aq,if_pos aq,if_pos aq]
   simp
   try exact decide_eq_decide.mpr Iff.rfl
  |cons c l=>
   obtain ⟨h1,h2,h3⟩:=pO hr
   rw [if_pos aq,if_pos aq,h2,ZP]
   simp only [Option.bind_some]
   by_cases hb:nC c=true
   ·rw [if_pos hb,sP p aq,SK s hs a k (p + 1) DU aq aq,h3]
    have e:p + 1 + (l.takeWhile nC).length=p + ((c :: l).takeWhile nC).length:=by simp [hb];omega
    rw [e]
   ·rw [if_neg hb,if_pos aq,if_pos aq,if_pos aq]
    simp [hb]
theorem acP (s:ByteArray) (hs:s.size < 4611686018427387904) (k p:Nat) (hk:(rest s p).length < k) (hp:p≤s.size):
 aT.f k s (p:Int)=some (aJ ((rest s p).takeWhile nC),decide (0 < ((rest s p).takeWhile nC).length),s,((p + ((rest s p).takeWhile nC).length:Nat):Int)):=by
 unfold aT.f
 rw [SK s hs p k p hk (Nat.le_refl _) hp,kP _ _ _ aq,Nat.add_sub_cancel_left,nM]
 congr 2
 simp
theorem M7 (s:ByteArray) (hs:s.size < 4611686018427387904) (a:Nat):∀ (k p:Nat),(rest s p).length < k→a≤p→p≤s.size→
 bA.l0 k (a:Int) s (p:Int)=some (s.extract a (p + ((rest s p).takeWhile kG).length),decide (a < p + ((rest s p).takeWhile kG).length),s,((p + ((rest s p).takeWhile kG).length:Nat):Int))
 | 0,p,h,_,_ =>absurd h (Nat.not_lt_zero _)
 |k + 1,p,h,ha,hp=>by
  unfold bA.l0
  cases hr:rest s p with
  |nil=>
   have:=sO hr
   rw [if_neg aq,if_pos aq,if_pos aq,if_pos aq]
   simp
   try exact decide_eq_decide.mpr Iff.rfl
  |cons c l=>
   obtain ⟨h1,h2,h3⟩:=pO hr
   rw [if_pos aq,if_pos aq,h2,WK]
   simp only [Option.bind_some]
   by_cases hb:kG c=true
   ·rw [if_pos hb,sP p aq,M7 s hs a k (p + 1) DU aq aq,h3]
    have e:p + 1 + (l.takeWhile kG).length=p + ((c :: l).takeWhile kG).length:=by simp [hb];omega
    rw [e]
   ·rw [if_neg hb,if_pos aq,if_pos aq,if_pos aq]
    simp [hb]
theorem ZQ (s:ByteArray) (hs:s.size < 4611686018427387904) (k p:Nat) (hk:(rest s p).length < k) (hp:p≤s.size):
 bA.f k s (p:Int)=some (aJ ((rest s p).takeWhile kG),decide (0 < ((rest s p).takeWhile kG).length),s,((p + ((rest s p).takeWhile kG).length:Nat):Int)):=by
 unfold bA.f
 rw [M7 s hs p k p hk (Nat.le_refl _) hp,kP _ _ _ aq,Nat.add_sub_cancel_left,nM]
 congr 2
 simp
theorem M8 (s:ByteArray) (hs:s.size < 4611686018427387904) (a:Nat):∀ (k p:Nat),(rest s p).length < k→a≤p→p≤s.size→
 aR.l0 k (a:Int) s (p:Int)=some (s.extract a (p + ((rest s p).takeWhile jD).length),decide (a < p + ((rest s p).takeWhile jD).length),s,((p + ((rest s p).takeWhile jD).length:Nat):Int))
 | 0,p,h,_,_ =>absurd h (Nat.not_lt_zero _)
 |k + 1,p,h,ha,hp=>by
  unfold aR.l0
  cases hr:rest s p with
  |nil=>
   have:=sO hr
   rw [if_neg aq,if_pos aq,if_pos aq,if_pos aq]
   simp
   try exact decide_eq_decide.mpr Iff.rfl
  |cons c l=>
   obtain ⟨h1,h2,h3⟩:=pO hr
   rw [if_pos aq,if_pos aq,h2,WL]
   simp only [Option.bind_some]
   by_cases hb:jD c=true
   ·rw [if_pos hb,sP p aq,M8 s hs a k (p + 1) DU aq aq,h3]
    have e:p + 1 + (l.takeWhile jD).length=p + ((c :: l).takeWhile jD).length:=by simp [hb];omega
    rw [e]
   ·rw [if_neg hb,if_pos aq,if_pos aq,if_pos aq]
    simp [hb]
theorem ZR (s:ByteArray) (hs:s.size < 4611686018427387904) (k p:Nat) (hk:(rest s p).length < k) (hp:p≤s.size):
 aR.f k s (p:Int)=some (aJ ((rest s p).takeWhile jD),decide (0 < ((rest s p).takeWhile jD).length),s,((p + ((rest s p).takeWhile jD).length:Nat):Int)):=by
 unfold aR.f
 rw [M8 s hs p k p hk (Nat.le_refl _) hp,kP _ _ _ aq,Nat.add_sub_cancel_left,nM]
 congr 2
 simp
theorem WM (l:List UInt8) (i:Nat) (h:i < l.length):bt (aJ l) (i:Int)=((l.getD i 0).toNat:Int):=by
 unfold bt
 have h':((i:Int)).toNat < (aJ l).size:=by show _ < l.length;omega
 rw [dif_pos h']
 have:(aJ l)[((i:Int)).toNat]'(h')=l.getD i 0:=by
  simp only [Int.toNat_natCast]
  rw [List.getD_eq_getElem?_getD,List.getElem?_eq_getElem h]
  rfl
 rw [this]
theorem bX (l:List UInt8):(aJ l).size=l.length:=rfl
theorem nZ {α:Type} (P:α→Bool) (l:List α):(l.takeWhile P).length≤l.length:=(List.takeWhile_sublist P).length_le
def fK (l:List UInt8):Bool×Nat:=
 (match l.takeWhile nC with
  | []=>false
  |c :: t=>c != 45 && (c :: t).getD t.length 0 != 45,(l.takeWhile nC).length)
theorem toNat_eq {a b:UInt8} (h:(a.toNat:Int)=(b.toNat:Int)):a=b:=UInt8.toNat_inj.mp aq
theorem label_eq (s:ByteArray) (hs:s.size < 4611686018427387904) (k p:Nat) (hk:(rest s p).length < k) (hp:p≤s.size):
 fO.f k s (p:Int)=some ((fK (rest s p)).1,s,((p + (fK (rest s p)).2:Nat):Int)):=by
 unfold fO.f fK
 rw [acP s hs k p hk hp]
 simp only [Option.bind_some]
 have hle:=nZ nC (rest s p)
 have hrl:=gU s p
 generalize (rest s p).takeWhile nC=w at hle ⊢
 cases w with
 |nil=>simp
 |cons c t=>
  have h0:bt (aJ (c :: t)) 0=(c.toNat:Int):=WM (c :: t) 0 bn
  have e1:wrap64 (((aJ (c :: t)).size:Int) - 1)=(t.length:Int):=by
   rw [bX]
   unfold wrap64
   simp at hle ⊢
   omega
  have h1:bt (aJ (c :: t)) (t.length:Int)=(((c :: t).getD t.length 0).toNat:Int):=WM (c :: t) t.length bn
  rw [if_pos bn,if_pos (by rw [bX];first|(simp;done)|(simp;omega)),h0,e1,h1]
  by_cases hc:c=45
  ·subst hc
   rw [if_pos (show ((UInt8.toNat 45:Nat):Int)=45 from rfl)]
   simp
  ·rw [if_neg (show ¬ (c.toNat:Int)=45 from fun h=>hc (toNat_eq (b:=45) h)),if_pos aq,if_pos (by rw [bX];first|(simp;done)|(simp;omega))]
   have:((((c :: t).getD t.length 0).toNat:Int) != 45)=((c :: t).getD t.length 0 != 45):=by
    by_cases hl:(c :: t).getD t.length 0=45
    ·rw [hl];rfl
    ·rw [bne_iff_ne.mpr hl,bne_iff_ne.mpr (show (((c :: t).getD t.length 0).toNat:Int)≠45 from fun h=>hl (toNat_eq (b:=45) h))]
   rw [this]
   simp [hc]
def iH (l:List UInt8):Bool×Nat:=(decide (0 < (l.takeWhile kG).length),(l.takeWhile kG).length)
theorem WN (s:ByteArray) (hs:s.size < 4611686018427387904) (k p:Nat) (hk:(rest s p).length < k) (hp:p≤s.size):
 fX.f k s (p:Int)=some ((iH (rest s p)).1,s,((p + (iH (rest s p)).2:Nat):Int)):=by
 unfold fX.f iH
 rw [ZQ s hs k p hk hp]
 rfl
theorem Cc (l:List UInt8):(fK l).2≤l.length:=nZ _ _
theorem xD (l:List UInt8):(iH l).2≤l.length:=nZ _ _
def FV (part:List UInt8→Bool×Nat) (c:UInt8):Nat→List UInt8→Bool×Nat
 | 0,_ =>(false,0)
 |n + 1,l=>if (part l).1=true then (if cZ c (l.drop (part l).2)=true then ((FV part c n (l.drop ((part l).2 + 1))).1,(part l).2 + 1 + (FV part c n (l.drop ((part l).2 + 1))).2) else (true,(part l).2)) else (false,(part l).2)
def fU (part:List UInt8→Bool×Nat) (c:UInt8) (l:List UInt8):Bool×Nat:=FV part c (l.length + 1) l
theorem gK {c:UInt8} {l:List UInt8} {n:Nat} (h:cZ c (l.drop n)=true):n < l.length:=by
 rcases Nat.lt_or_ge n l.length with h1|h1
 ·exact h1
 ·rw [List.drop_of_length_le h1] at h
  cases h
theorem Hu (part:List UInt8→Bool×Nat) (c:UInt8):∀ (n m:Nat) (l:List UInt8),l.length < n→l.length < m→FV part c n l=FV part c m l
 | 0,_,_,h,_ =>absurd h (Nat.not_lt_zero _)
 |_,0,_,_,h=>absurd h (Nat.not_lt_zero _)
 |n + 1,m + 1,l,h1,h2=>by
  unfold FV
  by_cases hp:(part l).1=true
  ·rw [if_pos hp,if_pos hp]
   by_cases hn:cZ c (l.drop (part l).2)=true
   ·have:=gK hn
    rw [if_pos hn,if_pos hn,Hu part c n m _ j5 j5]
   ·rw [if_neg hn,if_neg hn]
  ·rw [if_neg hp,if_neg hp]
theorem lK (part:List UInt8→Bool×Nat) (c:UInt8) (l:List UInt8):
 fU part c l=if (part l).1=true then (if cZ c (l.drop (part l).2)=true then ((fU part c (l.drop ((part l).2 + 1))).1,(part l).2 + 1 + (fU part c (l.drop ((part l).2 + 1))).2) else (true,(part l).2)) else (false,(part l).2):=by
 unfold fU
 rw [FV]
 by_cases hp:(part l).1=true
 ·rw [if_pos hp,if_pos hp]
  by_cases hn:cZ c (l.drop (part l).2)=true
  ·have:=gK hn
   rw [if_pos hn,if_pos hn,Hu part c l.length ((l.drop ((part l).2 + 1)).length + 1) _ j5 aq]
  ·rw [if_neg hn,if_neg hn]
 ·rw [if_neg hp,if_neg hp]
theorem xE (part:List UInt8→Bool×Nat) (c:UInt8) (hpart:∀ l,(part l).2≤l.length):∀ (n:Nat) (l:List UInt8),l.length < n→(fU part c l).2≤l.length
 | 0,_,h=>absurd h (Nat.not_lt_zero _)
 |n + 1,l,h=>by
  rw [lK]
  have hl:=hpart l
  by_cases hp:(part l).1=true
  ·rw [if_pos hp]
   by_cases hn:cZ c (l.drop (part l).2)=true
   ·have h1:=gK hn
    have h2:=xE part c hpart n (l.drop ((part l).2 + 1)) j5
    rw [List.length_drop] at h2
    rw [if_pos hn]
    show _ + 1 + _≤_
    omega
   ·rw [if_neg hn]
    exact hl
  ·rw [if_neg hp]
   exact hl
theorem FW (s:ByteArray) (hs:s.size < 4611686018427387904):∀ (k p:Nat),(rest s p).length + 1 < k→p≤s.size→
 aW.l0 k 46 s (p:Int)=some ((fU fK 46 (rest s p)).1,s,((p + (fU fK 46 (rest s p)).2:Nat):Int))
 | 0,p,h,_ =>absurd h aq
 |k + 1,p,h,hp=>by
  have hle:=Cc (rest s p)
  have hrl:=gU s p
  unfold aW.l0
  rw [label_eq s hs k p aq hp,lK]
  simp only [Option.bind_some]
  by_cases h1:(fK (rest s p)).1=true
  ·rw [if_pos h1,if_pos h1,nY s _ 46 46 rfl hs]
   simp only [Option.bind_some,jg]
   by_cases h2:cZ 46 ((rest s p).drop (fK (rest s p)).2)=true
   ·have h3:=gK h2
    rw [if_pos h2,if_pos h2,if_pos h2]
    have h4:=FW s hs k (p + (fK (rest s p)).2 + 1) pS aq
    rw [h4,Nat.add_assoc p,jg]
    congr 3
    omega
   ·rw [if_neg h2,if_neg h2,if_neg h2]
  ·rw [if_neg h1,if_neg h1]
theorem Ce (s:ByteArray) (hs:s.size < 4611686018427387904):∀ (k p:Nat),(rest s p).length + 1 < k→p≤s.size→
 aK.l0 k 46 s (p:Int)=some ((fU iH 46 (rest s p)).1,s,((p + (fU iH 46 (rest s p)).2:Nat):Int))
 | 0,p,h,_ =>absurd h aq
 |k + 1,p,h,hp=>by
  have hle:=xD (rest s p)
  have hrl:=gU s p
  unfold aK.l0
  rw [WN s hs k p aq hp,lK]
  simp only [Option.bind_some]
  by_cases h1:(iH (rest s p)).1=true
  ·rw [if_pos h1,if_pos h1,nY s _ 46 46 rfl hs]
   simp only [Option.bind_some,jg]
   by_cases h2:cZ 46 ((rest s p).drop (iH (rest s p)).2)=true
   ·have h3:=gK h2
    rw [if_pos h2,if_pos h2,if_pos h2]
    have h4:=Ce s hs k (p + (iH (rest s p)).2 + 1) pS aq
    rw [h4,Nat.add_assoc p,jg]
    congr 3
    omega
   ·rw [if_neg h2,if_neg h2,if_neg h2]
  ·rw [if_neg h1,if_neg h1]
def pg (l:List UInt8):Bool×ByteArray×Nat:=((fU fK 46 l).1,cH.g (aJ (l.take (fU fK 46 l).2)),(fU fK 46 l).2)
theorem BA (l:List UInt8):(pg l).2.2≤l.length:=xE fK 46 Cc _ l (Nat.lt_succ_self _)
theorem domain_eq (s:ByteArray) (hs:s.size < 4611686018427387904) (k p:Nat) (hk:(rest s p).length + 1 < k) (hp:p≤s.size):
 cm.f k s (p:Int)=some ((pg (rest s p)).2.1,(pg (rest s p)).1,s,((p + (pg (rest s p)).2.2:Nat):Int)):=by
 have hle:=BA (rest s p)
 have hrl:=gU s p
 unfold pg at hle ⊢
 simp only at hle ⊢
 unfold cm.f aW.f
 rw [FW s hs k p hk hp]
 simp only [Option.bind_some]
 rw [if_pos aq,if_pos aq,if_pos aq]
 have e:s.extract ((p:Int)).toNat (((p + (fU fK 46 (rest s p)).2:Nat):Int)).toNat=aJ ((rest s p).take (fU fK 46 (rest s p)).2):=by
  rw [Int.toNat_natCast,Int.toNat_natCast,kP _ _ _ aq,Nat.add_sub_cancel_left]
 rw [e]
 have hf:cH.f (aJ ((rest s p).take (fU fK 46 (rest s p)).2))=some (cH.g (aJ ((rest s p).take (fU fK 46 (rest s p)).2))):=by
  unfold cH.f
  rw [if_pos]
  rw [bX,List.length_take]
  omega
 rw [hf]
 rfl
def kJ:List UInt8→List UInt8→Bool×List UInt8×Nat
 | [],_ =>(false,[],0)
 |b :: l,acc=>
  if b=34 then (true,acc,1)
  else if b=92 then
   match l with
   | []=>(false,[],2)
   |c :: l'=>if c < 32∨126 < c then (false,[],2) else ((kJ l' (acc ++ [c])).1,(kJ l' (acc ++ [c])).2.1,(kJ l' (acc ++ [c])).2.2 + 2)
  else if b < 32∨126 < b then (false,[],1)
  else ((kJ l (acc ++ [b])).1,(kJ l (acc ++ [b])).2.1,(kJ l (acc ++ [b])).2.2 + 1)
def pz (l:List UInt8):List Int:=l.map fun b=>(b.toNat:Int)
theorem M9 (l:List UInt8):strOfNums (pz l)=aJ l:=by
 unfold strOfNums pz aJ
 congr 1
 rw [List.map_map,← Array.toList_inj]
 show List.map _ l=l
 rw [show ((fun n:Int=>UInt8.ofNat n.toNat) ∘fun b:UInt8=>(b.toNat:Int))=id from by funext b;simp]
 simp
theorem ltI {b c:UInt8}:((b.toNat:Int) < (c.toNat:Int))↔b < c:=by
 rw [UInt8.lt_iff_toNat_lt]
 omega
theorem WO {b:UInt8}:((b.toNat:Int) < 32)↔b < 32:=ltI (c:=32)
theorem Na {b:UInt8}:((b.toNat:Int) > 126)↔126 < b:=ltI (b:=126)
theorem FX (s:ByteArray) (hs:s.size < 70368744177664):∀ (k p:Nat) (acc:List UInt8),(rest s p).length + 1 < k→p≤s.size→acc.length + (rest s p).length≤s.size→
 cr.l0 k (pz acc) s (p:Int)=some (aJ (kJ (rest s p) acc).2.1,(kJ (rest s p) acc).1,s,((p + (kJ (rest s p) acc).2.2:Nat):Int))
 | 0,p,acc,h,_,_ =>absurd h aq
 |k + 1,p,acc,h,hp,ha=>by
  unfold cr.l0
  have hrl:=gU s p
  cases hr:rest s p with
  |nil=>
   have:=sO hr
   rw [if_neg aq]
   rfl
  |cons b l=>
   obtain ⟨h1,h2,h3⟩:=pO hr
   have hlen:l.length + 1=s.size - p:=by rw [hr] at hrl;simpa using hrl
   rw [if_pos aq,if_pos aq,h2]
   unfold kJ
   by_cases hq:b=34
   ·subst hq
    rw [if_pos rfl,if_pos (show ((UInt8.toNat 34:Nat):Int)=34 from rfl),M9,sP p aq]
   ·rw [if_neg hq,if_neg (show ¬ (b.toNat:Int)=34 from fun h=>hq (toNat_eq (b:=34) h))]
    by_cases hb:b=92
    ·subst hb
     rw [if_pos rfl,if_pos (show ((UInt8.toNat 92:Nat):Int)=92 from rfl),sP p aq,SJ,h3]
     simp only [Option.bind_some]
     cases l with
     |nil=>
      have e:wrap64 (((p + 1:Nat):Int) + 1)=((p + 2:Nat):Int):=by unfold wrap64;omega
      rw [if_pos bU,e]
      rfl
     |cons c l'=>
      have e:wrap64 (((p + 1:Nat):Int) + 1)=((p + 2:Nat):Int):=by unfold wrap64;omega
      rw [e]
      show (if ((c.toNat:Int) < 32) then _ else if ((c.toNat:Int) > 126) then _ else _)=_
      by_cases hc:c < 32
      ·rw [if_pos (WO.mpr hc)]
       simp only [if_pos (Or.inl hc:c < 32∨126 < c)]
       rfl
      ·rw [if_neg (fun h=>hc (WO.mp h))]
       by_cases hd: 126 < c
       ·rw [if_pos (Na.mpr hd)]
        simp only [if_pos (Or.inr hd:c < 32∨126 < c)]
        rfl
       ·rw [if_neg (fun h=>hd (Na.mp h)),if_pos (by simp [pz];rw [hr] at ha;simp at ha;omega)]
        have hcd: ¬ (c < 32∨126 < c):=fun h=>h.elim hc hd
        simp only [if_neg hcd]
        have hr2:rest s (p + 2)=l':=by rw [jg,hr];rfl
        have hn:pz acc ++ [(c.toNat:Int)]=pz (acc ++ [c]):=by simp [pz]
        have:=FX s hs k (p + 2) (acc ++ [c]) (by rw [hr2];simp at hlen;rw [hr] at h;simp at h;omega) (by simp at hlen;omega) (by rw [hr2];rw [hr] at ha;simp at ha ⊢;omega)
        rw [show SI (c :: l')=c from rfl,hn,this,hr2,Nat.add_assoc,Nat.add_comm 2]
    ·rw [if_neg hb,if_neg (show ¬ (b.toNat:Int)=92 from fun h=>hb (toNat_eq (b:=92) h)),sP p aq]
     by_cases hc:b < 32
     ·rw [if_pos (WO.mpr hc),if_pos (Or.inl hc)]
      rfl
     ·rw [if_neg (fun h=>hc (WO.mp h))]
      by_cases hd: 126 < b
      ·rw [if_pos (Na.mpr hd),if_pos (Or.inr hd)]
       rfl
      ·rw [if_neg (fun h=>hd (Na.mp h)),if_pos (by simp [pz];rw [hr] at ha;simp at ha;omega),if_neg (fun h=>h.elim hc hd)]
       have hn:pz acc ++ [(b.toNat:Int)]=pz (acc ++ [b]):=by simp [pz]
       have:=FX s hs k (p + 1) (acc ++ [b]) DU aq (by rw [h3];rw [hr] at ha;simp at ha ⊢;omega)
       rw [hn,this,h3,Nat.add_assoc,Nat.add_comm 1]
theorem FY:∀ (n:Nat) (l acc:List UInt8),l.length < n→(kJ l acc).1=true→(kJ l acc).2.2≤l.length
 | 0,_,_,h,_ =>absurd h (Nat.not_lt_zero _)
 |n + 1,l,acc,h,ho=>by
  cases l with
  |nil=>unfold kJ at ho;cases ho
  |cons b l=>
   unfold kJ at ho ⊢
   by_cases hq:b=34
   ·rw [if_pos hq] at ho ⊢
    simp
   ·rw [if_neg hq] at ho ⊢
    by_cases hb:b=92
    ·rw [if_pos hb] at ho ⊢
     cases l with
     |nil=>cases ho
     |cons c l'=>
      by_cases hc:c < 32∨126 < c
      ·simp only [if_pos hc] at ho
       cases ho
      ·simp only [if_neg hc] at ho ⊢
       have:=FY n l' (acc ++ [c]) xW ho
       simp
       omega
    ·rw [if_neg hb] at ho ⊢
     by_cases hc:b < 32∨126 < b
     ·rw [if_pos hc] at ho
      cases ho
     ·rw [if_neg hc] at ho ⊢
      have:=FY n l (acc ++ [b]) xW ho
      simp
      omega
def fB (l:List UInt8):Bool×ByteArray×Nat:=
 if cZ 34 l=true then ((kJ (l.drop 1) []).1,aJ (kJ (l.drop 1) []).2.1,1 + (kJ (l.drop 1) []).2.2)
 else ((fU iH 46 l).1,aJ (l.take (fU iH 46 l).2),(fU iH 46 l).2)
theorem pE {c:UInt8} {l:List UInt8} (h:cZ c l=true): 0 < l.length:=by
 cases l with
 |nil=>cases h
 |cons _ _ =>simp
theorem TD (l:List UInt8) (h:(fB l).1=true):(fB l).2.2≤l.length:=by
 unfold fB at h ⊢
 by_cases hq:cZ 34 l=true
 ·rw [if_pos hq] at h ⊢
  have h1:=pE hq
  have h2:=FY _ (l.drop 1) [] (Nat.lt_succ_self _) h
  rw [List.length_drop] at h2
  show 1 + _≤_
  omega
 ·rw [if_neg hq]
  exact xE iH 46 xD _ l (Nat.lt_succ_self _)
theorem WQ (s:ByteArray) (hs:s.size < 70368744177664) (k p:Nat) (hk:(rest s p).length + 1 < k) (hp:p≤s.size):
 cr.f k s (p:Int)=some ((fB (rest s p)).2.1,(fB (rest s p)).1,s,((p + (fB (rest s p)).2.2:Nat):Int)):=by
 have hrl:=gU s p
 unfold cr.f fB
 rw [nY s p 34 34 rfl aq]
 simp only [Option.bind_some]
 by_cases hq:cZ 34 (rest s p)=true
 ·have h1:=pE hq
  have:=FX s hs k (p + 1) [] pS aq (by rw [gU];simp)
  rw [if_pos hq,if_pos hq,if_pos hq]
  rw [show ([]:List Int)=pz [] from rfl,this,jg,Nat.add_assoc]
 ·rw [if_neg hq,if_neg hq,if_neg hq]
  have hle:=xE iH 46 xD _ (rest s p) (Nat.lt_succ_self _)
  unfold aK.f
  rw [Ce s aq k p hk hp]
  simp only [Option.bind_some]
  rw [if_pos aq,if_pos aq,if_pos aq,Int.toNat_natCast,Int.toNat_natCast,kP _ _ _ aq,Nat.add_sub_cancel_left]
theorem more {α:Type} {f:Nat→Option α} (hm:∀ k,cN (f k) (f (k + 1))) {k1 k2:Nat} (h:k1≤k2) {r:α} (hf:f k1=some r):f k2=some r:=by
 induction h with
 |refl=>exact hf
 |step _ ih=>exact hm _ _ ih
theorem FZ (k0:Nat) {xs:List ByteArray} (hf:∀ y,y∈xs→∀ k,k0≤k→∃ r,gD.f y=some r):∀ (k i:Nat),xs.length - i + k0 < k→i≤xs.length→xs.length < 4611686018427387904→∃ r,aD.l0 k xs (xs.length:Int) (i:Int)=some r
 | 0,_,h,_,_ =>absurd h (Nat.not_lt_zero _)
 |k + 1,i,h,hi,hl=>by
  unfold aD.l0
  by_cases hlt:i < xs.length
  ·rw [if_pos aq,if_pos aq,if_pos aq]
   have hrd:kB ByteArray.empty xs (i:Int)=xs[i]:=by simp [kB,hlt]
   obtain ⟨r,hr⟩:=hf xs[i] (List.getElem_mem hlt) k aq
   rw [hrd,hr]
   simp only [Option.bind_some]
   split
   ·exact ⟨_,rfl⟩
   ·rw [sP i aq]
    exact FZ k0 hf k (i + 1) aq aq hl
  ·rw [if_neg aq]
   exact ⟨_,rfl⟩
theorem Nb (k0 k:Nat) {xs:List ByteArray} (hf:∀ y,y∈xs→∀ k,k0≤k→∃ r,gD.f y=some r) (hk:xs.length + k0 < k) (hl:xs.length < 4611686018427387904):∃ r,aD.f k xs=some r:=FZ k0 hf k 0 aq (Nat.zero_le _) hl
theorem BB (k0:Nat) {xs:List ByteArray} (hf:∀ y,y∈xs→∀ k,k0≤k→∃ r,ke.f y=some r):∀ (k i:Nat),xs.length - i + k0 < k→i≤xs.length→xs.length < 4611686018427387904→∃ r,aH.l0 k xs (xs.length:Int) (i:Int)=some r
 | 0,_,h,_,_ =>absurd h (Nat.not_lt_zero _)
 |k + 1,i,h,hi,hl=>by
  unfold aH.l0
  by_cases hlt:i < xs.length
  ·rw [if_pos aq,if_pos aq,if_pos aq]
   have hrd:kB ByteArray.empty xs (i:Int)=xs[i]:=by simp [kB,hlt]
   obtain ⟨r,hr⟩:=hf xs[i] (List.getElem_mem hlt) k aq
   rw [hrd,hr]
   simp only [Option.bind_some]
   split
   ·exact ⟨_,rfl⟩
   ·rw [sP i aq]
    exact BB k0 hf k (i + 1) aq aq hl
  ·rw [if_neg aq]
   exact ⟨_,rfl⟩
theorem GV (k0 k:Nat) {xs:List ByteArray} (hf:∀ y,y∈xs→∀ k,k0≤k→∃ r,ke.f y=some r) (hk:xs.length + k0 < k) (hl:xs.length < 4611686018427387904):∃ r,aH.f k xs=some r:=BB k0 hf k 0 aq (Nat.zero_le _) hl
theorem BC (k0:Nat) {xs:List ByteArray} (hf:∀ y,y∈xs→∀ k,k0≤k→∃ r,gp.f k y=some r):∀ (k i:Nat),xs.length - i + k0 < k→i≤xs.length→xs.length < 4611686018427387904→∃ r,aI.l0 k xs (xs.length:Int) (i:Int)=some r
 | 0,_,h,_,_ =>absurd h (Nat.not_lt_zero _)
 |k + 1,i,h,hi,hl=>by
  unfold aI.l0
  by_cases hlt:i < xs.length
  ·rw [if_pos aq,if_pos aq,if_pos aq]
   have hrd:kB ByteArray.empty xs (i:Int)=xs[i]:=by simp [kB,hlt]
   obtain ⟨r,hr⟩:=hf xs[i] (List.getElem_mem hlt) k aq
   rw [hrd,hr]
   simp only [Option.bind_some]
   split
   ·exact ⟨_,rfl⟩
   ·rw [sP i aq]
    exact BC k0 hf k (i + 1) aq aq hl
  ·rw [if_neg aq]
   exact ⟨_,rfl⟩
theorem GW (k0 k:Nat) {xs:List ByteArray} (hf:∀ y,y∈xs→∀ k,k0≤k→∃ r,gp.f k y=some r) (hk:xs.length + k0 < k) (hl:xs.length < 4611686018427387904):∃ r,aI.f k xs=some r:=BC k0 hf k 0 aq (Nat.zero_le _) hl
theorem qM (x:ByteArray) (c:UInt8) (hx:x.size < 4294967281):strings_Split.f x ⟨#[c]⟩=some ((pieces c x.data.toList).map aJ):=by
 unfold strings_Split.f
 rw [show one? ⟨#[c]⟩=some c from rfl]
 simp only [if_pos hx]
theorem F5 (c:UInt8) (x:ByteArray):((pieces c x.data.toList).map aJ).length≤x.size + 1:=by
 rw [List.length_map,lQ]
 have:=List.count_le_length (a:=c) (l:=x.data.toList)
 rw [fN] at this
 omega
theorem CR (x:ByteArray) (hx:x.size < 4294967281):∃ r,fF.f x=some r:=by
 unfold fF.f
 rw [if_pos hx]
 exact ⟨_,rfl⟩
theorem WR (x:ByteArray) (hx:x.size < 4294967281):∃ r,p8.f x=some r:=by
 unfold p8.f strings_Cut.f
 rw [if_pos hx]
 simp only [Option.bind_some]
 have h1:(aJ (Lib.cut x.data.toList [58,58]).1).size < 4294967281:=by
  show (Lib.cut x.data.toList [58,58]).1.length < _
  have:=fN x
  unfold Lib.cut
  split
  ·simp only [List.length_take];omega
  ·simp only;omega
 have h2:(aJ (Lib.cut x.data.toList [58,58]).2.1).size < 4294967281:=by
  show (Lib.cut x.data.toList [58,58]).2.1.length < _
  have:=fN x
  unfold Lib.cut
  split
  ·simp only [List.length_drop];omega
  ·simp only [List.length_nil];omega
 obtain ⟨a,ha⟩:=CR _ h1
 obtain ⟨b,hb⟩:=CR _ h2
 show ∃ r,((fF.f (aJ (Lib.cut x.data.toList [58,58]).1)).bind fun t151=>((fF.f (aJ (Lib.cut x.data.toList [58,58]).2.1)).bind fun t152=>_))=some r
 rw [ha,hb]
 simp only [Option.bind_some]
 split
 ·split
  ·split<;>exact ⟨_,rfl⟩
  ·exact ⟨_,rfl⟩
 ·exact ⟨_,rfl⟩
theorem TE (x:ByteArray) (hx:x.size < 4294967281):∃ r,gD.f x=some r:=by
 unfold gD.f
 rw [if_pos aq]
 exact ⟨_,rfl⟩
theorem La (x:ByteArray) (hx:x.size < 4294967281) (k:Nat) (hk:x.size + 4 < k):∃ r,bZ.f k x=some r:=by
 obtain ⟨k,rfl⟩:∃ k',k=k' + 1:=⟨k - 1,aq⟩
 have hj:∀ b,∃ r,bZ.j0 (k + 1) x b=some r∨b=true∧x.size < 5:=by
  intro b
  rw [bZ.j0]
  cases b with
  |true=>
   by_cases h5:x.size < 5
   ·exact ⟨true,.inr ⟨rfl,h5⟩⟩
   ·obtain ⟨r,hr⟩:=WR (x.extract 5 x.size) (by rw [ByteArray.size_extract];omega)
    exact ⟨r,.inl (by rw [if_pos rfl,if_pos aq,hr];rfl)⟩
  |false=>
   rw [if_neg bU,qM x 46 hx]
   simp only [Option.bind_some]
   split
   ·have hn:=F5 46 x
    obtain ⟨r,hr⟩:=Nb 0 k (xs:=(pieces 46 x.data.toList).map aJ) (fun y hy _ _ =>TE y (by have:=CO 46 x y hy;omega)) aq aq
    unfold bF.f
    rw [hr]
    exact ⟨_,.inl rfl⟩
   ·exact ⟨_,.inl rfl⟩
 unfold bZ.f
 split
 ·rename_i h5
  rw [if_pos bU,if_pos aq]
  have hf:cH.f (x.extract 0 5)=some (cH.g (x.extract 0 5)):=by
   unfold cH.f
   rw [if_pos]
   rw [ByteArray.size_extract]
   omega
  rw [hf]
  simp only [Option.bind_some]
  obtain ⟨r,hr|⟨_,hr⟩⟩:=hj ((cH.g (x.extract 0 5)).toList == ([105,112,118,54,58]:List UInt8))
  ·exact ⟨r,hr⟩
  ·omega
 ·obtain ⟨r,hr|⟨hr,_⟩⟩:=hj false
  ·exact ⟨r,hr⟩
  ·cases hr
def Pf (w:ByteArray):Bool:=(bZ.f (w.size + 5) w).getD false
theorem Pg (x:ByteArray) (hx:x.size < 4294967281) (k:Nat) (hk:x.size + 4 < k):bZ.f k x=some (Pf x):=by
 obtain ⟨r,hr⟩:=La x hx (x.size + 5) aq
 have h1:Pf x=r:=by unfold Pf;rw [hr];rfl
 rw [h1]
 exact qD (fun k=>bZ.mono x k) aq hr
def l8 (l:List UInt8):Bool×ByteArray×ByteArray×Bool×Nat:=
 if (fB l).1=true then
  if cZ 64 (l.drop (fB l).2.2)=true then
   if cZ 91 (l.drop ((fB l).2.2 + 1))=true then
    if cZ 93 (l.drop ((fB l).2.2 + 2 + ((l.drop ((fB l).2.2 + 2)).takeWhile jD).length))=true then
     (Pf (aJ ((l.drop ((fB l).2.2 + 2)).takeWhile jD)),(fB l).2.1,cH.g (aJ ((l.drop ((fB l).2.2 + 2)).takeWhile jD)),true,(fB l).2.2 + 2 + ((l.drop ((fB l).2.2 + 2)).takeWhile jD).length + 1)
    else (false,(fB l).2.1,cH.g (aJ ((l.drop ((fB l).2.2 + 2)).takeWhile jD)),true,(fB l).2.2 + 2 + ((l.drop ((fB l).2.2 + 2)).takeWhile jD).length)
   else ((pg (l.drop ((fB l).2.2 + 1))).1,(fB l).2.1,(pg (l.drop ((fB l).2.2 + 1))).2.1,false,(fB l).2.2 + 1 + (pg (l.drop ((fB l).2.2 + 1))).2.2)
  else (false,⟨#[]⟩,⟨#[]⟩,false,(fB l).2.2)
 else (false,⟨#[]⟩,⟨#[]⟩,false,(fB l).2.2)
theorem Hv {c:UInt8} {s:ByteArray} {p:Nat} (h:cZ c (rest s p)=true):p < s.size:=by
 have:=pE h
 rw [gU] at this
 omega
theorem acQ (s:ByteArray) (hs:s.size < 4294967281) (k p:Nat) (hk:(rest s p).length + 6 < k) (hp:p≤s.size):
 cz.f k s (p:Int)=some ((l8 (rest s p)).2.1,(l8 (rest s p)).2.2.1,(l8 (rest s p)).2.2.2.1,(l8 (rest s p)).1,s,((p + (l8 (rest s p)).2.2.2.2:Nat):Int)):=by
 obtain ⟨k,rfl⟩:∃ k',k=k' + 1:=⟨k - 1,aq⟩
 have hrl:=gU s p
 unfold cz.f l8
 rw [WQ s aq (k + 1) p aq hp]
 simp only [Option.bind_some]
 by_cases h1:(fB (rest s p)).1=true
 ·have hle:=TD _ h1
  rw [if_pos h1,if_pos h1,nY s _ 64 64 rfl aq]
  simp only [Option.bind_some,jg]
  by_cases h2:cZ 64 ((rest s p).drop (fB (rest s p)).2.2)=true
  ·have hl2:=Hv (by rw [jg];exact h2)
   rw [if_pos h2,if_pos h2,h2,cz.j0,if_neg bU,nY s _ 91 91 rfl aq]
   simp only [Option.bind_some]
   rw [Nat.add_assoc p,jg]
   by_cases h3:cZ 91 ((rest s p).drop ((fB (rest s p)).2.2 + 1))=true
   ·have hl3:=Hv (by rw [jg];exact h3)
    rw [if_pos h3,if_pos h3,if_pos h3,Nat.add_assoc p,ZR s aq k _ pS aq,jg]
    simp only [Option.bind_some]
    have hw:=nZ jD ((rest s p).drop ((fB (rest s p)).2.2 + 1 + 1))
    rw [List.length_drop] at hw
    have hf:cH.f (aJ (((rest s p).drop ((fB (rest s p)).2.2 + 1 + 1)).takeWhile jD))=some (cH.g (aJ (((rest s p).drop ((fB (rest s p)).2.2 + 1 + 1)).takeWhile jD))):=by
     unfold cH.f
     rw [if_pos]
     rw [bX]
     omega
    rw [hf]
    simp only [Option.bind_some]
    rw [nY s _ 93 93 rfl aq]
    simp only [Option.bind_some]
    rw [Nat.add_assoc p,jg]
    by_cases h4:cZ 93 ((rest s p).drop ((fB (rest s p)).2.2 + 1 + 1 + (((rest s p).drop ((fB (rest s p)).2.2 + 1 + 1)).takeWhile jD).length))=true
    ·rw [if_pos h4,if_pos h4,if_pos h4,Pg _ ji k ji]
     rfl
    ·rw [if_neg h4,if_neg h4,if_neg h4]
   ·rw [if_neg h3,if_neg h3,if_neg h3,domain_eq s aq k _ pS aq,jg]
    simp only [Option.bind_some]
    rw [Nat.add_assoc p]
  ·rw [if_neg h2,if_neg h2,Bool.eq_false_iff.mpr h2,cz.j0,if_pos (show (!false)=true from rfl)]
 ·rw [if_neg h1,if_neg h1,cz.j0,if_pos rfl]
def jV (l:List UInt8):Bool×ByteArray×Nat:=
 if cZ 64 l=true then ((pg (l.drop 1)).1,(pg (l.drop 1)).2.1,1 + (pg (l.drop 1)).2.2) else (false,(pg l).2.1,(pg l).2.2)
theorem SL (l:List UInt8):(jV l).2.2≤l.length:=by
 unfold jV
 split
 ·rename_i h
  have h1:=pE h
  have:=BA (l.drop 1)
  rw [List.length_drop] at this
  show 1 + _≤_
  omega
 ·exact BA l
theorem acR (s:ByteArray) (hs:s.size < 4294967281) (k p:Nat) (rs:List ByteArray) (hr:rs.length < 8000000000000) (hk:(rest s p).length + 1 < k) (hp:p≤s.size):
 iD.f k s (p:Int) rs=some ((jV (rest s p)).1,s,((p + (jV (rest s p)).2.2:Nat):Int),rs ++ [(jV (rest s p)).2.1]):=by
 have hrl:=gU s p
 unfold iD.f jV
 rw [nY s p 64 64 rfl aq]
 simp only [Option.bind_some]
 by_cases h:cZ 64 (rest s p)=true
 ·have h1:=pE h
  rw [if_pos h,if_pos h,h,domain_eq s aq k _ pS aq,jg]
  simp only [Option.bind_some]
  rw [if_pos hr,Bool.true_and,Nat.add_assoc]
 ·rw [if_neg h,if_neg h,Bool.eq_false_iff.mpr h,domain_eq s aq k _ hk hp]
  simp only [Option.bind_some]
  rw [if_pos hr,Bool.false_and]
def xG:Nat→List UInt8→Bool×List ByteArray×Nat
 | 0,_ =>(false,[],0)
 |n + 1,l=>if (jV l).1=true then (if cZ 44 (l.drop (jV l).2.2)=true then ((xG n (l.drop ((jV l).2.2 + 1))).1,(jV l).2.1 :: (xG n (l.drop ((jV l).2.2 + 1))).2.1,(jV l).2.2 + 1 + (xG n (l.drop ((jV l).2.2 + 1))).2.2) else (true,[(jV l).2.1],(jV l).2.2)) else (false,[(jV l).2.1],(jV l).2.2)
def iQ (l:List UInt8):Bool×List ByteArray×Nat:=xG (l.length + 1) l
theorem F6:∀ (n m:Nat) (l:List UInt8),l.length < n→l.length < m→xG n l=xG m l
 | 0,_,_,h,_ =>absurd h (Nat.not_lt_zero _)
 |_,0,_,_,h=>absurd h (Nat.not_lt_zero _)
 |n + 1,m + 1,l,h1,h2=>by
  unfold xG
  by_cases hp:(jV l).1=true
  ·rw [if_pos hp,if_pos hp]
   by_cases hn:cZ 44 (l.drop (jV l).2.2)=true
   ·have:=gK hn
    rw [if_pos hn,if_pos hn,F6 n m _ j5 j5]
   ·rw [if_neg hn,if_neg hn]
  ·rw [if_neg hp,if_neg hp]
theorem sw (l:List UInt8):
 iQ l=if (jV l).1=true then (if cZ 44 (l.drop (jV l).2.2)=true then ((iQ (l.drop ((jV l).2.2 + 1))).1,(jV l).2.1 :: (iQ (l.drop ((jV l).2.2 + 1))).2.1,(jV l).2.2 + 1 + (iQ (l.drop ((jV l).2.2 + 1))).2.2) else (true,[(jV l).2.1],(jV l).2.2)) else (false,[(jV l).2.1],(jV l).2.2):=by
 unfold iQ
 rw [xG]
 by_cases hp:(jV l).1=true
 ·rw [if_pos hp,if_pos hp]
  by_cases hn:cZ 44 (l.drop (jV l).2.2)=true
  ·have:=gK hn
   rw [if_pos hn,if_pos hn,F6 l.length ((l.drop ((jV l).2.2 + 1)).length + 1) _ j5 aq]
  ·rw [if_neg hn,if_neg hn]
 ·rw [if_neg hp,if_neg hp]
theorem Hw:∀ (n:Nat) (l:List UInt8),l.length < n→(iQ l).2.2≤l.length
 | 0,_,h=>absurd h (Nat.not_lt_zero _)
 |n + 1,l,h=>by
  rw [sw]
  have hl:=SL l
  by_cases hp:(jV l).1=true
  ·rw [if_pos hp]
   by_cases hn:cZ 44 (l.drop (jV l).2.2)=true
   ·have h1:=gK hn
    have h2:=Hw n (l.drop ((jV l).2.2 + 1)) j5
    rw [List.length_drop] at h2
    rw [if_pos hn]
    show _ + 1 + _≤_
    omega
   ·rw [if_neg hn]
    exact hl
  ·rw [if_neg hp]
   exact hl
theorem Hx (s:ByteArray) (hs:s.size < 4294967281):∀ (k p:Nat) (rs:List ByteArray),(rest s p).length + 2 < k→p≤s.size→rs.length + (rest s p).length≤s.size→
 dG.l0 k s (p:Int) rs=some ((iQ (rest s p)).1,s,((p + (iQ (rest s p)).2.2:Nat):Int),rs ++ (iQ (rest s p)).2.1)
 | 0,p,_,h,_,_ =>absurd h aq
 |k + 1,p,rs,h,hp,hr=>by
  have hle:=SL (rest s p)
  have hrl:=gU s p
  unfold dG.l0
  rw [acR s hs k p rs aq aq hp,sw]
  simp only [Option.bind_some]
  by_cases h1:(jV (rest s p)).1=true
  ·rw [if_pos h1,if_pos h1,nY s _ 44 44 rfl aq]
   simp only [Option.bind_some,jg]
   by_cases h2:cZ 44 ((rest s p).drop (jV (rest s p)).2.2)=true
   ·have h3:=gK h2
    rw [if_pos h2,if_pos h2,if_pos h2]
    have h4:=Hx s hs k (p + (jV (rest s p)).2.2 + 1) (rs ++ [(jV (rest s p)).2.1]) pS aq (by rw [gU,List.length_append];simp;omega)
    rw [h4,Nat.add_assoc p,jg,List.append_assoc]
    congr 4
    dsimp only
    omega
   ·rw [if_neg h2,if_neg h2,if_neg h2]
  ·rw [if_neg h1,if_neg h1]
def jZ (l:List UInt8):Bool:=decide (10 < l.length) && (cH.g (aJ (l.take 10))).toList == ([112,111,115,116,109,97,115,116,101,114]:List UInt8) && cZ 62 (l.drop 10)
theorem Ph (s:ByteArray) (p:Nat) (_hp:p≤s.size):qc s (p:Int)=jZ (rest s p):=by
 have hrl:=gU s p
 unfold qc jZ
 by_cases h:p + 10 < s.size
 ·rw [decide_eq_true aq,decide_eq_true aq]
  have e:s.extract ((p:Int)).toNat ((p:Int) + 10).toNat=aJ ((rest s p).take 10):=by
   rw [show ((p:Int) + 10).toNat=p + 10 from by omega,Int.toNat_natCast,kP _ _ _ aq,Nat.add_sub_cancel_left]
  rw [e]
  congr 1
  rw [← jg]
  cases hr:rest s (p + 10) with
  |nil=>
   have:=sO hr
   omega
  |cons b l=>
   obtain ⟨_,h2,_⟩:=pO hr
   rw [show ((p:Int) + 10)=((p + 10:Nat):Int) from by omega,h2]
   show ((b.toNat:Int) == 62)=(b == 62)
   by_cases hb:b=62
   ·subst hb;rfl
   ·rw [beq_eq_false_iff_ne.mpr hb,beq_eq_false_iff_ne.mpr (show (b.toNat:Int)≠62 from fun h=>hb (toNat_eq (b:=62) h))]
 ·rw [decide_eq_false aq,decide_eq_false aq]
  rfl
def gz (l:List UInt8):Bool×List ByteArray×ByteArray×ByteArray×Bool×Nat:=
 if jZ l=true then (true,[],lB,⟨#[]⟩,false,10)
 else if cZ 64 l=true then
  (if (iQ l).1=true then
    (if cZ 58 (l.drop (iQ l).2.2)=true then
      ((l8 (l.drop ((iQ l).2.2 + 1))).1,(iQ l).2.1,(l8 (l.drop ((iQ l).2.2 + 1))).2.1,(l8 (l.drop ((iQ l).2.2 + 1))).2.2.1,(l8 (l.drop ((iQ l).2.2 + 1))).2.2.2.1,(iQ l).2.2 + 1 + (l8 (l.drop ((iQ l).2.2 + 1))).2.2.2.2)
    else (false,[],⟨#[]⟩,⟨#[]⟩,false,(iQ l).2.2))
  else (false,[],⟨#[]⟩,⟨#[]⟩,false,(iQ l).2.2))
 else ((l8 l).1,[],(l8 l).2.1,(l8 l).2.2.1,(l8 l).2.2.2.1,(l8 l).2.2.2.2)
theorem Hy (s:ByteArray) (hs:s.size < 4294967281) (k p:Nat) (rs:List ByteArray) (hk:(rest s p).length + 6 < k) (hp:p≤s.size):
 dm.f3 k s (p:Int) rs=some (false,rs,(l8 (rest s p)).2.1,(l8 (rest s p)).2.2.1,(l8 (rest s p)).2.2.2.1,(l8 (rest s p)).1,s,((p + (l8 (rest s p)).2.2.2.2:Nat):Int)):=by
 unfold dm.f3
 rw [acQ s hs k p hk hp]
 rfl
theorem SM (l:List UInt8):((SI l).toNat:Int)=64↔cZ 64 l=true:=by
 cases l with
 |nil=>simp [SI,cZ]
 |cons b l=>
  show (b.toNat:Int)=64↔(b == 64)=true
  rw [beq_iff_eq]
  exact ⟨fun h=>toNat_eq (b:=64) h,fun h=>by rw [h];rfl⟩
theorem inner_eq (s:ByteArray) (hs:s.size < 4294967281) (k p:Nat) (hk:(rest s p).length + 6 < k) (hp:p≤s.size):
 dm.f k s (p:Int)=some (false,(gz (rest s p)).2.1,(gz (rest s p)).2.2.1,(gz (rest s p)).2.2.2.1,(gz (rest s p)).2.2.2.2.1,(gz (rest s p)).1,s,((p + (gz (rest s p)).2.2.2.2.2:Nat):Int)):=by
 have hrl:=gU s p
 unfold dm.f gz
 rw [if_pos ⟨aq,aq,aq⟩,Ph s p hp]
 by_cases h0:jZ (rest s p)=true
 ·rw [if_pos h0,if_pos h0]
  rfl
 ·rw [if_neg h0,if_neg h0]
  unfold dm.f2
  rw [SJ]
  simp only [Option.bind_some]
  by_cases h1:cZ 64 (rest s p)=true
  ·have hle:=Hw _ (rest s p) (Nat.lt_succ_self _)
   rw [if_pos ((SM _).mpr h1),if_pos h1,Hx s hs k p [] aq hp (by simp;omega)]
   simp only [Option.bind_some]
   by_cases h2:(iQ (rest s p)).1=true
   ·rw [if_pos h2,if_pos h2,nY s _ 58 58 rfl aq]
    simp only [Option.bind_some,jg]
    by_cases h3:cZ 58 ((rest s p).drop (iQ (rest s p)).2.2)=true
    ·have h3':=gK h3
     rw [if_pos h3,if_pos h3,if_pos h3,Nat.add_assoc p,Hy s hs k _ _ pS aq,jg,List.nil_append,Nat.add_assoc p]
    ·rw [if_neg h3,if_neg h3,if_neg h3]
   ·rw [if_neg h2,if_neg h2]
  ·rw [if_neg (fun h=>h1 ((SM _).mp h)),if_neg h1,Hy s hs k p [] hk hp]
theorem zM (x:ByteArray) (k:Nat) (hk:x.size + 2 < k):∃ r,fI.f k x=some r:=by
 unfold fI.f
 split
 ·rename_i h
  have hn:=F5 46 x
  rw [qM x 46 aq]
  simp only [Option.bind_some]
  obtain ⟨r,hr⟩:=GV 0 k (xs:=(pieces 46 x.data.toList).map aJ) (fun y _ _ _ =>⟨_,rfl⟩) aq aq
  unfold bM.f
  rw [hr]
  exact ⟨_,rfl⟩
 ·exact ⟨_,rfl⟩
theorem Nc (a b:ByteArray) (c:Bool) (k:Nat) (hk:b.size + 2 < k):∃ r,eN.f k a b c=some r:=by
 unfold eN.f
 obtain ⟨r,hr⟩:=zM b k hk
 split
 ·split
  ·exact ⟨_,rfl⟩
  ·rw [hr]
   exact ⟨_,rfl⟩
 ·exact ⟨_,rfl⟩
theorem TF (k:Nat) (s:ByteArray) (q:Int) (nul:Bool) (route:List ByteArray) (lo dom:ByteArray) (lit:Bool) (M:Nat) (hM:∀ y,y∈route→y.size≤M) (hd:dom.size≤M) (hk:route.length + M + 5 < k) (hr:route.length < 4611686018427387904):
 ∃ r,bS.j0 k false s q nul route lo dom lit=some r:=by
 obtain ⟨k,rfl⟩:∃ k',k=k' + 1:=⟨k - 1,aq⟩
 rw [bS.j0,if_neg bU]
 obtain ⟨a,ha⟩:=Nc lo dom lit k aq
 rw [ha]
 simp only [Option.bind_some]
 split
 ·split
  ·exact ⟨_,rfl⟩
  ·obtain ⟨c,hc⟩:=GW (M + 3) k (xs:=route) (fun y hy k1 hk1=>by
    obtain ⟨d,hd⟩:=zM y k1 (by have:=hM y hy;omega)
    unfold gp.f
    rw [hd]
    exact ⟨_,rfl⟩) aq hr
   unfold bD.f
   rw [hc]
   simp only [Option.bind_some]
   split<;>exact ⟨_,rfl⟩
 ·exact ⟨_,rfl⟩
end Go.Proofs.YtokpnfljjjjikaaGreatDoor.lR
namespace Go.Proofs.YtokpnfljjjjikaaGreatDoor.lR
open Go.RowKit Go.Proofs.YtokpnfljjjjikaaGreatDoor Go.Proofs.YtokpnfljjjjikaaGreatDoor.pJ Go.Proofs.aj.bV Go.Proofs.aj.dB
def Agree (n:Nat) (l l2:List UInt8):Prop:=l2.take (n + 1)=l.take (n + 1)
theorem Agree.le {n m:Nat} {l l2:List UInt8} (h:Agree n l l2) (hm:m≤n):Agree m l l2:=by
 unfold Agree at h ⊢
 have:=congrArg (List.take (m + 1)) h
 rwa [List.take_take,List.take_take,Nat.min_eq_left aq] at this
theorem Agree.drop {n a:Nat} {l l2:List UInt8} (h:Agree (a + n) l l2):Agree n (l.drop a) (l2.drop a):=by
 unfold Agree at h ⊢
 rw [List.take_drop,List.take_drop,show a + (n + 1)=a + n + 1 from rfl,h]
theorem Agree.take {n m:Nat} {l l2:List UInt8} (h:Agree n l l2) (hm:m≤n + 1):l2.take m=l.take m:=by
 cases m with
 |zero=>simp
 |succ m=>exact h.le aq
end Go.Proofs.YtokpnfljjjjikaaGreatDoor.lR
namespace Go.Proofs.YtokpnfljjjjikaaGreatDoor.lR
open Go.RowKit Go.Proofs.YtokpnfljjjjikaaGreatDoor Go.Proofs.YtokpnfljjjjikaaGreatDoor.pJ Go.Proofs.aj.bV Go.Proofs.aj.dB
theorem F7 (x:ByteArray):(cH.g x).size=x.size:=by
 unfold cH.g
 rw [strOfNums_size,List.length_map,bytesOf_length]
theorem Cf (l:List UInt8):(pg l).2.1.size≤l.length:=by
 unfold pg
 show (cH.g _).size≤_
 rw [F7,bX,List.length_take]
 omega
theorem Hz (l:List UInt8):(l8 l).2.2.1.size≤l.length:=by
 have hw:=nZ jD (l.drop ((fB l).2.2 + 2))
 have hd:=Cf (l.drop ((fB l).2.2 + 1))
 rw [List.length_drop] at hw hd
 have hs:(cH.g (aJ ((l.drop ((fB l).2.2 + 2)).takeWhile jD))).size≤l.length:=by
  rw [F7,bX]
  omega
 unfold l8
 split
 ·split
  ·split
   ·split
    ·exact hs
    ·exact hs
   ·exact Nat.le_trans hd aq
  ·exact Nat.zero_le _
 ·exact Nat.zero_le _
theorem TG (l:List UInt8):(jV l).2.1.size≤l.length:=by
 unfold jV
 split
 ·exact Nat.le_trans (Cf _) j5
 ·exact Cf l
theorem CS:∀ (n:Nat) (l:List UInt8),l.length < n→(iQ l).2.1.length≤l.length + 1∧∀ y,y∈(iQ l).2.1→y.size≤l.length
 | 0,_,h=>absurd h (Nat.not_lt_zero _)
 |n + 1,l,h=>by
  have hi:=TG l
  have h1:∀ y,y∈ [(jV l).2.1]→y.size≤l.length:=by
   intro y hy
   rw [List.mem_singleton.mp hy]
   exact hi
  rw [sw]
  split
  ·split
   ·rename_i h2
    have h3:=gK h2
    obtain ⟨h4,h5⟩:=CS n (l.drop ((jV l).2.2 + 1)) j5
    rw [List.length_drop] at h4 h5
    refine ⟨?_,?_⟩
    ·show ((jV l).2.1 :: _).length≤_
     rw [List.length_cons]
     omega
    ·intro y hy
     rcases List.mem_cons.mp hy with rfl|hy
     ·exact hi
     ·exact Nat.le_trans (h5 y hy) aq
   ·exact ⟨bn,h1⟩
  ·exact ⟨bn,h1⟩
theorem xH (l:List UInt8):(gz l).2.1.length≤l.length + 1∧(∀ y,y∈(gz l).2.1→y.size≤l.length)∧(gz l).2.2.2.1.size≤l.length:=by
 have hr:=CS _ l (Nat.lt_succ_self _)
 have hb:=Hz l
 have hb2:=Hz (l.drop ((iQ l).2.2 + 1))
 rw [List.length_drop] at hb2
 have hn:([]:List ByteArray).length≤l.length + 1∧∀ y,y∈([]:List ByteArray)→y.size≤l.length:=⟨Nat.zero_le _,fun _ h=>by cases h⟩
 unfold gz
 split
 ·exact ⟨hn.1,hn.2,Nat.zero_le _⟩
 ·split
  ·split
   ·split
    ·exact ⟨hr.1,hr.2,Nat.le_trans hb2 aq⟩
    ·exact ⟨hn.1,hn.2,Nat.zero_le _⟩
   ·exact ⟨hn.1,hn.2,Nat.zero_le _⟩
  ·exact ⟨hn.1,hn.2,hb⟩
def wO (l:List UInt8):Bool:=cZ 60 l && cZ 62 (l.drop 1)
def GX (l:List UInt8):Bool:=cZ 60 l && (gz (l.drop 1)).1 && cZ 62 (l.drop (1 + (gz (l.drop 1)).2.2.2.2.2))
def F8 (l:List UInt8) (n:Nat):Prop:=(wO l=true∧n=2)∨(wO l=false∧GX l=true∧n=2 + (gz (l.drop 1)).2.2.2.2.2)
theorem TH {l:List UInt8} {n:Nat} (h:F8 l n): 2≤n∧n≤l.length:=by
 rcases h with ⟨h,rfl⟩|⟨_,h,rfl⟩
 ·unfold wO at h
  simp only [Bool.and_eq_true] at h
  have:=gK h.2
  omega
 ·unfold GX at h
  simp only [Bool.and_eq_true] at h
  have:=gK h.2
  omega
end Go.Proofs.YtokpnfljjjjikaaGreatDoor.lR
namespace Go.Proofs.YtokpnfljjjjikaaGreatDoor.lR
open Go.RowKit Go.Proofs.YtokpnfljjjjikaaGreatDoor Go.Proofs.YtokpnfljjjjikaaGreatDoor.pJ Go.Proofs.aj.bV Go.Proofs.aj.dB
set_option linter.unusedVariables false
set_option linter.unusedSimpArgs false
def qz (P:UInt8→Bool) (t:List UInt8):Prop:=∀ b t',t=b :: t'→P b=false
theorem Lb {P:UInt8→Bool} {t:List UInt8} (h:qz P t):∀ l:List UInt8,(l ++ t).takeWhile P=l.takeWhile P
 | []=>by
   cases t with
   |nil=>rfl
   |cons b t=>rw [List.nil_append,List.takeWhile_cons_of_neg (by rw [h b t rfl];decide)];rfl
 |b :: l=>by
  by_cases hb:P b=true
  ·rw [List.cons_append,List.takeWhile_cons_of_pos hb,List.takeWhile_cons_of_pos hb,Lb h l]
  ·rw [List.cons_append,List.takeWhile_cons_of_neg hb,List.takeWhile_cons_of_neg hb]
theorem Lc (P:UInt8→Bool):∀ l:List UInt8,qz P (l.drop (l.takeWhile P).length)
 | []=>by intro b t' h;simp at h
 |b :: l=>by
  by_cases hb:P b=true
  ·rw [List.takeWhile_cons_of_pos hb]
   exact Lc P l
  ·rw [List.takeWhile_cons_of_neg hb]
   intro c t' h
   cases h
   exact Bool.eq_false_iff.mpr hb
theorem TI {c:UInt8} {l t:List UInt8} {n:Nat} (hn:n≤l.length) (h:cZ c t=false):cZ c ((l ++ t).drop n)=cZ c (l.drop n):=by
 rw [List.drop_append_of_le_length hn]
 cases l.drop n with
 |nil=>rw [List.nil_append,h];rfl
 |cons b l=>rfl
theorem Nf {t:List UInt8} (h:qz nC t) (l:List UInt8):fK (l ++ t)=fK l:=by
 unfold fK
 rw [Lb h l]
theorem Pj {t:List UInt8} (h:qz kG t) (l:List UInt8):iH (l ++ t)=iH l:=by
 unfold iH
 rw [Lb h l]
theorem zN {part:List UInt8→Bool×Nat} {c:UInt8} {t:List UInt8} (hp:∀ l,(part l).2≤l.length) (hpt:∀ l,part (l ++ t)=part l) (hc:cZ c t=false):
 ∀ (n:Nat) (l:List UInt8),l.length < n→fU part c (l ++ t)=fU part c l
 | 0,_,h=>absurd h (Nat.not_lt_zero _)
 |n + 1,l,h=>by
  rw [lK part c (l ++ t),lK part c l,hpt,TI (hp l) hc]
  by_cases h1:(part l).1=true
  ·rw [if_pos h1,if_pos h1]
   by_cases h2:cZ c (l.drop (part l).2)=true
   ·have h3:=gK h2
    rw [if_pos h2,if_pos h2,List.drop_append_of_le_length aq,zN hp hpt hc n _ j5]
   ·rw [if_neg h2,if_neg h2]
  ·rw [if_neg h1,if_neg h1]
theorem zO {part:List UInt8→Bool×Nat} {P:UInt8→Bool} {c:UInt8} (hp:∀ l:List UInt8,qz P (l.drop (part l).2)):
 ∀ (n:Nat) (l:List UInt8),l.length < n→(fU part c l).1=true→qz P (l.drop (fU part c l).2)∧cZ c (l.drop (fU part c l).2)=false
 | 0,_,h,_ =>absurd h (Nat.not_lt_zero _)
 |n + 1,l,h,h1=>by
  rw [lK] at h1 ⊢
  by_cases h2:(part l).1=true
  ·rw [if_pos h2] at h1 ⊢
   by_cases h3:cZ c (l.drop (part l).2)=true
   ·have h4:=gK h3
    rw [if_pos h3] at h1 ⊢
    have h5:=zO hp n (l.drop ((part l).2 + 1)) j5 h1
    rw [List.drop_drop] at h5
    exact h5
   ·rw [if_neg h3]
    exact ⟨hp l,Bool.eq_false_iff.mpr h3⟩
  ·rw [if_neg h2] at h1
   cases h1
theorem Ng (l:List UInt8):qz nC (l.drop (fK l).2):=Lc nC l
theorem Pk (l:List UInt8):qz kG (l.drop (iH l).2):=Lc kG l
theorem xI {t:List UInt8} (h:qz nC t) (h2:cZ 46 t=false) (l:List UInt8):fU fK 46 (l ++ t)=fU fK 46 l:=
 zN Cc (Nf h) h2 _ l (Nat.lt_succ_self _)
theorem F9 {t:List UInt8} (h:qz kG t) (h2:cZ 46 t=false) (l:List UInt8):fU iH 46 (l ++ t)=fU iH 46 l:=
 zN xD (Pj h) h2 _ l (Nat.lt_succ_self _)
theorem Nh (l:List UInt8) (h:(fU fK 46 l).1=true):fU fK 46 (l.take (fU fK 46 l).2)=(true,(fU fK 46 l).2):=by
 obtain ⟨h1,h2⟩:=zO (P:=nC) Ng _ l (Nat.lt_succ_self _) h
 have h3:=xI h1 h2 (l.take (fU fK 46 l).2)
 rw [List.take_append_drop] at h3
 rw [← h3,← h]
theorem Pm (l:List UInt8) (h:(fU iH 46 l).1=true):fU iH 46 (l.take (fU iH 46 l).2)=(true,(fU iH 46 l).2):=by
 obtain ⟨h1,h2⟩:=zO (P:=kG) Pk _ l (Nat.lt_succ_self _) h
 have h3:=F9 h1 h2 (l.take (fU iH 46 l).2)
 rw [List.take_append_drop] at h3
 rw [← h3,← h]
def gh (b:UInt8):UInt8:=UInt8.ofNat (IP (b.toNat:Int)).toNat
theorem oP (l:List UInt8):cH.g (aJ l)=aJ (l.map gh):=by
 unfold cH.g strOfNums bytesOf aJ
 congr 1
 simp only [List.map_map]
 rfl
theorem ZT (b:UInt8):nC (gh b)=nC b:=gj (Q:=fun b=>nC (gh b)=nC b) gw b
theorem ZU (b:UInt8):gh (gh b)=gh b:=gj (Q:=fun b=>gh (gh b)=gh b) gw b
theorem WS (b:UInt8):(gh b != 45)=(b != 45):=gj (Q:=fun b=>(gh b != 45)=(b != 45)) gw b
theorem Pn (b:UInt8):(gh b == 46)=(b == 46):=gj (Q:=fun b=>(gh b == 46)=(b == 46)) gw b
theorem rH (l:List UInt8):(l.map gh).map gh=l.map gh:=by
 rw [List.map_map]
 congr 1
 funext b
 exact ZU b
theorem acS (l:List UInt8):(l.map gh).takeWhile nC=(l.takeWhile nC).map gh:=by
 rw [List.takeWhile_map]
 congr 2
 funext b
 exact ZT b
theorem Ga (l:List UInt8) (n:Nat):(l.map gh).getD n 0=gh (l.getD n 0):=by
 rw [List.getD_eq_getElem?_getD,List.getD_eq_getElem?_getD,List.getElem?_map]
 cases l[n]? with
 |none=>rfl
 |some b=>rfl
theorem Po (l:List UInt8):fK (l.map gh)=fK l:=by
 unfold fK
 rw [acS,List.length_map]
 cases l.takeWhile nC with
 |nil=>rfl
 |cons c t=>
  show (gh c != 45 && ((c :: t).map gh).getD (t.map gh).length 0 != 45,_)=(c != 45 && (c :: t).getD t.length 0 != 45,_)
  rw [Ga,WS,WS,List.length_map]
theorem WT (l:List UInt8):cZ 46 (l.map gh)=cZ 46 l:=by
 cases l with
 |nil=>rfl
 |cons b l=>exact Pn b
theorem zP:∀ (n:Nat) (l:List UInt8),l.length < n→fU fK 46 (l.map gh)=fU fK 46 l
 | 0,_,h=>absurd h (Nat.not_lt_zero _)
 |n + 1,l,h=>by
  rw [lK fK 46 (l.map gh),lK fK 46 l,Po,← List.map_drop,WT]
  by_cases h1:(fK l).1=true
  ·rw [if_pos h1,if_pos h1]
   by_cases h2:cZ 46 (l.drop (fK l).2)=true
   ·have h3:=gK h2
    rw [if_pos h2,if_pos h2,← List.map_drop,zP n _ j5]
   ·rw [if_neg h2,if_neg h2]
  ·rw [if_neg h1,if_neg h1]
def uO (l:List UInt8):List UInt8:=(l.take (fU fK 46 l).2).map gh
theorem Cg (l:List UInt8):(pg l).2.1=aJ (uO l):=oP _
theorem xJ (l:List UInt8):(uO l).length=(pg l).2.2:=by
 have h:=BA l
 unfold uO
 rw [List.length_map,List.length_take]
 exact Nat.min_eq_left h
theorem WU (l t:List UInt8) (h:(pg l).1=true) (ht:qz nC t) (h2:cZ 46 t=false):pg (uO l ++ t)=(true,aJ (uO l),(uO l).length):=by
 have h1:fU fK 46 (uO l ++ t)=(true,(uO l).length):=by
  rw [xI ht h2]
  unfold uO
  rw [zP _ _ (Nat.lt_succ_self _),Nh l h,List.length_map,List.length_take,Nat.min_eq_left (show (fU fK 46 l).2≤l.length from BA l)]
 unfold pg
 rw [h1]
 simp only
 rw [List.take_left',oP]
 ·unfold uO
  rw [rH]
 ·rfl
theorem CT {part:List UInt8→Bool×Nat} {R:UInt8→Prop} {c:UInt8} (hc:R c) (hp:∀ (l:List UInt8) (b:UInt8),b∈l.take (part l).2→R b):
 ∀ (n:Nat) (l:List UInt8),l.length < n→∀ b,b∈l.take (fU part c l).2→R b
 | 0,_,h=>absurd h (Nat.not_lt_zero _)
 |n + 1,l,h=>by
  intro b hb
  rw [lK] at hb
  by_cases h1:(part l).1=true
  ·rw [if_pos h1] at hb
   by_cases h2:cZ c (l.drop (part l).2)=true
   ·have h3:=gK h2
    rw [if_pos h2] at hb
    simp only at hb
    rw [List.take_add,List.mem_append,List.take_add,List.mem_append] at hb
    rcases hb with (hb|hb)|hb
    ·exact hp l b hb
    ·cases hl:l.drop (part l).2 with
     |nil=>rw [hl] at hb;simp at hb
     |cons d l'=>
      rw [hl] at hb h2
      simp at hb
      have:d=c:=by simpa [cZ] using h2
      rw [hb,this]
      exact hc
    ·exact CT hc hp n _ j5 b hb
   ·rw [if_neg h2] at hb
    exact hp l b hb
  ·rw [if_neg h1] at hb
   exact hp l b hb
def BD (b:UInt8):Prop:=¬ (b < 32∨126 < b)
instance (b:UInt8):Decidable (BD b):=by unfold BD;infer_instance
theorem TJ (b:UInt8):kG b=true→BD b:=gj (Q:=fun b=>kG b=true→BD b) gw b
theorem Gb (b:UInt8):kG b=true→b≠34:=gj (Q:=fun b=>kG b=true→b≠34) gw b
theorem WV {P:UInt8→Bool}:∀ (l:List UInt8) (b:UInt8),b∈l.takeWhile P→P b=true
 | [],_,h=>by cases h
 |c :: l,b,h=>by
  by_cases hc:P c=true
  ·rw [List.takeWhile_cons_of_pos hc] at h
   rcases List.mem_cons.mp h with rfl|h
   ·exact hc
   ·exact WV l b h
  ·rw [List.takeWhile_cons_of_neg hc] at h
   cases h
theorem Pp (l:List UInt8) (b:UInt8) (hb:b∈l.take (fU iH 46 l).2):BD b:=
 CT (R:=BD) bU (fun l b hb=>TJ b (WV l b (by
  have e:l.take (iH l).2=l.takeWhile kG:=nM kG l
  rwa [e] at hb))) _ l (Nat.lt_succ_self _) b hb
theorem zQ:∀ (n:Nat) (l acc:List UInt8),l.length < n→(∀ b,b∈acc→BD b)→∀ b,b∈(kJ l acc).2.1→BD b
 | 0,_,_,h,_ =>absurd h (Nat.not_lt_zero _)
 |n + 1,l,acc,h,ha=>by
  intro d hd
  cases l with
  |nil=>unfold kJ at hd;cases hd
  |cons b l=>
   unfold kJ at hd
   by_cases hq:b=34
   ·rw [if_pos hq] at hd
    exact ha d hd
   ·rw [if_neg hq] at hd
    by_cases hb:b=92
    ·rw [if_pos hb] at hd
     cases l with
     |nil=>cases hd
     |cons c l'=>
      by_cases hc:c < 32∨126 < c
      ·simp only [if_pos hc] at hd
       cases hd
      ·simp only [if_neg hc] at hd
       refine zQ n l' (acc ++ [c]) xW (fun x hx=>?_) d hd
       rcases List.mem_append.mp hx with hx|hx
       ·exact ha x hx
       ·rw [List.mem_singleton.mp hx];exact hc
    ·rw [if_neg hb] at hd
     by_cases hc:b < 32∨126 < b
     ·rw [if_pos hc] at hd
      cases hd
     ·rw [if_neg hc] at hd
      refine zQ n l (acc ++ [b]) xW (fun x hx=>?_) d hd
      rcases List.mem_append.mp hx with hx|hx
      ·exact ha x hx
      ·rw [List.mem_singleton.mp hx];exact hc
def xK (l:List UInt8):List UInt8:=if cZ 34 l=true then (kJ (l.drop 1) []).2.1 else l.take (fU iH 46 l).2
theorem CU (l:List UInt8):(fB l).2.1=aJ (xK l):=by
 unfold fB xK
 split<;>rfl
theorem CV (l:List UInt8) (b:UInt8) (hb:b∈xK l):BD b:=by
 unfold xK at hb
 split at hb
 ·exact zQ _ _ [] (Nat.lt_succ_self _) (fun _ h=>by cases h) b hb
 ·exact Pp l b hb
def qB (b:UInt8):List UInt8:=if b=34∨b=92 then [92,b] else [b]
def qL (l:List UInt8):List UInt8:=l.flatMap qB
theorem Gc (t:List UInt8):∀ (l acc:List UInt8),(∀ b,b∈l→BD b)→kJ (qL l ++ 34 :: t) acc=(true,acc ++ l,(qL l).length + 1)
 | [],acc,_ =>by
   show kJ (34 :: t) acc=_
   unfold kJ
   simp [qL]
 |b :: l,acc,h=>by
  have hf:=h b (List.mem_cons_self ..)
  have ih:=Gc t l (acc ++ [b]) (fun x hx=>h x (List.mem_cons_of_mem _ hx))
  have e:qL (b :: l)=qB b ++ qL l:=rfl
  rw [e,List.append_assoc]
  unfold qB
  by_cases hb:b=34∨b=92
  ·rw [if_pos hb]
   show kJ (92 :: b :: (qL l ++ 34 :: t)) acc=_
   unfold kJ
   rw [if_neg bU,if_pos rfl]
   simp only
   rw [if_neg hf,ih]
   simp
  ·rw [if_neg hb]
   show kJ (b :: (qL l ++ 34 :: t)) acc=_
   unfold kJ
   rw [if_neg (fun h=>hb (.inl h)),if_neg (fun h=>hb (.inr h)),if_neg hf,ih]
   simp
def Ch (l:List UInt8):Bool:=(fU iH 46 l).1 && (fU iH 46 l).2 == l.length
def rL (l:List UInt8):List UInt8:=if Ch l=true then l else 34 :: (qL l ++ [34])
theorem Gd (l t:List UInt8) (h:∀ b,b∈l→BD b) (ht:qz kG t) (h2:cZ 46 t=false):fB (rL l ++ t)=(true,aJ l,(rL l).length):=by
 unfold rL
 by_cases hp:Ch l=true
 ·rw [if_pos hp]
  unfold Ch at hp
  simp only [Bool.and_eq_true,beq_iff_eq] at hp
  have hn:cZ 34 (l ++ t)=false:=by
   have h1:(fU iH 46 l).1=true:=hp.1
   rw [lK] at h1
   cases l with
   |nil=>simp [iH] at h1
   |cons b l=>
    have hb:kG b=true:=by
     by_cases hb:kG b=true
     ·exact hb
     ·exfalso
      have:(iH (b :: l)).1=false:=by
       unfold iH
       rw [List.takeWhile_cons_of_neg hb]
       rfl
      rw [this] at h1
      simp at h1
    have:=Gb b hb
    show (b == 34)=false
    simpa using this
  unfold fB
  rw [if_neg (by rw [hn];decide),F9 ht h2,hp.1,hp.2,List.take_left']
  rfl
 ·rw [if_neg hp]
  unfold fB
  rw [if_pos (show cZ 34 (34 :: (qL l ++ [34]) ++ t)=true from rfl)]
  have e:((34:UInt8) :: (qL l ++ [34]) ++ t).drop 1=qL l ++ 34 :: t:=by simp
  rw [e,Gc t l [] h]
  simp
  omega
end Go.Proofs.YtokpnfljjjjikaaGreatDoor.lR
namespace Go.Proofs.YtokpnfljjjjikaaGreatDoor.lR
open Go.RowKit Go.Proofs.YtokpnfljjjjikaaGreatDoor Go.Proofs.YtokpnfljjjjikaaGreatDoor.pJ Go.Proofs.aj.bV Go.Proofs.aj.dB
set_option linter.unusedVariables false
set_option linter.unusedSimpArgs false
def sQ (d:List UInt8):Prop:=fU fK 46 d=(true,d.length)∧d.map gh=d
theorem SN (l:List UInt8) (h:(pg l).1=true):sQ (uO l):=by
 refine ⟨?_,?_⟩
 ·have h1:=WU l [] h (by intro b t' e;cases e) rfl
  rw [List.append_nil] at h1
  have h2:(fU fK 46 (uO l)).1=true:=congrArg (·.1) h1
  have h3:(fU fK 46 (uO l)).2=(uO l).length:=congrArg (·.2.2) h1
  exact Prod.ext h2 h3
 ·unfold uO
  rw [rH]
theorem sQ.read {d:List UInt8} (h:sQ d) {t:List UInt8} (ht:qz nC t) (h2:cZ 46 t=false):pg (d ++ t)=(true,aJ d,d.length):=by
 unfold pg
 rw [xI ht h2,h.1]
 simp only
 rw [List.take_left',oP,h.2]
 rfl
theorem sQ.head {d:List UInt8} (h:sQ d):∃ b d',d=b :: d'∧nC b=true:=by
 have h1:(fU fK 46 d).1=true:=by rw [h.1]
 rw [lK] at h1
 cases d with
 |nil=>simp [fK] at h1
 |cons b d'=>
  refine ⟨b,d',rfl,?_⟩
  by_cases hb:nC b=true
  ·exact hb
  ·exfalso
   have:(fK (b :: d')).1=false:=by
    unfold fK
    rw [List.takeWhile_cons_of_neg hb]
   rw [this] at h1
   simp at h1
theorem TK (b:UInt8):nC b=true→(b == 91)=false:=gj (Q:=fun b=>nC b=true→(b == 91)=false) gw b
structure zu (lo dom:List UInt8) (lit:Bool):Prop where
 los:∀ b,b∈lo→BD b
 doms:lit=false→sQ dom
 words:lit=true→Pf (aJ dom)=true∧(∀ b,b∈dom→jD b=true)∧dom.map gh=dom
def jE (lo dom:List UInt8) (lit:Bool):List UInt8:=rL lo ++ (if lit=true then 64 :: 91 :: (dom ++ [93]) else 64 :: dom)
theorem SP (t:List UInt8):qz kG (64 :: t):=by
 intro b t' e
 cases e
 decide +kernel
theorem Pq {P:UInt8→Bool} {t:List UInt8} (ht:qz P t):∀ l:List UInt8,(∀ b,b∈l→P b=true)→(l ++ t).takeWhile P=l
 | [],_ =>by
   cases t with
   |nil=>rfl
   |cons b t=>rw [List.nil_append,List.takeWhile_cons_of_neg (by rw [ht b t rfl];decide)]
 |b :: l,h=>by rw [List.cons_append,List.takeWhile_cons_of_pos (h b (List.mem_cons_self ..)),Pq ht l (fun x hx=>h x (List.mem_cons_of_mem _ hx))]
theorem drop_left (l t:List UInt8) (n:Nat):(l ++ t).drop (l.length + n)=t.drop n:=by
 rw [← List.drop_drop,List.drop_left]
theorem WW {lo dom:List UInt8} {lit:Bool} (h:zu lo dom lit) {t:List UInt8} (ht:qz nC t) (h2:cZ 46 t=false):
 l8 (jE lo dom lit ++ t)=(true,aJ lo,aJ dom,lit,(jE lo dom lit).length):=by
 unfold jE
 cases lit with
 |true=>
  obtain ⟨hl,hw,hs⟩:=h.words rfl
  simp only [if_true]
  rw [List.append_assoc]
  have e0:((64:UInt8) :: 91 :: (dom ++ [93])) ++ t=64 :: 91 :: (dom ++ 93 :: t):=by simp
  rw [e0]
  have e1:=Gd lo (64 :: 91 :: (dom ++ 93 :: t)) h.los (SP _) rfl
  unfold l8
  rw [e1]
  simp only
  rw [if_pos trivial,show ((rL lo ++ 64 :: 91 :: (dom ++ 93 :: t)).drop (rL lo).length)=64 :: 91 :: (dom ++ 93 :: t) from List.drop_left]
  rw [if_pos (show cZ 64 (64 :: 91 :: (dom ++ 93 :: t))=true from rfl),drop_left _ _ 1]
  rw [if_pos (show cZ 91 ((64 :: 91 :: (dom ++ 93 :: t)).drop 1)=true from rfl),drop_left _ _ 2]
  have e2:((64:UInt8) :: 91 :: (dom ++ 93 :: t)).drop 2=dom ++ 93 :: t:=rfl
  rw [e2,Pq (P:=jD) (t:=93 :: t) (by intro b t' e;cases e;rfl) dom hw,Nat.add_assoc,drop_left _ _ (2 + dom.length)]
  have e3:((64:UInt8) :: 91 :: (dom ++ 93 :: t)).drop (2 + dom.length)=93 :: t:=by
   rw [← List.drop_drop,e2,List.drop_left]
  rw [e3,if_pos (show cZ 93 (93 :: t)=true from rfl),hl,oP,hs]
  simp
  omega
 |false=>
  have hd:=h.doms rfl
  obtain ⟨b,d',hb,hlb⟩:=hd.head
  simp only [Bool.false_eq_true,if_false]
  rw [List.append_assoc]
  have e1:=Gd lo ((64 :: dom) ++ t) h.los (by rw [List.cons_append];exact SP _) rfl
  unfold l8
  rw [e1]
  simp only
  rw [if_pos trivial,show ((rL lo ++ ((64 :: dom) ++ t)).drop (rL lo).length)=(64 :: dom) ++ t from List.drop_left]
  rw [if_pos (show cZ 64 ((64 :: dom) ++ t)=true from rfl),drop_left _ _ 1]
  have e2:(((64:UInt8) :: dom) ++ t).drop 1=dom ++ t:=rfl
  rw [e2,if_neg (by rw [hb];show ¬ (b == 91)=true;rw [TK b hlb];decide),hd.read ht h2]
  simp
  omega
def gH:List (List UInt8)→List UInt8
 | []=>[]
 | [d]=>64 :: d
 |d :: ds=>64 :: (d ++ 44 :: gH ds)
theorem xL (c:UInt8) (h:nC c=false) (t:List UInt8):qz nC (c :: t):=by
 intro b t' e
 cases e
 exact h
theorem Ge (t:List UInt8):∀ ds:List (List UInt8),ds≠ []→(∀ d,d∈ds→sQ d)→iQ (gH ds ++ 58 :: t)=(true,ds.map aJ,(gH ds).length)
 | [],h,_ =>absurd rfl h
 | [d],_,h=>by
   have hd:=h d (List.mem_cons_self ..)
   rw [sw]
   have e:jV (gH [d] ++ 58 :: t)=(true,aJ d,1 + d.length):=by
    unfold jV
    rw [if_pos (show cZ 64 (gH [d] ++ 58 :: t)=true from rfl)]
    have e2:(gH [d] ++ 58 :: t).drop 1=d ++ 58 :: t:=rfl
    rw [e2,hd.read (xL 58 gw t) rfl]
   rw [e]
   have e3:(gH [d] ++ 58 :: t).drop (1 + d.length)=58 :: t:=by
    show ((64:UInt8) :: (d ++ 58 :: t)).drop (1 + d.length)=_
    rw [Nat.add_comm,List.drop_succ_cons,List.drop_left]
   simp only [if_true]
   rw [e3,if_neg (show ¬ cZ 44 (58 :: t)=true by simp [cZ])]
   simp [gH]
   omega
 |d :: d2 :: ds,_,h=>by
  have hd:=h d (List.mem_cons_self ..)
  have ih:=Ge t (d2 :: ds) bn (fun x hx=>h x (List.mem_cons_of_mem _ hx))
  have e0:gH (d :: d2 :: ds) ++ 58 :: t=64 :: (d ++ 44 :: (gH (d2 :: ds) ++ 58 :: t)):=by
   show (64 :: (d ++ 44 :: gH (d2 :: ds))) ++ 58 :: t=_
   simp
  rw [sw,e0]
  have e:jV (64 :: (d ++ 44 :: (gH (d2 :: ds) ++ 58 :: t)))=(true,aJ d,1 + d.length):=by
   unfold jV
   rw [if_pos (show cZ 64 (64 :: (d ++ 44 :: (gH (d2 :: ds) ++ 58 :: t)))=true from rfl)]
   have e2:((64:UInt8) :: (d ++ 44 :: (gH (d2 :: ds) ++ 58 :: t))).drop 1=d ++ 44 :: (gH (d2 :: ds) ++ 58 :: t):=rfl
   rw [e2,hd.read (xL 44 gw _) rfl]
  rw [e]
  have e3:((64:UInt8) :: (d ++ 44 :: (gH (d2 :: ds) ++ 58 :: t))).drop (1 + d.length)=44 :: (gH (d2 :: ds) ++ 58 :: t):=by
   rw [Nat.add_comm,List.drop_succ_cons,List.drop_left]
  have e4:((64:UInt8) :: (d ++ 44 :: (gH (d2 :: ds) ++ 58 :: t))).drop (1 + d.length + 1)=gH (d2 :: ds) ++ 58 :: t:=by
   rw [← List.drop_drop,e3]
   rfl
  simp only [if_true]
  rw [e3,if_pos (show cZ 44 (44 :: (gH (d2 :: ds) ++ 58 :: t))=true from rfl),e4,ih]
  simp [gH]
  omega
theorem WX (b:UInt8):gh b∈([112,111,115,116,109,97,115,116,101,114]:List UInt8)→kG b=true:=gj (Q:=fun b=>gh b∈([112,111,115,116,109,97,115,116,101,114]:List UInt8)→kG b=true) gw b
theorem TL (l:List UInt8) (h:jZ l=true):(l8 l).1=false:=by
 unfold jZ at h
 simp only [Bool.and_eq_true,decide_eq_true_eq] at h
 obtain ⟨⟨h1,h2⟩,h3⟩:=h
 rw [oP,ByteArray.toList_eq] at h2
 have h2':(l.take 10).map gh= [112,111,115,116,109,97,115,116,101,114]:=by simpa [aJ] using h2
 have ha:∀ b,b∈l.take 10→kG b=true:=fun b hb=>WX b (by rw [← h2'];exact List.mem_map_of_mem hb)
 obtain ⟨c,t,hc⟩:∃ c t,l.drop 10=c :: t:=by
  cases hd:l.drop 10 with
  |nil=>rw [hd] at h3;cases h3
  |cons c t=>exact ⟨c,t,rfl⟩
 have anQ:c=62:=by rw [hc] at h3;simpa [cZ] using h3
 subst anQ
 have e:l=l.take 10 ++ 62 :: t:=by rw [← hc,List.take_append_drop]
 have hlen:(l.take 10).length=10:=by rw [List.length_take];omega
 have hst:qz kG (62 :: t):=by
  intro b t' e
  cases e
  decide +kernel
 have htw:l.takeWhile kG=l.take 10:=by
  conv=>lhs;rw [e]
  exact Pq hst _ ha
 have hat:iH l=(true,10):=by
  unfold iH
  rw [htw,hlen]
  rfl
 have hli:fU iH 46 l=(true,10):=by
  rw [lK,hat]
  simp only [if_true]
  rw [hc,if_neg (show ¬ cZ 46 (62 :: t)=true by simp [cZ])]
 have hn:cZ 34 l=false:=by
  cases hl:l with
  |nil=>rfl
  |cons b l'=>
   have hb:kG b=true:=ha b (by rw [hl];simp)
   show (b == 34)=false
   simpa using Gb b hb
 have hlo:fB l=(true,aJ (l.take 10),10):=by
  unfold fB
  rw [if_neg (by rw [hn];decide),hli]
 unfold l8
 rw [hlo]
 simp only [if_true]
 rw [hc,if_neg (show ¬ cZ 64 (62 :: t)=true by simp [cZ])]
theorem WY (l:List UInt8):jZ (64 :: l)=false:=by
 cases h:jZ (64 :: l) with
 |false=>rfl
 |true=>
  exfalso
  unfold jZ at h
  simp only [Bool.and_eq_true,decide_eq_true_eq] at h
  obtain ⟨⟨h1,h2⟩,h3⟩:=h
  rw [oP,ByteArray.toList_eq] at h2
  have h2':((64 :: l).take 10).map gh= [112,111,115,116,109,97,115,116,101,114]:=by simpa [aJ] using h2
  rw [List.take_succ_cons,List.map_cons] at h2'
  have:=(List.cons.inj h2').1
  revert this
  decide
def iA (ds:List (List UInt8)) (lo dom:List UInt8) (lit:Bool):List UInt8:=match ds with
 | []=>jE lo dom lit
 |_ =>gH ds ++ 58 :: jE lo dom lit
theorem Ni (ds:List (List UInt8)) (h:ds≠ []):∃ l,gH ds=64 :: l:=by
 match ds,h with
 | [d],_ =>exact ⟨_,rfl⟩
 |d :: d2 :: ds,_ =>exact ⟨_,rfl⟩
theorem Pr {ds:List (List UInt8)} {lo dom:List UInt8} {lit:Bool} (hds:∀ d,d∈ds→sQ d) (h:zu lo dom lit) (t:List UInt8):
 gz (iA ds lo dom lit ++ 62 :: t)=(true,ds.map aJ,aJ lo,aJ dom,lit,(iA ds lo dom lit).length):=by
 have hb:=WW h (t:=62 :: t) (xL 62 gw t) rfl
 cases ds with
 |nil=>
  show gz (jE lo dom lit ++ 62 :: t)=_
  unfold gz
  have ha:jZ (jE lo dom lit ++ 62 :: t)=false:=by
   cases ha:jZ (jE lo dom lit ++ 62 :: t) with
   |false=>rfl
   |true=>
    have:=TL _ ha
    rw [hb] at this
    cases this
  have hn:cZ 64 (jE lo dom lit ++ 62 :: t)=false:=by
   cases hn:cZ 64 (jE lo dom lit ++ 62 :: t) with
   |false=>rfl
   |true=>
    exfalso
    have h1:(l8 (jE lo dom lit ++ 62 :: t)).1=true:=by rw [hb]
    generalize jE lo dom lit ++ 62 :: t=l at hn h1
    cases l with
    |nil=>cases hn
    |cons b l=>
     have anR:b=64:=by simpa [cZ] using hn
     subst anR
     have hlo:(fB (64 :: l)).1=false:=by
      unfold fB
      rw [if_neg (show ¬ cZ 34 (64 :: l)=true by simp [cZ])]
      show (fU iH 46 (64 :: l)).1=false
      rw [lK]
      have:(iH (64 :: l)).1=false:=by
       unfold iH
       rw [List.takeWhile_cons_of_neg gw]
       rfl
      rw [this]
      rfl
     unfold l8 at h1
     rw [hlo] at h1
     simp at h1
  rw [if_neg (by rw [ha];decide),if_neg (by rw [hn];decide),hb]
  rfl
 |cons d ds=>
  show gz ((gH (d :: ds) ++ 58 :: jE lo dom lit) ++ 62 :: t)=_
  rw [List.append_assoc,List.cons_append]
  have hr:=Ge (jE lo dom lit ++ 62 :: t) (d :: ds) bn hds
  obtain ⟨l,hl⟩:=Ni (d :: ds) bn
  have hh:gH (d :: ds) ++ 58 :: (jE lo dom lit ++ 62 :: t)=64 :: (l ++ 58 :: (jE lo dom lit ++ 62 :: t)):=by rw [hl];rfl
  unfold gz
  rw [if_neg (by rw [hh,WY];decide),if_pos (by rw [hh];rfl),hr]
  simp only [if_true]
  rw [List.drop_left,if_pos (show cZ 58 (58 :: (jE lo dom lit ++ 62 :: t))=true from rfl),drop_left _ _ 1]
  have e:((58:UInt8) :: (jE lo dom lit ++ 62 :: t)).drop 1=jE lo dom lit ++ 62 :: t:=rfl
  rw [e,hb]
  simp [iA]
  omega
end Go.Proofs.YtokpnfljjjjikaaGreatDoor.lR
namespace Go.Proofs.YtokpnfljjjjikaaGreatDoor.lR
open Go.RowKit Go.Proofs.YtokpnfljjjjikaaGreatDoor Go.Proofs.YtokpnfljjjjikaaGreatDoor.pJ Go.Proofs.aj.bV Go.Proofs.aj.dB
set_option linter.unusedVariables false
set_option linter.unusedSimpArgs false
theorem HJ {g:ByteArray→Bool} {xs:List ByteArray} (hf:∀ y,y∈xs→gD.f y=some (g y)):∀ (k i:Nat),xs.length - i < k→i≤xs.length→xs.length < 4611686018427387904→
 ∃ r,aD.l0 k xs (xs.length:Int) (i:Int)=some r∧decide (r≥0)=(xs.drop i).any g
 | 0,_,h,_,_ =>absurd h (Nat.not_lt_zero _)
 |k + 1,i,h,hi,hl=>by
  unfold aD.l0
  by_cases hlt:i < xs.length
  ·rw [if_pos aq,if_pos aq,if_pos aq]
   have hrd:kB ByteArray.empty xs (i:Int)=xs[i]:=by simp [kB,hlt]
   have hd:xs.drop i=xs[i] :: xs.drop (i + 1):=List.drop_eq_getElem_cons hlt
   rw [hrd,hf xs[i] (List.getElem_mem hlt),hd,List.any_cons]
   simp only [Option.bind_some]
   cases hg:g xs[i] with
   |true=>exact ⟨_,if_pos rfl,bn⟩
   |false=>
    rw [if_neg bU,sP i aq]
    obtain ⟨r,h1,h2⟩:=HJ hf k (i + 1) aq aq hl
    exact ⟨r,h1,by rw [h2];rfl⟩
  ·rw [if_neg aq,List.drop_of_length_le aq]
   exact ⟨_,rfl,rfl⟩
theorem acT {g:ByteArray→Bool} {xs:List ByteArray} (hf:∀ y,y∈xs→gD.f y=some (g y)) (k:Nat) (hk:xs.length < k) (hl:xs.length < 4611686018427387904):bF.f k xs=some (xs.any g):=by
 obtain ⟨r,h1,h2⟩:=HJ hf k 0 aq (Nat.zero_le _) hl
 unfold bF.f aD.f
 rw [show (0:Int)=((0:Nat):Int) from rfl,h1]
 simp only [Option.bind_some]
 rw [show decide (r≥((0:Nat):Int))=decide (r≥0) from rfl,h2,List.drop_zero]
def n7 (l:List UInt8):Bool:=(pu 10 255 (aJ l)).isNone || decide (3 < l.length)
def sY (l:List UInt8):Int:=if l.length=0 then 0 else if (pieces 58 l).any (fun p=>jf (aJ p)) then -1 else ((pieces 58 l).length:Int)
def Ld (l:List UInt8):Bool:=
 if (Lib.cut l [58,58]).2.2=true then (decide (0≤sY (Lib.cut l [58,58]).1) && (decide (0≤sY (Lib.cut l [58,58]).2.1) && decide (sY (Lib.cut l [58,58]).1 + sY (Lib.cut l [58,58]).2.1≤6)))
 else sY (Lib.cut l [58,58]).1 == 8
def CW (l:List UInt8):Bool:=decide ((pieces 46 l).length=4) && !((pieces 46 l).any n7)
def uI (l:List UInt8):Bool:=decide (5 < l.length) && ((l.take 5).map gh == [105,112,118,54,58])
def Le (l:List UInt8):Bool:=if uI l=true then Ld (l.drop 5) else CW l
theorem H6 (l:List UInt8) (hl:l.length < 4294967281):fF.f (aJ l)=some (sY l):=by
 unfold fF.f sY
 rw [if_pos (by exact hl)]
 congr 1
 rw [bX]
 by_cases h0:l.length=0
 ·rw [if_pos h0,if_pos h0]
 ·rw [if_neg h0,if_neg h0]
  rw [List.any_map]
  rfl
theorem Gf (c:UInt8) (l:List UInt8):(pieces c l).length≤l.length + 1:=by
 rw [lQ]
 have:=List.count_le_length (a:=c) (l:=l)
 omega
theorem CX (l:List UInt8): -1≤sY l∧sY l≤l.length + 1:=by
 have h:=Gf 58 l
 unfold sY
 split
 ·omega
 ·split
  ·omega
  ·omega
theorem ZV (l:List UInt8):(Lib.cut l [58,58]).1.length≤l.length∧(Lib.cut l [58,58]).2.1.length≤l.length:=by
 unfold Lib.cut
 split
 ·refine ⟨?_,?_⟩
  ·rw [List.length_take];omega
  ·rw [List.length_drop];omega
 ·exact ⟨Nat.le_refl _,Nat.zero_le _⟩
theorem acU (l:List UInt8) (hl:l.length < 4294967281):p8.f (aJ l)=some (Ld l):=by
 obtain ⟨h1,h2⟩:=ZV l
 have g1:=CX (Lib.cut l [58,58]).1
 have g2:=CX (Lib.cut l [58,58]).2.1
 unfold p8.f strings_Cut.f
 rw [if_pos (by exact hl)]
 simp only [Option.bind_some]
 show ((fF.f (aJ (Lib.cut l [58,58]).1)).bind fun t151=>((fF.f (aJ (Lib.cut l [58,58]).2.1)).bind fun t152=>_))=some (Ld l)
 rw [H6 _ aq,H6 _ aq]
 simp only [Option.bind_some]
 show (if (Lib.cut l [58,58]).2.2=true then _ else _)=_
 unfold Ld
 by_cases hg:(Lib.cut l [58,58]).2.2=true
 ·rw [if_pos hg,if_pos hg]
  by_cases ha: 0≤sY (Lib.cut l [58,58]).1
  ·rw [if_pos aq,decide_eq_true ha,Bool.true_and]
   by_cases hb: 0≤sY (Lib.cut l [58,58]).2.1
   ·rw [if_pos aq,decide_eq_true hb,Bool.true_and]
    have e:wrap64 (sY (Lib.cut l [58,58]).1 + sY (Lib.cut l [58,58]).2.1)=sY (Lib.cut l [58,58]).1 + sY (Lib.cut l [58,58]).2.1:=by unfold wrap64;omega
    rw [e]
   ·rw [if_neg aq,decide_eq_false hb,Bool.false_and]
  ·rw [if_neg aq,decide_eq_false ha,Bool.false_and]
 ·rw [if_neg hg,if_neg hg]
theorem WZ (l:List UInt8) (hl:l.length < 4294967281):gD.f (aJ l)=some (n7 l):=by
 unfold gD.f n7
 rw [if_pos ji]
 rfl
theorem Gg (c:UInt8) (l x:List UInt8) (h:x∈pieces c l):x.length≤l.length:=pZ c l x h
theorem zR (l:List UInt8) (hl:l.length < 4294967281) (k:Nat) (hk:l.length + 4 < k):bZ.f k (aJ l)=some (Le l):=by
 obtain ⟨k,rfl⟩:∃ k',k=k' + 1:=⟨k - 1,aq⟩
 have aa3:bZ.j0 (k + 1) (aJ l) false=some (CW l):=by
  rw [bZ.j0,if_neg bU,qM _ 46 Aa]
  simp only [Option.bind_some]
  show (if (((pieces 46 l).map aJ).length:Int)=4 then _ else _)=_
  unfold CW
  have hp:=Gf 46 l
  by_cases h4:(pieces 46 l).length=4
  ·rw [if_pos lV,decide_eq_true h4,Bool.true_and]
   have ha:=acT (g:=fun y=>n7 y.data.toList) (xs:=(pieces 46 l).map aJ) (fun y hy=>by
    obtain ⟨p,hp,rfl⟩:=List.mem_map.mp hy
    have:=Gg 46 l p hp
    exact WZ p aq) k lV lV
   show ((bF.f k ((pieces 46 l).map aJ)).bind _)=_
   rw [ha]
   simp only [Option.bind_some]
   rw [List.any_map]
   rfl
  ·rw [if_neg lV,decide_eq_false h4,Bool.false_and]
 unfold bZ.f Le
 rw [bX]
 by_cases h5: 5 < l.length
 ·rw [if_pos aq,if_pos bU,if_pos aq]
  have e1:(aJ l).extract 0 5=aJ (l.take 5):=by
   have:=kP (aJ l) 0 5 aq
   exact this
  have hf:cH.f (aJ (l.take 5))=some (aJ ((l.take 5).map gh)):=by
   unfold cH.f
   rw [if_pos (by rw [bX,List.length_take];omega),oP]
  rw [e1,hf]
  simp only [Option.bind_some]
  rw [show (aJ ((l.take 5).map gh)).toList=(l.take 5).map gh from ByteArray.toList_eq ..]
  have hi:uI l=((l.take 5).map gh == [105,112,118,54,58]):=by unfold uI;rw [decide_eq_true h5,Bool.true_and]
  rw [← hi]
  cases hs:uI l with
  |true=>
   rw [if_pos rfl,bZ.j0,if_pos rfl,if_pos ji]
   have e2:(aJ l).extract 5 (aJ l).size=aJ (l.drop 5):=by
    rw [kP (aJ l) 5 (aJ l).size ji,bX]
    congr 1
    show (l.drop 5).take (l.length - 5)=l.drop 5
    exact List.take_of_length_le j5
   rw [e2,acU _ j5]
   rfl
  |false=>
   rw [if_neg bU]
   exact aa3
 ·rw [if_neg aq,aa3,if_neg (by unfold uI;rw [decide_eq_false h5];simp)]
theorem Lf (l:List UInt8) (hl:l.length < 4294967281):Pf (aJ l)=Le l:=by
 unfold Pf
 rw [zR l hl _ ji]
 rfl
theorem acV (b:UInt8):(gh b == 58)=(b == 58):=gj (Q:=fun b=>(gh b == 58)=(b == 58)) gw b
theorem ZW (b:UInt8):((58:UInt8) == gh b)=((58:UInt8) == b):=gj (Q:=fun b=>((58:UInt8) == gh b)=((58:UInt8) == b)) gw b
theorem ZX (b:UInt8):sJ ((gh b).toNat:Int)=sJ (b.toNat:Int):=gj (Q:=fun b=>sJ ((gh b).toNat:Int)=sJ (b.toNat:Int)) gw b
theorem wE {c:UInt8} (hc:∀ b,(gh b == c)=(b == c)):∀ l:List UInt8,pieces c (l.map gh)=(pieces c l).map (fun p=>p.map gh)
 | []=>rfl
 |b :: l=>by
  have ih:=wE hc l
  rw [List.map_cons]
  unfold pieces
  rw [hc b,ih]
  by_cases hb:(b == c)=true
  ·rw [if_pos hb,if_pos hb]
   rfl
  ·rw [if_neg hb,if_neg hb]
   cases pieces c l with
   |nil=>rfl
   |cons p ps=>rfl
theorem Gh (l:List UInt8):bytesOf (aJ l)=l.map fun b=>(b.toNat:Int):=rfl
theorem Nj (base most:Int):∀ (l:List UInt8) (n:Int),sB base most ((l.map gh).map fun b=>(b.toNat:Int)) n=sB base most (l.map fun b=>(b.toNat:Int)) n
 | [],_ =>rfl
 |b :: l,n=>by
  rw [List.map_cons,List.map_cons,List.map_cons]
  unfold sB
  rw [ZX,Nj base most l]
theorem W4 (base most:Int) (l:List UInt8):pu base most (aJ (l.map gh))=pu base most (aJ l):=by
 unfold pu
 rw [bX,bX,List.length_map,Gh,Gh,Nj]
theorem Nk (l:List UInt8):sY (l.map gh)=sY l:=by
 unfold sY
 rw [List.length_map,wE acV,List.any_map,List.length_map]
 have e:((fun p=>jf (aJ p)) ∘fun p=>List.map gh p)=fun p=>jf (aJ p):=by
  funext p
  show jf (aJ (p.map gh))=jf (aJ p)
  unfold jf
  rw [W4,bX,bX,List.length_map]
 rw [e]
theorem H7:∀ l:List UInt8,Lib.index (l.map gh) [58,58]=Lib.index l [58,58]
 | []=>rfl
 |b :: l=>by
  rw [List.map_cons]
  unfold Lib.index
  rw [H7 l]
  have e:List.isPrefixOf [58,58] (gh b :: l.map gh)=List.isPrefixOf [58,58] (b :: l):=by
   cases l with
   |nil=>simp [List.isPrefixOf]
   |cons c l=>simp only [List.map_cons,List.isPrefixOf,ZW]
  rw [e]
theorem ZY (l:List UInt8):Lib.cut (l.map gh) [58,58]=((Lib.cut l [58,58]).1.map gh,(Lib.cut l [58,58]).2.1.map gh,(Lib.cut l [58,58]).2.2):=by
 unfold Lib.cut
 rw [H7]
 split
 ·rw [List.map_take,List.map_drop]
 ·rfl
theorem W5 (l:List UInt8):Ld (l.map gh)=Ld l:=by
 unfold Ld
 rw [ZY,Nk,Nk]
theorem TM (l:List UInt8):CW (l.map gh)=CW l:=by
 unfold CW
 rw [wE Pn,List.length_map,List.any_map]
 have e:(n7 ∘fun p=>List.map gh p)=n7:=by
  funext p
  show n7 (p.map gh)=n7 p
  unfold n7
  rw [W4,List.length_map]
 rw [e]
theorem Nl (l:List UInt8):Le (l.map gh)=Le l:=by
 have h:uI (l.map gh)=uI l:=by
  unfold uI
  rw [List.length_map,← List.map_take,rH]
 unfold Le
 rw [h,← List.map_drop,W5,TM]
theorem wF (c:UInt8):∀ (l:List UInt8) (b:UInt8),b∈l→b=c∨∃ p,p∈pieces c l∧b∈p
 | [],_,h=>by cases h
 |d :: l,b,h=>by
  unfold pieces
  by_cases hd:(d == c)=true
  ·rw [if_pos hd]
   rcases List.mem_cons.mp h with rfl|h
   ·exact .inl (by simpa using hd)
   ·rcases wF c l b h with h1|⟨p,hp,hb⟩
    ·exact .inl h1
    ·exact .inr ⟨p,List.mem_cons_of_mem _ hp,hb⟩
  ·rw [if_neg hd]
   have ih:=wF c l b
   cases hq:pieces c l with
   |nil=>exact absurd hq (rZ c l)
   |cons p ps=>
    rw [hq] at ih
    rcases List.mem_cons.mp h with rfl|h
    ·exact .inr ⟨_,List.mem_cons_self ..,List.mem_cons_self ..⟩
    ·rcases ih h with h1|⟨p',hp,hb⟩
     ·exact .inl h1
     ·rcases List.mem_cons.mp hp with rfl|hp
      ·exact .inr ⟨_,List.mem_cons_self ..,List.mem_cons_of_mem _ hb⟩
      ·exact .inr ⟨p',List.mem_cons_of_mem _ hp,hb⟩
theorem Gi (c:UInt8):∀ l:List UInt8,((pieces c l).map fun p=>p.length + 1).sum=l.length + 1
 | []=>rfl
 |d :: l=>by
  have ih:=Gi c l
  unfold pieces
  by_cases hd:(d == c)=true
  ·rw [if_pos hd,List.map_cons,List.sum_cons,ih,List.length_cons,List.length_nil]
   omega
  ·rw [if_neg hd]
   cases hq:pieces c l with
   |nil=>exact absurd hq (rZ c l)
   |cons p ps=>
    rw [hq,List.map_cons,List.sum_cons] at ih
    simp only [List.map_cons,List.sum_cons,List.length_cons]
    omega
theorem W6 (m:Nat):∀ L:List (List UInt8),(∀ p,p∈L→p.length≤m)→(L.map fun p=>p.length + 1).sum≤L.length * (m + 1)
 | [],_ =>Nat.zero_le _
 |p :: L,h=>by
  have ih:=W6 m L (fun q hq=>h q (List.mem_cons_of_mem _ hq))
  have h1:=h p (List.mem_cons_self ..)
  rw [List.map_cons,List.sum_cons,List.length_cons,Nat.add_mul]
  omega
theorem BF (c:UInt8) (m:Nat) (l:List UInt8) (h:∀ p,p∈pieces c l→p.length≤m):l.length + 1≤(pieces c l).length * (m + 1):=by
 rw [← Gi c l]
 exact W6 m _ h
theorem Nn (base most:Int):∀ (l:List Int) (n r:Int),sB base most l n=some r→∀ c,c∈l→sJ c < base
 | [],_,_,_ =>fun c h=>by cases h
 |d :: l,n,r,h=>by
  intro c hc
  unfold sB at h
  split at h
  ·cases h
  ·rename_i h1
   split at h
   ·cases h
   ·rcases List.mem_cons.mp hc with rfl|hc
    ·omega
    ·exact Nn base most l _ r h c hc
theorem W7 (base most:Int) (l:List UInt8) (h:(pu base most (aJ l)).isNone=false) (b:UInt8) (hb:b∈l):sJ (b.toNat:Int) < base:=by
 unfold pu at h
 split at h
 ·cases h
 ·cases hr:sB base most (bytesOf (aJ l)) 0 with
  |none=>rw [hr] at h;cases h
  |some r=>exact Nn base most _ 0 r hr _ (List.mem_map_of_mem hb)
theorem Np (b:UInt8):sJ (b.toNat:Int) < 16→jD b=true:=gj (Q:=fun b=>sJ (b.toNat:Int) < 16→jD b=true) gw b
theorem Gj (l:List UInt8) (h: 0≤sY l):(∀ b,b∈l→jD b=true)∧(l.length:Int)≤5 * sY l:=by
 unfold sY at h ⊢
 by_cases h0:l.length=0
 ·rw [if_pos h0]
  have:l= []:=List.eq_nil_of_length_eq_zero h0
  subst this
  exact ⟨fun b hb=>(by cases hb),bn⟩
 ·rw [if_neg h0] at h ⊢
  by_cases ha:((pieces 58 l).any fun p=>jf (aJ p))=true
  ·rw [if_pos ha] at h
   omega
  ·rw [if_neg ha]
   have hg:∀ p,p∈pieces 58 l→jf (aJ p)=false:=fun p hp=>by
    cases hb:jf (aJ p) with
    |false=>rfl
    |true=>exact absurd (List.any_eq_true.mpr ⟨p,hp,hb⟩) ha
   refine ⟨fun b hb=>?_,?_⟩
   ·rcases wF 58 l b hb with rfl|⟨p,hp,hb⟩
    ·decide
    ·have h1:=hg p hp
     unfold jf at h1
     rw [Bool.or_eq_false_iff] at h1
     exact Np b (W7 16 65535 p h1.1 b hb)
   ·have h2:=BF 58 4 l (fun p hp=>by
     have h1:=hg p hp
     unfold jf at h1
     rw [Bool.or_eq_false_iff,bX] at h1
     have:=of_decide_eq_false h1.2
     omega)
    omega
theorem CY:∀ l:List UInt8,0≤Lib.index l [58,58]→l=l.take (Lib.index l [58,58]).toNat ++ 58 :: 58 :: l.drop ((Lib.index l [58,58]).toNat + 2)
 | [],h=>by simp [Lib.index] at h
 |b :: l,h=>by
  unfold Lib.index at h ⊢
  by_cases hp:List.isPrefixOf [58,58] (b :: l)=true
  ·rw [if_pos hp]
   cases l with
   |nil=>simp [List.isPrefixOf] at hp
   |cons c l=>
    simp [List.isPrefixOf] at hp
    obtain ⟨rfl,rfl⟩:=hp
    rfl
  ·rw [if_neg hp] at h ⊢
   by_cases h1:(Lib.index l [58,58] == -1)=true
   ·rw [if_pos h1] at h
    omega
   ·rw [if_neg h1] at h ⊢
    have h2: 0≤Lib.index l [58,58]:=by
     have: ¬ Lib.index l [58,58]= -1:=by simpa using h1
     omega
    have ih:=CY l h2
    obtain ⟨n,hn⟩:∃ n:Nat,Lib.index l [58,58]=n:=⟨_,(Int.toNat_of_nonneg h2).symm⟩
    rw [hn] at ih ⊢
    rw [show ((n:Int) + 1).toNat=n + 1 from by omega]
    rw [Int.toNat_natCast] at ih
    rw [List.take_succ_cons,List.cons_append,show n + 1 + 2=(n + 2) + 1 from by omega,List.drop_succ_cons,← ih]
theorem W8 (l:List UInt8) (h:Ld l=true):(∀ b,b∈l→jD b=true)∧l.length≤100:=by
 unfold Ld at h
 unfold Lib.cut at h
 by_cases hi: 0≤Lib.index l [58,58]
 ·simp only [if_pos hi,if_true,Bool.and_eq_true,decide_eq_true_eq] at h
  obtain ⟨h1,h2,h3⟩:=h
  obtain ⟨w1,n1⟩:=Gj _ h1
  obtain ⟨w2,n2⟩:=Gj _ h2
  have e:=CY l hi
  have e2:(Lib.index l [58,58]).toNat + [58,58].length=(Lib.index l [58,58]).toNat + 2:=rfl
  rw [show ([58,58]:List UInt8).length=2 from rfl] at w2 n2 h3
  refine ⟨fun b hb=>?_,?_⟩
  ·rw [e] at hb
   rcases List.mem_append.mp hb with hb|hb
   ·exact w1 b hb
   ·rcases List.mem_cons.mp hb with rfl|hb
    ·decide
    ·rcases List.mem_cons.mp hb with rfl|hb
     ·decide
     ·exact w2 b hb
  ·rw [e,List.length_append,List.length_cons,List.length_cons]
   omega
 ·simp only [if_neg hi,Bool.false_eq_true,if_false,beq_iff_eq] at h
  obtain ⟨w1,n1⟩:=Gj l aq
  exact ⟨w1,aq⟩
theorem TN (l:List UInt8) (h:CW l=true):(∀ b,b∈l→jD b=true)∧l.length≤100:=by
 unfold CW at h
 simp only [Bool.and_eq_true,decide_eq_true_eq,Bool.not_eq_true'] at h
 obtain ⟨h1,h2⟩:=h
 have hg:∀ p,p∈pieces 46 l→n7 p=false:=fun p hp=>by
  cases hb:n7 p with
  |false=>rfl
  |true=>rw [List.any_eq_true.mpr ⟨p,hp,hb⟩] at h2;cases h2
 refine ⟨fun b hb=>?_,?_⟩
 ·rcases wF 46 l b hb with rfl|⟨p,hp,hb⟩
  ·decide
  ·have h3:=hg p hp
   unfold n7 at h3
   rw [Bool.or_eq_false_iff] at h3
   have:=W7 10 255 p h3.1 b hb
   exact Np b aq
 ·have h4:=BF 46 3 l (fun p hp=>by
   have h3:=hg p hp
   unfold n7 at h3
   rw [Bool.or_eq_false_iff] at h3
   have:=of_decide_eq_false h3.2
   omega)
  rw [h1] at h4
  omega
theorem W9 (b:UInt8):gh b∈([105,112,118,54,58]:List UInt8)→jD b=true:=gj (Q:=fun b=>gh b∈([105,112,118,54,58]:List UInt8)→jD b=true) gw b
theorem Xa (l:List UInt8) (h:Le l=true):(∀ b,b∈l→jD b=true)∧l.length≤255:=by
 unfold Le at h
 by_cases hs:uI l=true
 ·rw [if_pos hs] at h
  obtain ⟨w,n⟩:=W8 _ h
  unfold uI at hs
  simp only [Bool.and_eq_true,beq_iff_eq] at hs
  refine ⟨fun b hb=>?_,by rw [List.length_drop] at n;omega⟩
  have e:l=l.take 5 ++ l.drop 5:=(List.take_append_drop 5 l).symm
  rw [e] at hb
  rcases List.mem_append.mp hb with hb|hb
  ·exact W9 b (by rw [← hs.2];exact List.mem_map_of_mem hb)
  ·exact w b hb
 ·rw [if_neg hs] at h
  obtain ⟨w,n⟩:=TN _ h
  exact ⟨w,aq⟩
theorem TP (b:UInt8):jD (gh b)=jD b:=gj (Q:=fun b=>jD (gh b)=jD b) gw b
end Go.Proofs.YtokpnfljjjjikaaGreatDoor.lR
namespace Go.Proofs.YtokpnfljjjjikaaGreatDoor.lR
open Go.RowKit Go.Proofs.YtokpnfljjjjikaaGreatDoor Go.Proofs.YtokpnfljjjjikaaGreatDoor.pJ Go.Proofs.aj.bV Go.Proofs.aj.dB
set_option linter.unusedVariables false
set_option linter.unusedSimpArgs false
theorem Ia (a b:List UInt8):qL (a ++ b)=qL a ++ qL b:=List.flatMap_append
theorem acW (b:UInt8):(qL [b]).length≤2:=by
 show (qB b ++ []).length≤2
 unfold qB
 split<;>simp
theorem ZZ (b:UInt8) (h1: ¬ b=34) (h2: ¬ b=92):(qL [b]).length=1:=by
 show (qB b ++ []).length=1
 unfold qB
 rw [if_neg (fun h=>h.elim h1 h2)]
 rfl
theorem aa4:∀ l:List UInt8,l.length≤(qL l).length
 | []=>Nat.le_refl _
 |b :: l=>by
  have ih:=aa4 l
  have e:qL (b :: l)=qB b ++ qL l:=rfl
  rw [e,List.length_append]
  unfold qB
  split<;>simp<;>omega
theorem wG:∀ (n:Nat) (l acc:List UInt8),l.length < n→(kJ l acc).1=true→∃ x,(kJ l acc).2.1=acc ++ x∧(qL x).length + 1≤(kJ l acc).2.2
 | 0,_,_,h,_ =>absurd h (Nat.not_lt_zero _)
 |n + 1,l,acc,h,ho=>by
  cases l with
  |nil=>unfold kJ at ho;cases ho
  |cons b l=>
   unfold kJ at ho ⊢
   by_cases hq:b=34
   ·rw [if_pos hq] at ho ⊢
    exact ⟨[],bn,by simp [qL]⟩
   ·rw [if_neg hq] at ho ⊢
    by_cases hb:b=92
    ·rw [if_pos hb] at ho ⊢
     cases l with
     |nil=>cases ho
     |cons c l'=>
      by_cases hc:c < 32∨126 < c
      ·simp only [if_pos hc] at ho
       cases ho
      ·simp only [if_neg hc] at ho ⊢
       obtain ⟨x,h1,h2⟩:=wG n l' (acc ++ [c]) xW ho
       refine ⟨c :: x,by rw [h1];simp,?_⟩
       have e:qL (c :: x)=qL [c] ++ qL x:=Ia [c] x
       rw [e,List.length_append]
       have:=acW c
       omega
    ·rw [if_neg hb] at ho ⊢
     by_cases hc:b < 32∨126 < b
     ·rw [if_pos hc] at ho
      cases ho
     ·rw [if_neg hc] at ho ⊢
      obtain ⟨x,h1,h2⟩:=wG n l (acc ++ [b]) xW ho
      refine ⟨b :: x,by rw [h1];simp,?_⟩
      have e:qL (b :: x)=qL [b] ++ qL x:=Ia [b] x
      rw [e,List.length_append,ZZ b hq hb]
      show _≤_ + 1
      omega
theorem GY (l:List UInt8) (h:(fB l).1=true):(rL (xK l)).length≤(fB l).2.2:=by
 unfold fB at h ⊢
 unfold xK
 by_cases hq:cZ 34 l=true
 ·rw [if_pos hq] at h ⊢
  rw [if_pos hq]
  obtain ⟨x,h1,h2⟩:=wG _ (l.drop 1) [] (Nat.lt_succ_self _) h
  rw [List.nil_append] at h1
  rw [h1]
  have h3:=aa4 x
  unfold rL
  split
  ·show x.length≤1 + _
   omega
  ·show (34 :: (qL x ++ [34])).length≤1 + _
   rw [List.length_cons,List.length_append,List.length_cons,List.length_nil]
   omega
 ·rw [if_neg hq] at h ⊢
  rw [if_neg hq]
  have h1:=Pm l h
  have hle:(fU iH 46 l).2≤l.length:=xE iH 46 xD _ l (Nat.lt_succ_self _)
  have hp:Ch (l.take (fU iH 46 l).2)=true:=by
   unfold Ch
   rw [h1,List.length_take,Nat.min_eq_left hle]
   simp
  unfold rL
  rw [if_pos hp,List.length_take]
  exact Nat.min_le_left _ _
theorem Xb (l:List UInt8) (hl:l.length < 4294967281) (h:(l8 l).1=true):∃ (lo dom:List UInt8) (lit:Bool),zu lo dom lit∧(l8 l).2.1=aJ lo∧(l8 l).2.2.1=aJ dom∧(l8 l).2.2.2.1=lit∧(jE lo dom lit).length≤(l8 l).2.2.2.2∧dom≠ []∧(lit=true→dom.length≤255):=by
 have hlo:(fB l).1=true:=by
  unfold l8 at h
  by_cases h1:(fB l).1=true
  ·exact h1
  ·rw [if_neg h1] at h
   cases h
 have hs:=GY l hlo
 unfold l8 at h ⊢
 rw [if_pos hlo] at h ⊢
 by_cases h2:cZ 64 (l.drop (fB l).2.2)=true
 ·rw [if_pos h2] at h ⊢
  by_cases h3:cZ 91 (l.drop ((fB l).2.2 + 1))=true
  ·rw [if_pos h3] at h ⊢
   generalize hw:(l.drop ((fB l).2.2 + 2)).takeWhile jD=w at h ⊢
   have hwl:w.length≤l.length:=by
    rw [← hw]
    refine Nat.le_trans (nZ _ _) ?_
    rw [List.length_drop];omega
   by_cases h4:cZ 93 (l.drop ((fB l).2.2 + 2 + w.length))=true
   ·rw [if_pos h4] at h ⊢
    simp only at h
    rw [Lf w aq] at h
    have hg:=Xa _ h
    refine ⟨xK l,w.map gh,true,⟨CV l,fun e=>(by cases e),fun _ =>⟨?_,?_,rH w⟩⟩,CU l,oP w,rfl,?_,?_,fun _ =>by rw [List.length_map];exact hg.2⟩
    ·rw [Lf _ lV,Nl]
     exact h
    ·intro b hb
     obtain ⟨c,hc,rfl⟩:=List.mem_map.mp hb
     rw [TP]
     exact hg.1 c hc
    ·unfold jE
     rw [if_pos rfl,List.length_append]
     simp
     omega
    ·intro e
     have e2:w= []:=List.map_eq_nil_iff.mp e
     rw [e2] at h
     exact absurd h gw
   ·rw [if_neg h4] at h
    cases h
  ·rw [if_neg h3] at h ⊢
   have hd:=SN _ h
   refine ⟨xK l,uO (l.drop ((fB l).2.2 + 1)),false,⟨CV l,fun _ =>hd,fun e=>(by cases e)⟩,CU l,Cg _,rfl,?_,?_,fun e=>(by cases e)⟩
   ·unfold jE
    rw [if_neg bU,List.length_append,List.length_cons,xJ]
    show _≤(fB l).2.2 + 1 + _
    omega
   ·obtain ⟨b,d',e,_⟩:=hd.head
    rw [e]
    simp
 ·rw [if_neg h2] at h
  cases h
theorem Nq:∀ (n:Nat) (l:List UInt8),l.length < n→(iQ l).1=true→∃ ds:List (List UInt8),ds≠ []∧(∀ d,d∈ds→sQ d)∧(iQ l).2.1=ds.map aJ∧(gH ds).length≤(iQ l).2.2
 | 0,_,h,_ =>absurd h (Nat.not_lt_zero _)
 |n + 1,l,h,ho=>by
  rw [sw] at ho ⊢
  by_cases h1:(jV l).1=true
  ·rw [if_pos h1] at ho ⊢
   have h64:cZ 64 l=true:=by
    unfold jV at h1
    by_cases h64:cZ 64 l=true
    ·exact h64
    ·rw [if_neg h64] at h1
     cases h1
   have e:jV l=((pg (l.drop 1)).1,(pg (l.drop 1)).2.1,1 + (pg (l.drop 1)).2.2):=by
    unfold jV
    rw [if_pos h64]
   have hd1:(pg (l.drop 1)).1=true:=by rw [e] at h1;exact h1
   have hd:=SN _ hd1
   by_cases h2:cZ 44 (l.drop (jV l).2.2)=true
   ·have h3:=gK h2
    rw [if_pos h2] at ho ⊢
    obtain ⟨ds,h4,h5,h6,h7⟩:=Nq n (l.drop ((jV l).2.2 + 1)) j5 ho
    refine ⟨uO (l.drop 1) :: ds,bn,fun d hd'=>?_,?_,?_⟩
    ·rcases List.mem_cons.mp hd' with rfl|hd'
     ·exact hd
     ·exact h5 d hd'
    ·show (jV l).2.1 :: _=_
     rw [h6,e,List.map_cons]
     show (pg (l.drop 1)).2.1 :: _=_
     rw [Cg]
    ·obtain ⟨d2,ds',rfl⟩:∃ d2 ds',ds=d2 :: ds':=by
      cases ds with
      |nil=>exact absurd rfl h4
      |cons d2 ds'=>exact ⟨d2,ds',rfl⟩
     show (64 :: (uO (l.drop 1) ++ 44 :: gH (d2 :: ds'))).length≤(jV l).2.2 + 1 + _
     rw [List.length_cons,List.length_append,List.length_cons,xJ,e]
     simp only
     rw [e] at h7
     simp only at h7
     omega
   ·rw [if_neg h2] at ho ⊢
    refine ⟨[uO (l.drop 1)],bn,fun d hd'=>?_,?_,?_⟩
    ·rw [List.mem_singleton.mp hd']
     exact hd
    ·rw [e]
     show [(pg (l.drop 1)).2.1]= [aJ _]
     rw [Cg]
    ·show (64 :: uO (l.drop 1)).length≤_
     rw [List.length_cons,xJ,e]
     simp only
     omega
  ·rw [if_neg h1] at ho
   cases ho
theorem Xc (l:List UInt8) (hl:l.length < 4294967281) (h0:jZ l=false) (h:(gz l).1=true):∃ (ds:List (List UInt8)) (lo dom:List UInt8) (lit:Bool),(∀ d,d∈ds→sQ d)∧zu lo dom lit∧gz l=(true,ds.map aJ,aJ lo,aJ dom,lit,(gz l).2.2.2.2.2)∧(iA ds lo dom lit).length≤(gz l).2.2.2.2.2∧dom≠ []∧(lit=true→dom.length≤255):=by
 unfold gz at h ⊢
 rw [if_neg (by rw [h0];decide)] at h ⊢
 by_cases h1:cZ 64 l=true
 ·rw [if_pos h1] at h ⊢
  by_cases h2:(iQ l).1=true
  ·rw [if_pos h2] at h ⊢
   obtain ⟨ds,r1,r2,r3,r4⟩:=Nq _ l (Nat.lt_succ_self _) h2
   by_cases h3:cZ 58 (l.drop (iQ l).2.2)=true
   ·rw [if_pos h3] at h ⊢
    obtain ⟨lo,dom,lit,b1,b2,b3,b4,b5,b6,b7⟩:=Xb (l.drop ((iQ l).2.2 + 1)) j5 h
    refine ⟨ds,lo,dom,lit,r2,b1,?_,?_,b6,b7⟩
    ·rw [r3,b2,b3,b4]
     rw [show (l8 (l.drop ((iQ l).2.2 + 1))).1=true from h]
    ·cases ds with
     |nil=>exact absurd rfl r1
     |cons d ds=>
      show (gH (d :: ds) ++ 58 :: jE lo dom lit).length≤(iQ l).2.2 + 1 + _
      rw [List.length_append,List.length_cons]
      omega
   ·rw [if_neg h3] at h
    cases h
  ·rw [if_neg h2] at h
   cases h
 ·rw [if_neg h1] at h ⊢
  obtain ⟨lo,dom,lit,b1,b2,b3,b4,b5,b6,b7⟩:=Xb l hl h
  refine ⟨[],lo,dom,lit,fun d hd=>(by cases hd),b1,?_,b5,b6,b7⟩
  rw [b2,b3,b4]
  rw [show (l8 l).1=true from h]
  rfl
end Go.Proofs.YtokpnfljjjjikaaGreatDoor.lR
namespace Go.Proofs.YtokpnfljjjjikaaGreatDoor.lR
open Go.RowKit Go.Proofs.YtokpnfljjjjikaaGreatDoor Go.Proofs.YtokpnfljjjjikaaGreatDoor.pJ Go.Proofs.aj.bV Go.Proofs.aj.dB
abbrev SQ:=Bool×List ByteArray×ByteArray×ByteArray×Bool×Int×Int
def Lg:SQ:=(false,[],⟨#[]⟩,⟨#[]⟩,false,0,150)
def Lh:SQ:=(true,[],⟨#[]⟩,⟨#[]⟩,false,2,0)
theorem Ci (s:ByteArray):rest s 0=s.data.toList:=rfl
theorem prefix_eq (s:ByteArray) (hs:s.size < 4611686018427387904):strings_HasPrefix.f s ⟨#[60,62]⟩=some (wO s.data.toList):=by
 have hlen:=fN s
 unfold strings_HasPrefix.f stringslite_HasPrefix.f
 have h2:((⟨#[60,62]⟩:ByteArray).size:Int)=2:=rfl
 rw [h2]
 by_cases h: 2≤s.size
 ·rw [if_pos aq,if_pos aq,if_pos aq]
  simp only [Option.bind_some]
  congr 1
  have e:s.extract 0 ((2:Int)).toNat=aJ (s.data.toList.take 2):=by
   have:=kP s 0 2 aq
   simpa [Ci] using this
  rw [e,ByteArray.toList_eq,ByteArray.toList_eq]
  show (s.data.toList.take 2 == [60,62])=_
  unfold wO
  rcases hl:s.data.toList with _|⟨a,_|⟨b,l⟩⟩
  ·rw [hl] at hlen;simp at hlen;omega
  ·rw [hl] at hlen;simp at hlen;omega
  ·show ([a,b] == [60,62])=((a == 60) && (b == 62))
   simp [BEq.beq,List.beq]
 ·rw [if_neg aq]
  simp only [Option.bind_some]
  congr 1
  unfold wO
  rcases hl:s.data.toList with _|⟨a,_|⟨b,l⟩⟩
  ·rfl
  ·show false=((a == 60) && false)
   rw [Bool.and_false]
  ·rw [hl] at hlen;simp at hlen;omega
theorem Pt (k:Nat) (hk: 0 < k) (s:ByteArray) (q:Int) (a:Bool) (b:List ByteArray) (c d:ByteArray) (e:Bool):bS.j0 k true s q a b c d e=some Lg:=by
 obtain ⟨k,rfl⟩:∃ k',k=k' + 1:=⟨k - 1,aq⟩
 rw [bS.j0,if_pos rfl]
 rfl
theorem wH (s:ByteArray) (hs:s.size < 4294967281) (k:Nat) (h:wO s.data.toList=true):bS.f k s=some Lh:=by
 unfold bS.f
 rw [prefix_eq s aq]
 simp only [Option.bind_some]
 rw [if_pos h]
 rfl
theorem uP (s:ByteArray) (hs:s.size < 4294967281) (k:Nat) (hk:s.size + 6 < k) (h0:wO s.data.toList=false) (h:GX s.data.toList=true):
 bS.f k s=bS.j0 k false s ((2 + (gz (s.data.toList.drop 1)).2.2.2.2.2:Nat):Int) false (gz (s.data.toList.drop 1)).2.1 (gz (s.data.toList.drop 1)).2.2.1 (gz (s.data.toList.drop 1)).2.2.2.1 (gz (s.data.toList.drop 1)).2.2.2.2.1:=by
 unfold GX at h
 simp only [Bool.and_eq_true] at h
 obtain ⟨⟨h1,h2⟩,h3⟩:=h
 have hpos:=pE h1
 rw [fN] at hpos
 unfold bS.f
 rw [prefix_eq s aq]
 simp only [Option.bind_some]
 rw [if_neg (by rw [h0];decide)]
 rw [show (0:Int)=((0:Nat):Int) from rfl,nY s 0 60 60 rfl aq,Ci,if_pos h1]
 simp only [Option.bind_some,Nat.zero_add]
 have hr1:rest s 1=s.data.toList.drop 1:=rfl
 rw [inner_eq s hs k 1 pS aq,hr1]
 simp only [Option.bind_some]
 rw [if_pos h1,if_pos h2,nY s _ 62 62 rfl aq]
 have hr2:rest s (1 + (gz (s.data.toList.drop 1)).2.2.2.2.2)=s.data.toList.drop (1 + (gz (s.data.toList.drop 1)).2.2.2.2.2):=rfl
 rw [hr2,h3]
 simp only [Option.bind_some,if_true,Bool.not_true]
 rw [show 1 + (gz (s.data.toList.drop 1)).2.2.2.2.2 + 1=2 + (gz (s.data.toList.drop 1)).2.2.2.2.2 from by omega]
theorem Cj (s:ByteArray) (hs:s.size < 4294967281) (k:Nat) (hk:s.size + 6 < k) (h:∀ n,¬ F8 s.data.toList n):bS.f k s=some Lg:=by
 have h0:wO s.data.toList=false:=by
  cases hn:wO s.data.toList with
  |false=>rfl
  |true=>exact absurd (.inl ⟨hn,rfl⟩) (h 2)
 have hs0: ¬ GX s.data.toList=true:=fun hy=>h _ (.inr ⟨h0,hy,rfl⟩)
 unfold bS.f
 rw [prefix_eq s aq]
 simp only [Option.bind_some]
 rw [if_neg (by rw [h0];decide)]
 rw [show (0:Int)=((0:Nat):Int) from rfl,nY s 0 60 60 rfl aq,Ci]
 simp only [Option.bind_some]
 by_cases h1:cZ 60 s.data.toList=true
 ·have hpos:=pE h1
  rw [fN] at hpos
  have hr1:rest s 1=s.data.toList.drop 1:=rfl
  rw [if_pos h1]
  simp only [Nat.zero_add]
  rw [inner_eq s hs k 1 pS aq,hr1]
  simp only [Option.bind_some]
  rw [if_pos h1]
  by_cases h2:(gz (s.data.toList.drop 1)).1=true
  ·rw [if_pos h2,nY s _ 62 62 rfl aq]
   simp only [Option.bind_some]
   have hr2:rest s (1 + (gz (s.data.toList.drop 1)).2.2.2.2.2)=s.data.toList.drop (1 + (gz (s.data.toList.drop 1)).2.2.2.2.2):=rfl
   have h3:cZ 62 (rest s (1 + (gz (s.data.toList.drop 1)).2.2.2.2.2))=false:=by
    rw [hr2]
    cases h3:cZ 62 (s.data.toList.drop (1 + (gz (s.data.toList.drop 1)).2.2.2.2.2)) with
    |false=>rfl
    |true=>exact absurd (by unfold GX;rw [h1,h2,h3];rfl) hs0
   rw [h3]
   exact Pt k aq _ _ _ _ _ _ _
  ·rw [if_neg h2]
   exact Pt k aq _ _ _ _ _ _ _
 ·rw [if_neg h1]
  rw [inner_eq s hs k 0 pS aq]
  simp only [Option.bind_some]
  rw [if_neg h1]
  exact Pt k aq _ _ _ _ _ _ _
theorem Pv (s:ByteArray) (hs:s.size < 4294967281) (k:Nat) (hk: 2 * s.size + 10 < k):∃ r,bS.f k s=some r:=by
 by_cases h:∃ n,F8 s.data.toList n
 ·obtain ⟨n,⟨h,_⟩|⟨h0,h,_⟩⟩:=h
  ·exact ⟨_,wH s hs k h⟩
  ·rw [uP s hs k aq h0 h]
   obtain ⟨h1,h2,h3⟩:=xH (s.data.toList.drop 1)
   rw [List.length_drop,fN] at h1 h2 h3
   exact TF k s _ false _ _ _ _ s.size (fun y hy=>Nat.le_trans (h2 y hy) aq) aq aq aq
 ·exact ⟨_,Cj s hs k aq (fun n hn=>h ⟨n,hn⟩)⟩
theorem Nr (b:List ByteArray) (c d c2 d2:ByteArray) (a e a2 e2:Bool):∀ (k i:Nat),b.length - i < k→i≤b.length→b.length < 4611686018427387904→bH.l0 k (b.length:Int) (i:Int) a b c d e a2 b c2 d2 e2=some true
 | 0,_,h,_,_ =>absurd h (Nat.not_lt_zero _)
 |k + 1,i,h,hi,hl=>by
  unfold bH.l0
  by_cases hlt:i < b.length
  ·rw [if_pos aq,if_pos aq,if_pos aq,if_pos aq,if_pos rfl,sP i aq]
   exact Nr b c d c2 d2 a e a2 e2 k (i + 1) aq aq hl
  ·rw [if_neg aq]
theorem TQ (a:Bool) (b:List ByteArray) (c d:ByteArray) (e:Bool) (k:Nat) (hk:b.length + 2 < k) (hl:b.length < 4611686018427387904):bH.f k a b c d e a b c d e=some true:=by
 unfold bH.f
 obtain ⟨k,rfl⟩:∃ k',k=k' + 1:=⟨k - 1,aq⟩
 rw [if_neg bn,if_neg bn,bH.j0,if_neg bn]
 exact Nr b c d c d a e a e k 0 aq (Nat.zero_le _) hl
theorem Ns (s:ByteArray) (hs:s.size < 4294967281) (k:Nat) (hk:s.size + 6 < k) {a:Bool} {b:List ByteArray} {c d:ByteArray} {e:Bool} {q z:Int} (h:bS.f k s=some (a,b,c,d,e,q,z)):b.length≤s.size + 1:=by
 by_cases hn:∃ n,F8 s.data.toList n
 ·obtain ⟨n,⟨h1,_⟩|⟨h0,h1,_⟩⟩:=hn
  ·rw [wH s hs k h1] at h
   simp only [Lh,Option.some.injEq,Prod.mk.injEq] at h
   rw [← h.2.1]
   exact Nat.zero_le _
  ·rw [uP s hs k hk h0 h1] at h
   obtain ⟨h3,_,_⟩:=xH (s.data.toList.drop 1)
   rw [List.length_drop,fN] at h3
   obtain ⟨k,rfl⟩:∃ k',k=k' + 1:=⟨k - 1,aq⟩
   rw [bS.j0,if_neg bU] at h
   obtain ⟨w,_,h⟩:=Option.bind_eq_some_iff.mp h
   split at h
   ·split at h
    ·simp only [Option.some.injEq,Prod.mk.injEq] at h
     rw [← h.2.1]
     exact Nat.zero_le _
    ·obtain ⟨w2,_,h⟩:=Option.bind_eq_some_iff.mp h
     split at h
     ·simp only [Option.some.injEq,Prod.mk.injEq] at h
      rw [← h.2.1]
      exact Nat.zero_le _
     ·simp only [Option.some.injEq,Prod.mk.injEq] at h
      rw [← h.2.1]
      omega
   ·simp only [Option.some.injEq,Prod.mk.injEq] at h
    rw [← h.2.1]
    exact Nat.zero_le _
 ·rw [Cj s hs k hk (fun n h=>hn ⟨n,h⟩)] at h
  simp only [Lg,Option.some.injEq,Prod.mk.injEq] at h
  rw [← h.2.1]
  exact Nat.zero_le _
end Go.Proofs.YtokpnfljjjjikaaGreatDoor.lR
namespace Go.Proofs.YtokpnfljjjjikaaGreatDoor.lR
open Go.RowKit Go.Proofs.YtokpnfljjjjikaaGreatDoor Go.Proofs.YtokpnfljjjjikaaGreatDoor.pJ Go.Proofs.aj.bV Go.Proofs.aj.dB
set_option linter.unusedVariables false
set_option linter.unusedSimpArgs false
def lu (x:ByteArray):Bool:=(fI.f (x.size + 3) x).getD false
theorem xM (x:ByteArray) (k:Nat) (hk:x.size + 2 < k):fI.f k x=some (lu x):=by
 obtain ⟨r,hr⟩:=zM x (x.size + 3) aq
 have h1:lu x=r:=by unfold lu;rw [hr];rfl
 rw [h1]
 exact qD (fun k=>fI.mono x k) aq hr
theorem CZ {g:ByteArray→Bool} {k0:Nat} {xs:List ByteArray} (hf:∀ y,y∈xs→∀ k,k0≤k→gp.f k y=some (g y)):∀ (k i:Nat),xs.length - i + k0 < k→i≤xs.length→xs.length < 4611686018427387904→
 ∃ r,aI.l0 k xs (xs.length:Int) (i:Int)=some r∧decide (r≥0)=(xs.drop i).any g
 | 0,_,h,_,_ =>absurd h (Nat.not_lt_zero _)
 |k + 1,i,h,hi,hl=>by
  unfold aI.l0
  by_cases hlt:i < xs.length
  ·rw [if_pos aq,if_pos aq,if_pos aq]
   have hrd:kB ByteArray.empty xs (i:Int)=xs[i]:=by simp [kB,hlt]
   have hd:xs.drop i=xs[i] :: xs.drop (i + 1):=List.drop_eq_getElem_cons hlt
   rw [hrd,hf xs[i] (List.getElem_mem hlt) k aq,hd,List.any_cons]
   simp only [Option.bind_some]
   cases hg:g xs[i] with
   |true=>exact ⟨_,if_pos rfl,bn⟩
   |false=>
    rw [if_neg bU,sP i aq]
    obtain ⟨r,h1,h2⟩:=CZ hf k (i + 1) aq aq hl
    exact ⟨r,h1,by rw [h2];rfl⟩
  ·rw [if_neg aq,List.drop_of_length_le aq]
   exact ⟨_,rfl,rfl⟩
theorem Gk {g:ByteArray→Bool} {k0:Nat} {xs:List ByteArray} (hf:∀ y,y∈xs→∀ k,k0≤k→gp.f k y=some (g y)) (k:Nat) (hk:xs.length + k0 < k) (hl:xs.length < 4611686018427387904):bD.f k xs=some (xs.any g):=by
 obtain ⟨r,h1,h2⟩:=CZ hf k 0 aq (Nat.zero_le _) hl
 unfold bD.f aI.f
 rw [show (0:Int)=((0:Nat):Int) from rfl,h1]
 simp only [Option.bind_some]
 rw [show decide (r≥((0:Nat):Int))=decide (r≥0) from rfl,h2,List.drop_zero]
theorem C0 {g:ByteArray→Bool} {k0:Nat} {xs:List ByteArray} (hf:∀ y,y∈xs→∀ k,k0≤k→lJ.f k y=some (g y)):∀ (k i:Nat),xs.length - i + k0 < k→i≤xs.length→xs.length < 4611686018427387904→
 ∃ r,bK.l0 k xs (xs.length:Int) (i:Int)=some r∧decide (r≥0)=(xs.drop i).any g
 | 0,_,h,_,_ =>absurd h (Nat.not_lt_zero _)
 |k + 1,i,h,hi,hl=>by
  unfold bK.l0
  by_cases hlt:i < xs.length
  ·rw [if_pos aq,if_pos aq,if_pos aq]
   have hrd:kB ByteArray.empty xs (i:Int)=xs[i]:=by simp [kB,hlt]
   have hd:xs.drop i=xs[i] :: xs.drop (i + 1):=List.drop_eq_getElem_cons hlt
   rw [hrd,hf xs[i] (List.getElem_mem hlt) k aq,hd,List.any_cons]
   simp only [Option.bind_some]
   cases hg:g xs[i] with
   |true=>exact ⟨_,if_pos rfl,bn⟩
   |false=>
    rw [if_neg bU,sP i aq]
    obtain ⟨r,h1,h2⟩:=C0 hf k (i + 1) aq aq hl
    exact ⟨r,h1,by rw [h2];rfl⟩
  ·rw [if_neg aq,List.drop_of_length_le aq]
   exact ⟨_,rfl,rfl⟩
theorem Xd {g:ByteArray→Bool} {k0:Nat} {xs:List ByteArray} (hf:∀ y,y∈xs→∀ k,k0≤k→lJ.f k y=some (g y)) (k:Nat) (hk:xs.length + k0 < k) (hl:xs.length < 4611686018427387904):cA.f k xs=some (xs.any g):=by
 obtain ⟨r,h1,h2⟩:=C0 hf k 0 aq (Nat.zero_le _) hl
 unfold cA.f bK.f
 rw [show (0:Int)=((0:Nat):Int) from rfl,h1]
 simp only [Option.bind_some]
 rw [show decide (r≥((0:Nat):Int))=decide (r≥0) from rfl,h2,List.drop_zero]
structure Fits (ds:List (List UInt8)) (lo dom:List UInt8) (lit:Bool):Prop where
 los:lo.length≤64
 doms:lit=false→lu (aJ dom)=true
 many:ds.length≤20
 each:∀ d,d∈ds→lu (aJ d)=true
theorem yX (lo dom:List UInt8) (lit:Bool) (k:Nat) (hk:dom.length + 2 < k):eN.f k (aJ lo) (aJ dom) lit=some (decide (lo.length≤64) && (lit || lu (aJ dom))):=by
 unfold eN.f
 rw [bX]
 by_cases h:lo.length≤64
 ·rw [if_pos aq,decide_eq_true h,Bool.true_and]
  cases lit with
  |true=>rfl
  |false=>
   rw [if_neg bU,xM _ k (by rw [bX];exact hk)]
   rfl
 ·rw [if_neg aq,decide_eq_false h]
  rfl
theorem Ib (y:ByteArray) (k:Nat) (hk:y.size + 2 < k):gp.f k y=some (!lu y):=by
 unfold gp.f
 rw [xM y k hk]
 rfl
theorem ahg (k:Nat) (s:ByteArray) (q:Int) (ds:List (List UInt8)) (lo dom:List UInt8) (lit:Bool) (M:Nat) (hM:∀ d,d∈ds→d.length≤M) (hd:dom.length≤M) (hk:ds.length + M + 5 < k) (hl:ds.length < 4611686018427387904):
 (Fits ds lo dom lit∧bS.j0 k false s q false (ds.map aJ) (aJ lo) (aJ dom) lit=some (false,ds.map aJ,aJ lo,aJ dom,lit,q,0))∨bS.j0 k false s q false (ds.map aJ) (aJ lo) (aJ dom) lit=some (false,[],⟨#[]⟩,⟨#[]⟩,false,0,3):=by
 obtain ⟨k,rfl⟩:∃ k',k=k' + 1:=⟨k - 1,aq⟩
 rw [bS.j0,if_neg bU,yX lo dom lit k aq]
 simp only [Option.bind_some]
 by_cases hw:(decide (lo.length≤64) && (lit || lu (aJ dom)))=true
 ·rw [if_pos hw,List.length_map]
  by_cases h20:ds.length≤20
  ·rw [if_neg aq]
   rw [Gk (g:=fun y=>!lu y) (k0:=M + 3) (fun y hy k hk=>by
    obtain ⟨d,hd',rfl⟩:=List.mem_map.mp hy
    have:=hM d hd'
    exact Ib _ k ji) k lV (by rw [List.length_map];exact hl)]
   simp only [Option.bind_some]
   by_cases ha:((ds.map aJ).any fun y=>!lu y)=true
   ·rw [if_pos ha]
    exact .inr rfl
   ·rw [if_neg ha]
    simp only [Bool.and_eq_true,decide_eq_true_eq,Bool.or_eq_true] at hw
    refine .inl ⟨⟨hw.1,fun e=>?_,h20,fun d hd'=>?_⟩,rfl⟩
    ·rcases hw.2 with h|h
     ·rw [e] at h;cases h
     ·exact h
    ·cases hs:lu (aJ d) with
     |true=>rfl
     |false=>exact absurd (List.any_eq_true.mpr ⟨aJ d,List.mem_map_of_mem hd',by rw [hs];rfl⟩) ha
  ·rw [if_pos aq]
   exact .inr rfl
 ·rw [if_neg hw]
  exact .inr rfl
theorem Z0 (k:Nat) (s:ByteArray) (q:Int) (ds:List (List UInt8)) (lo dom:List UInt8) (lit:Bool) (hf:Fits ds lo dom lit) (M:Nat) (hM:∀ d,d∈ds→d.length≤M) (hd:dom.length≤M) (hk:ds.length + M + 5 < k):
 bS.j0 k false s q false (ds.map aJ) (aJ lo) (aJ dom) lit=some (false,ds.map aJ,aJ lo,aJ dom,lit,q,0):=by
 have hl:=hf.many
 obtain ⟨k,rfl⟩:∃ k',k=k' + 1:=⟨k - 1,aq⟩
 rw [bS.j0,if_neg bU,yX lo dom lit k aq]
 simp only [Option.bind_some]
 have hw:(decide (lo.length≤64) && (lit || lu (aJ dom)))=true:=by
  rw [decide_eq_true hf.los,Bool.true_and]
  cases lit with
  |true=>rfl
  |false=>rw [hf.doms rfl];rfl
 rw [if_pos hw,List.length_map,if_neg aq]
 rw [Gk (g:=fun y=>!lu y) (k0:=M + 3) (fun y hy k hk=>by
  obtain ⟨d,hd',rfl⟩:=List.mem_map.mp hy
  have:=hM d hd'
  exact Ib _ k ji) k lV lV]
 simp only [Option.bind_some]
 rw [if_neg]
 intro ha
 obtain ⟨y,hy,h1⟩:=List.any_eq_true.mp ha
 obtain ⟨d,hd',rfl⟩:=List.mem_map.mp hy
 rw [hf.each d hd'] at h1
 cases h1
theorem yY (l:List UInt8):rest (aJ l) 0=l:=rfl
theorem TR (d:List UInt8) (h:sQ d) (hs:lu (aJ d)=true) (hl:d.length < 4294967281) (k:Nat) (hk:d.length + 3 < k):fE.f k (aJ d)=some true:=by
 unfold fE.f
 have h1:=domain_eq (aJ d) ji k 0 (by rw [yY];omega) (Nat.zero_le _)
 rw [yY] at h1
 have h2:=h.read (t:=[]) (by intro b t' e;cases e) rfl
 rw [List.append_nil] at h2
 rw [h2] at h1
 rw [show (0:Int)=((0:Nat):Int) from rfl,h1]
 simp only [Option.bind_some]
 rw [if_pos trivial,if_pos ji,xM _ k ji,hs]
 rfl
theorem SR (d:List UInt8) (h:d.map gh=d) (hl:d.length < 4294967281):cH.f (aJ d)=some (aJ d):=by
 unfold cH.f
 rw [if_pos ji,oP,h]
theorem toList_mk (l:List UInt8):(aJ l).toList=l:=ByteArray.toList_eq ..
theorem SS (d:List UInt8) (h:sQ d) (hs:lu (aJ d)=true) (hl:d.length < 4294967281) (k:Nat) (hk:d.length + 3 < k):lC.f k (aJ d)=some true:=by
 unfold lC.f
 rw [TR d h hs hl k hk]
 simp only [Option.bind_some]
 rw [if_pos trivial,SR d h.2 hl]
 simp
theorem Z1 (l:List UInt8) (i:Nat) (hi:i < l.length) (h:∀ b,b∈l→BD b): ¬ bt (aJ l) (i:Int) < 32∧¬ bt (aJ l) (i:Int) > 126:=by
 have e:=WM l i hi
 have hf:BD (l.getD i 0):=h _ (by
  rw [List.getD_eq_getElem?_getD,List.getElem?_eq_getElem hi]
  exact List.getElem_mem hi)
 rw [e]
 refine ⟨fun h1=>hf (.inl (WO.mp h1)),fun h1=>hf (.inr (Na.mp h1))⟩
theorem Ic {ds:List (List UInt8)} {lo dom:List UInt8} {lit:Bool} (h:zu lo dom lit) (hf:Fits ds lo dom lit) (hl:dom.length < 4294967281):∀ (k i:Nat),lo.length - i + dom.length + 6 < k→i≤lo.length→
 eG.l0 k (lo.length:Int) (i:Int) (aJ lo) (aJ dom) lit=some true
 | 0,_,h,_ =>absurd h (Nat.not_lt_zero _)
 |k + 1,i,hk,hi=>by
  have h64:=hf.los
  unfold eG.l0
  by_cases hlt:i < lo.length
  ·obtain ⟨b1,b2⟩:=Z1 lo i hlt h.los
   rw [if_pos aq,if_pos aq,if_pos ji,if_neg b1,if_neg b2,sP i aq]
   exact Ic h hf hl k (i + 1) aq aq
  ·rw [if_neg aq]
   cases lit with
   |true=>
    obtain ⟨w1,w2,w3⟩:=h.words rfl
    rw [if_pos rfl,yX lo dom true k aq,decide_eq_true h64]
    simp only [Option.bind_some,Bool.true_or,Bool.true_and,if_true]
    rw [zR dom hl k aq,← Lf dom hl,w1]
    simp only [Option.bind_some,if_true]
    rw [SR dom w3 hl]
    simp
   |false=>
    rw [if_neg bU,yX lo dom false k aq,decide_eq_true h64,hf.doms rfl]
    simp only [Option.bind_some,Bool.or_true,Bool.true_and,if_true,Bool.false_or]
    rw [SS dom (h.doms rfl) (hf.doms rfl) hl k aq]
    rfl
theorem Nt {ds:List (List UInt8)} {lo dom:List UInt8} {lit:Bool} (h:zu lo dom lit) (hf:Fits ds lo dom lit) (hl:dom.length < 4294967281) (k:Nat) (hk:dom.length + 80 < k):eG.f k (aJ lo) (aJ dom) lit=some true:=by
 have h64:=hf.los
 unfold eG.f
 rw [bX]
 exact Ic h hf hl k 0 aq (Nat.zero_le _)
theorem Nu {ds:List (List UInt8)} {lo dom:List UInt8} {lit:Bool} (hds:∀ d,d∈ds→sQ d) (h:zu lo dom lit) (hf:Fits ds lo dom lit) (hne:dom≠ []) (M:Nat) (hM:∀ d,d∈ds→d.length≤M) (hd:dom.length≤M) (hl:M < 4294967281) (k:Nat) (hk:M + 110 < k):
 gy.f k false (ds.map aJ) (aJ lo) (aJ dom) lit=some true:=by
 have h20:=hf.many
 unfold gy.f
 rw [if_neg bU,toList_mk,toList_mk]
 rw [if_neg (by
  simp only [Bool.and_eq_true,beq_iff_eq]
  rintro ⟨_,e,_⟩
  exact hne e)]
 rw [Nt h hf aq k aq]
 simp only [Option.bind_some,if_true,List.length_map]
 rw [if_pos aq]
 rw [Xd (g:=fun _ =>false) (k0:=M + 4) (fun y hy k hk=>by
  obtain ⟨d,hd',rfl⟩:=List.mem_map.mp hy
  have:=hM d hd'
  unfold lJ.f
  rw [SS d (hds d hd') (hf.each d hd') aq k aq]
  rfl) k lV lV]
 simp
theorem kY (a b:List UInt8):aJ a ++ aJ b=aJ (a ++ b):=by
 apply ByteArray.ext
 rw [← Array.toList_inj]
 simp [aJ]
theorem TS (l:List UInt8):zL (aJ l)=aJ (qL l):=by
 have e:kV (bytesOf (aJ l))=pz (qL l):=by
  rw [Gh]
  induction l with
  |nil=>rfl
  |cons b l ih=>
   have e1:qL (b :: l)=qB b ++ qL l:=rfl
   rw [e1,List.map_cons]
   show uG (b.toNat:Int) ++ kV (l.map fun b=>(b.toNat:Int))=pz (qB b ++ qL l)
   rw [ih]
   unfold pz
   rw [List.map_append]
   congr 1
   exact gj (Q:=fun b=>uG (b.toNat:Int)=(qB b).map fun b=>(b.toNat:Int)) gw b
 unfold zL
 rw [e,M9]
theorem SU (lo dom:List UInt8) (lit:Bool) (l:List UInt8):Xx (aJ l) (aJ dom) lit=aJ (l ++ (if lit=true then 64 :: 91 :: (dom ++ [93]) else 64 :: dom)):=by
 unfold Xx
 cases lit with
 |true=>
  rw [if_pos rfl,if_pos rfl]
  show ((aJ l ++ aJ [64,91]) ++ aJ dom) ++ aJ [93]=_
  rw [kY,kY,kY]
  simp
 |false=>
  rw [if_neg bU,if_neg bU]
  show (aJ l ++ aJ [64]) ++ aJ dom=_
  rw [kY,kY]
  simp
theorem Nv {ds:List (List UInt8)} {lo dom:List UInt8} {lit:Bool} (h:zu lo dom lit) (hf:Fits ds lo dom lit) (hl:dom.length < 4294967281) (k:Nat) (hk:dom.length + 80 < k):iL.f k (aJ lo) (aJ dom) lit=some (aJ (jE lo dom lit),0):=by
 have h64:=hf.los
 unfold iL.f
 rw [Nt h hf hl k hk]
 simp only [Option.bind_some,if_true]
 unfold aK.f
 have h1:=Ce (aJ lo) ji k 0 (by rw [yY];omega) (Nat.zero_le _)
 rw [yY] at h1
 rw [show (0:Int)=((0:Nat):Int) from rfl,h1]
 simp only [Option.bind_some]
 rw [if_pos ⟨ji,ji⟩]
 congr 2
 unfold jE rL Ch
 by_cases hp:((fU iH 46 lo).1 && (fU iH 46 lo).2 == lo.length)=true
 ·rw [if_pos hp,if_pos (by
   simp only [Bool.and_eq_true,beq_iff_eq] at hp
   exact ⟨hp.1,by rw [bX,hp.2];simp⟩),SU lo]
 ·rw [if_neg hp,if_neg (by
   intro h2
   apply hp
   simp only [Bool.and_eq_true,beq_iff_eq]
   refine ⟨h2.1,?_⟩
   have:=h2.2
   rw [bX] at this
   omega)]
  have e:DL (aJ lo)=aJ (34 :: (qL lo ++ [34])):=by
   unfold DL
   rw [TS]
   show (aJ [34] ++ aJ (qL lo)) ++ aJ [34]=_
   rw [kY,kY]
   simp
  rw [e,SU lo]
theorem Gl:∀ (d:List UInt8) (ds:List (List UInt8)),64 :: Lib.join (d :: ds) [44,64]=gH (d :: ds)
 |d,[]=>by simp [Lib.join,gH,List.intercalate]
 |d,d2 :: ds=>by
  have ih:=Gl d2 ds
  have e:Lib.join (d :: d2 :: ds) [44,64]=d ++ 44 :: 64 :: Lib.join (d2 :: ds) [44,64]:=by
   unfold Lib.join
   simp [List.intercalate,List.intersperse]
  rw [e,ih]
  rfl
theorem Xe (d:List UInt8) (ds:List (List UInt8)):(⟨#[64]⟩:ByteArray) ++ joinL ((d :: ds).map aJ) ⟨#[44,64]⟩=aJ (gH (d :: ds)):=by
 have e:joinL ((d :: ds).map aJ) ⟨#[44,64]⟩=aJ (Lib.join (d :: ds) [44,64]):=by
  unfold joinL
  rw [List.map_map]
  have:((fun x:ByteArray=>x.data.toList) ∘aJ)=id:=by
   funext l
   simp [aJ]
  rw [this,List.map_id]
  rfl
 rw [e]
 show aJ [64] ++ _=_
 rw [kY]
 exact congrArg aJ (Gl d ds)
theorem Xf {ds:List (List UInt8)} {lo dom:List UInt8} {lit:Bool} (hds:∀ d,d∈ds→sQ d) (h:zu lo dom lit) (hf:Fits ds lo dom lit) (hne:dom≠ []) (M:Nat) (hM:∀ d,d∈ds→d.length≤M) (hd:dom.length≤M) (hl:M < 4294967281) (hw:(iA ds lo dom lit).length < 4294967281) (k:Nat) (hk:M + 110 < k):
 kW.f k false (ds.map aJ) (aJ lo) (aJ dom) lit=some (aJ (60 :: (iA ds lo dom lit ++ [62])),0):=by
 unfold kW.f
 rw [Nu hds h hf hne M hM hd hl k hk]
 simp only [Option.bind_some,if_true]
 rw [if_neg bU,if_neg (by rw [toList_mk];exact hne),Nv h hf aq k aq]
 simp only [Option.bind_some]
 cases ds with
 |nil=>
  have hw':(jE lo dom lit).length < 4294967281:=hw
  rw [if_neg bn,if_pos ji]
  have e:(⟨#[60]⟩:ByteArray) ++ aJ (jE lo dom lit)=aJ (60 :: jE lo dom lit):=kY [60] _
  rw [e,if_pos (by rw [bX,List.length_cons];omega)]
  have e2:aJ (60 :: jE lo dom lit) ++ (⟨#[62]⟩:ByteArray)=aJ (60 :: (jE lo dom lit ++ [62])):=kY (60 :: jE lo dom lit) [62]
  rw [e2]
  rfl
 |cons d ds=>
  have hw':(gH (d :: ds) ++ 58 :: jE lo dom lit).length < 4294967281:=hw
  rw [List.length_append,List.length_cons] at hw'
  have e0:=Xe d ds
  have es: 1 + (joinL ((d :: ds).map aJ) ⟨#[44,64]⟩).size=(gH (d :: ds)).length:=by
   have:=congrArg ByteArray.size e0
   rw [ByteArray.size_append,bX] at this
   exact this
  rw [if_pos bn]
  unfold strings_Join.f
  have h20:=hf.many
  rw [if_pos ⟨bn,lV,aq⟩]
  simp only [Option.bind_some]
  rw [if_pos aq,e0,if_pos ji]
  have e1:aJ (gH (d :: ds)) ++ (⟨#[58]⟩:ByteArray)=aJ (gH (d :: ds) ++ [58]):=kY _ [58]
  rw [e1,if_pos (by rw [bX,bX,List.length_append];simp;omega),kY]
  have e2:gH (d :: ds) ++ [58] ++ jE lo dom lit=iA (d :: ds) lo dom lit:=by
   show _=gH (d :: ds) ++ 58 :: jE lo dom lit
   simp
  rw [e2,if_pos ji]
  have e3:(⟨#[60]⟩:ByteArray) ++ aJ (iA (d :: ds) lo dom lit)=aJ (60 :: iA (d :: ds) lo dom lit):=kY [60] _
  rw [e3,if_pos (by rw [bX,List.length_cons];omega)]
  have e4:aJ (60 :: iA (d :: ds) lo dom lit) ++ (⟨#[62]⟩:ByteArray)=aJ (60 :: (iA (d :: ds) lo dom lit ++ [62])):=kY (60 :: iA (d :: ds) lo dom lit) [62]
  rw [e4]
theorem Pw {ds:List (List UInt8)} {lo dom:List UInt8} {lit:Bool} (hds:∀ d,d∈ds→sQ d) (h:zu lo dom lit) (hf:Fits ds lo dom lit) (M:Nat) (hM:∀ d,d∈ds→d.length≤M) (hd:dom.length≤M) (hw:(iA ds lo dom lit).length < 4294960000) (hne:iA ds lo dom lit≠ []) (k:Nat) (hk:M + 110 < k) (hk2:(iA ds lo dom lit).length + 20 < k) (more:List UInt8) (apY:more.length + (iA ds lo dom lit).length < 4294960000) (hk3:more.length + (iA ds lo dom lit).length + 20 < k):
 bS.f k (aJ (60 :: (iA ds lo dom lit ++ 62 :: more)))=some (false,ds.map aJ,aJ lo,aJ dom,lit,(((iA ds lo dom lit).length + 2:Nat):Int),0):=by
 have h20:=hf.many
 have hi:=Pr hds h more
 have hdata:(aJ (60 :: (iA ds lo dom lit ++ 62 :: more))).data.toList=60 :: (iA ds lo dom lit ++ 62 :: more):=rfl
 have hsz:(aJ (60 :: (iA ds lo dom lit ++ 62 :: more))).size=(iA ds lo dom lit).length + more.length + 2:=by
  rw [bX,List.length_cons,List.length_append,List.length_cons]
  omega
 have hd1:(60 :: (iA ds lo dom lit ++ 62 :: more)).drop 1=iA ds lo dom lit ++ 62 :: more:=rfl
 have ahh:wO (60 :: (iA ds lo dom lit ++ 62 :: more))=false:=by
  unfold wO
  rw [hd1]
  cases hp:iA ds lo dom lit with
  |nil=>exact absurd hp hne
  |cons b l=>
   cases hb:(b == 62) with
   |false=>
    show ((60:UInt8) == 60 && (b == 62))=false
    rw [hb]
    rfl
   |true=>
    exfalso
    have e:b=62:=by simpa using hb
    rw [hp,e] at hi
    have hx:(gz (62 :: (l ++ 62 :: more))).1=true:=by
     have:=congrArg (·.1) hi
     exact this
    revert hx
    have ha:jZ (62 :: (l ++ 62 :: more))=false:=by
     cases ha:jZ (62 :: (l ++ 62 :: more)) with
     |false=>rfl
     |true=>
      exfalso
      unfold jZ at ha
      simp only [Bool.and_eq_true,decide_eq_true_eq] at ha
      have h2:=ha.1.2
      rw [oP,toList_mk,List.take_succ_cons,List.map_cons] at h2
      have h3:gh 62=112:=(List.cons.inj (by simpa using h2:_=([112,111,115,116,109,97,115,116,101,114]:List UInt8))).1
      revert h3
      decide
    have hb1:(l8 (62 :: (l ++ 62 :: more))).1=false:=by
     have hlo:(fB (62 :: (l ++ 62 :: more))).1=false:=by
      unfold fB
      rw [if_neg (show ¬ cZ 34 (62 :: (l ++ 62 :: more))=true by simp [cZ])]
      show (fU iH 46 _).1=false
      rw [lK]
      have:(iH (62 :: (l ++ 62 :: more))).1=false:=by
       unfold iH
       rw [List.takeWhile_cons_of_neg gw]
       rfl
      rw [this]
      rfl
     unfold l8
     rw [if_neg (by rw [hlo];decide)]
    unfold gz
    rw [if_neg (by rw [ha];decide),if_neg (show ¬ cZ 64 (62 :: (l ++ 62 :: more))=true by simp [cZ])]
    simp only
    rw [hb1]
    decide
 have anS:GX (60 :: (iA ds lo dom lit ++ 62 :: more))=true:=by
  unfold GX
  rw [hd1,hi]
  simp only
  have e:(60 :: (iA ds lo dom lit ++ 62 :: more)).drop (1 + (iA ds lo dom lit).length)=62 :: more:=by
   rw [Nat.add_comm,List.drop_succ_cons,List.drop_left]
  rw [e]
  rfl
 rw [uP _ aq k aq (by rw [hdata];exact ahh) (by rw [hdata];exact anS)]
 rw [hdata,hd1,hi]
 simp only
 rw [Z0 k _ _ ds lo dom lit hf M hM hd aq]
 rw [Nat.add_comm 2]
end Go.Proofs.YtokpnfljjjjikaaGreatDoor.lR
namespace Go.Proofs.YtokpnfljjjjikaaGreatDoor.lR
open Go.RowKit Go.Proofs.YtokpnfljjjjikaaGreatDoor Go.Proofs.YtokpnfljjjjikaaGreatDoor.pJ Go.Proofs.aj.bV Go.Proofs.aj.dB
set_option linter.unusedVariables false
set_option linter.unusedSimpArgs false
def ET (b:UInt8):UInt8:=UInt8.ofNat (Ac 97 122 (-32) (b.toNat:Int)).toNat
theorem SV (f:UInt8→UInt8) (a b d:Int) (hf:∀ c:UInt8,UInt8.ofNat (Ac a b d (c.toNat:Int)).toNat=f c) (l:List UInt8) (hl:l.length≤9223372036854775807):gW.f (aJ l) a b d=some (aJ (l.map f)):=by
 unfold gW.f
 rw [if_pos Aa]
 unfold gW.g strOfNums
 rw [show bytesOf (aJ l)=l.map fun b=>(b.toNat:Int) from rfl,List.map_map,List.map_map]
 congr 1
 show aJ _=aJ _
 congr 1
 exact List.map_congr_left fun c _ =>hf c
theorem uQ (l:List UInt8) (hl:l.length≤9223372036854775807):cB.f (aJ l)=some (aJ (l.map ET)):=by
 unfold cB.f
 rw [SV ET 97 122 (-32) (fun _ =>rfl) l hl]
 rfl
theorem Xg (c:UInt8):UInt8.ofNat (Ac 65 90 32 (c.toNat:Int)).toNat=gh c:=gj (Q:=fun c=>UInt8.ofNat (Ac 65 90 32 (c.toNat:Int)).toNat=gh c) gw c
theorem Ie (l:List UInt8) (hl:l.length≤9223372036854775807):iq.f (aJ l)=some (aJ (l.map gh)):=by
 unfold iq.f
 rw [SV gh 65 90 32 Xg l hl]
 rfl
theorem ahi (b:UInt8):ET (ET b)=ET b:=gj (Q:=fun b=>ET (ET b)=ET b) gw b
theorem ahj (b:UInt8):ET b=61→b=61:=gj (Q:=fun b=>ET b=61→b=61) gw b
theorem ahk (b:UInt8):ET b=32→b=32:=gj (Q:=fun b=>ET b=32→b=32) gw b
theorem Ig (l:List UInt8):(l.map ET).map ET=l.map ET:=by
 rw [List.map_map]
 exact List.map_congr_left fun b _ =>ahi b
theorem Xh {c:UInt8} (hc:∀ b,ET b=c→b=c) {l:List UInt8} (h:c ∉ l):c ∉ l.map ET:=by
 intro hm
 obtain ⟨b,hb,e⟩:=List.mem_map.mp hm
 exact h (hc b e ▸ hb)
theorem SX (c:UInt8):Lib.cut [] [c]=([],[],false):=by simp [Lib.cut,Lib.index]
theorem SY (c:UInt8) (l:List UInt8):Lib.cut (c :: l) [c]=([],l,true):=by simp [Lib.cut,Lib.index,List.isPrefixOf]
theorem Gm (c b:UInt8) (l:List UInt8) (h:b≠c):Lib.cut (b :: l) [c]=(b :: (Lib.cut l [c]).1,(Lib.cut l [c]).2.1,(Lib.cut l [c]).2.2):=by
 have hb:(c == b)=false:=beq_eq_false_iff_ne.mpr (Ne.symm h)
 have hi:=Lib.index_ge l [c]
 have e1:Lib.index (b :: l) [c]=if Lib.index l [c] == -1 then -1 else Lib.index l [c] + 1:=by
  show (if ([c]:List UInt8).isPrefixOf (b :: l) then 0 else if Lib.index l [c] == -1 then -1 else Lib.index l [c] + 1)=_
  simp [List.isPrefixOf,hb]
 obtain ⟨i,hii⟩:∃ i,Lib.index l [c]=i:=⟨_,rfl⟩
 rw [hii] at hi e1
 by_cases hm:i= -1
 ·subst hm
  have e3:Lib.index (b :: l) [c]= -1:=e1
  unfold Lib.cut
  rw [e3,hii]
  simp
 ·obtain ⟨j,rfl⟩:∃ j:Nat,i=j:=⟨i.toNat,aq⟩
  have e3:Lib.index (b :: l) [c]=(j:Int) + 1:=by rw [e1,if_neg (by rw [beq_iff_eq];exact hm)]
  unfold Lib.cut
  rw [e3,hii,if_pos aq,if_pos aq,show ((j:Int) + 1).toNat=j + 1 by omega]
  simp
theorem sS (c:UInt8):∀ l:List UInt8,c ∉ (Lib.cut l [c]).1∧l=(Lib.cut l [c]).1 ++ (if (Lib.cut l [c]).2.2=true then c :: (Lib.cut l [c]).2.1 else [])
 | []=>by rw [SX];simp
 |b :: l=>by
  by_cases h:b=c
  ·subst h
   rw [SY]
   simp
  ·obtain ⟨h1,h2⟩:=sS c l
   rw [Gm c b l h]
   refine ⟨fun hm=>?_,?_⟩
   ·rcases List.mem_cons.mp hm with e|e
    ·exact h e.symm
    ·exact h1 e
   ·show b :: l=b :: ((Lib.cut l [c]).1 ++ _)
    rw [← h2]
theorem Li (c:UInt8) (r:List UInt8):∀ w:List UInt8,c ∉ w→Lib.cut (w ++ c :: r) [c]=(w,r,true)
 | [],_ =>SY c r
 |b :: w,h=>by
  have hb:b≠c:=fun e=>h (e ▸ List.mem_cons_self ..)
  rw [List.cons_append,Gm c b _ hb,Li c r w (fun hm=>h (List.mem_cons_of_mem _ hm))]
theorem Ck (c:UInt8):∀ w:List UInt8,c ∉ w→Lib.cut w [c]=(w,[],false)
 | [],_ =>SX c
 |b :: w,h=>by
  have hb:b≠c:=fun e=>h (e ▸ List.mem_cons_self ..)
  rw [Gm c b _ hb,Ck c w (fun hm=>h (List.mem_cons_of_mem _ hm))]
theorem Lj (l:List UInt8) (c:UInt8) (hl:l.length < 4294967281):strings_Cut.f (aJ l) ⟨#[c]⟩=some (aJ (Lib.cut l [c]).1,aJ (Lib.cut l [c]).2.1,(Lib.cut l [c]).2.2):=by
 unfold strings_Cut.f
 rw [if_pos Aa]
 rfl
def EU:List (List UInt8)→List UInt8
 | []=>[]
 |w :: ws=>32 :: (w ++ EU ws)
theorem C2 (w:List UInt8) (h:(32:UInt8) ∉ w) (r:List UInt8):∀ ps,pieces 32 r=ps→∃ p ps',pieces 32 r=p :: ps'∧pieces 32 (w ++ r)=(w ++ p) :: ps':=by
 intro ps hps
 obtain ⟨p,ps',hp⟩:∃ p ps',pieces 32 r=p :: ps':=by
  cases hq:pieces 32 r with
  |nil=>exact absurd hq (rZ 32 r)
  |cons p ps'=>exact ⟨p,ps',rfl⟩
 refine ⟨p,ps',hp,?_⟩
 clear hps
 induction w with
 |nil=>exact hp
 |cons b w ih=>
  have hb:(b == 32)=false:=beq_eq_false_iff_ne.mpr fun e=>h (e ▸ List.mem_cons_self ..)
  have ih:=ih (fun hm=>h (List.mem_cons_of_mem _ hm))
  rw [List.cons_append]
  unfold pieces
  rw [hb,ih]
  rfl
theorem Nw (ws:List (List UInt8)):∀ w,(32:UInt8) ∉ w→(∀ x,x∈ws→(32:UInt8) ∉ x)→pieces 32 (w ++ EU ws)=w :: ws:=by
 induction ws with
 |nil=>
  intro w h _
  obtain ⟨p,ps,h1,h2⟩:=C2 w h [] _ rfl
  have h3:pieces 32 []= [[]]:=rfl
  rw [h3] at h1
  injection h1 with h1 h4
  subst h1
  subst h4
  simpa [EU] using h2
 |cons x ws ih=>
  intro w h hx
  obtain ⟨p,ps,h1,h2⟩:=C2 w h (EU (x :: ws)) _ rfl
  have h3:pieces 32 (EU (x :: ws))= [] :: (x :: ws):=by
   show pieces 32 (32 :: (x ++ EU ws))=_
   rw [← ih x (hx x (List.mem_cons_self ..)) (fun y hy=>hx y (List.mem_cons_of_mem _ hy))]
   rfl
  rw [h3] at h1
  injection h1 with h1 h4
  subst h1
  subst h4
  simpa using h2
theorem TT (ws:List (List UInt8)) (h:∀ x,x∈ws→(32:UInt8) ∉ x):pieces 32 (EU ws)= [] :: ws:=by
 have:=Nw ws [] bn h
 simpa using this
theorem Gn:∀ (l p:List UInt8) (ps:List (List UInt8)),pieces 32 l=p :: ps→l=p ++ EU ps∧(32:UInt8) ∉ p∧∀ x,x∈ps→(32:UInt8) ∉ x
 | [],p,ps,h=>by
   have h3:pieces 32 []= [[]]:=rfl
   rw [h3] at h
   injection h with h1 h4
   subst h1
   subst h4
   exact ⟨rfl,bn,fun x hx=>by cases hx⟩
 |b :: l,p,ps,h=>by
  obtain ⟨q,qs,hq⟩:∃ q qs,pieces 32 l=q :: qs:=by
   cases hq:pieces 32 l with
   |nil=>exact absurd hq (rZ 32 l)
   |cons q qs=>exact ⟨q,qs,rfl⟩
  obtain ⟨h1,h2,h3⟩:=Gn l q qs hq
  unfold pieces at h
  rw [hq] at h
  by_cases hb:b=32
  ·rw [if_pos (by rw [hb];rfl)] at h
   injection h with e1 e2
   subst e1
   subst e2
   refine ⟨?_,bn,fun x hx=>?_⟩
   ·rw [hb,h1]
    rfl
   ·rcases List.mem_cons.mp hx with rfl|hx
    ·exact h2
    ·exact h3 x hx
  ·rw [if_neg (by simpa using hb)] at h
   injection h with e1 e2
   subst e1
   subst e2
   refine ⟨by rw [h1];rfl,fun hm=>?_,h3⟩
   rcases List.mem_cons.mp hm with e|e
   ·exact hb e.symm
   ·exact h2 e
def kK (x:List UInt8):ij:=⟨aJ ((Lib.cut x [61]).1.map ET),aJ (Lib.cut x [61]).2.1,(Lib.cut x [61]).2.2⟩
def qj (p:ij):List UInt8:=p.f0.data.toList ++ (if p.f2=true then 61 :: p.f1.data.toList else [])
theorem Gp (x:List UInt8):qj (kK x)=(Lib.cut x [61]).1.map ET ++ (if (Lib.cut x [61]).2.2=true then 61 :: (Lib.cut x [61]).2.1 else []):=rfl
theorem Ny (x:List UInt8):(qj (kK x)).length=x.length:=by
 rw [Gp]
 have h:=congrArg List.length (sS 61 x).2
 rw [List.length_append] at h ⊢
 rw [List.length_map]
 exact h.symm
theorem Nz (x:List UInt8):kK (qj (kK x))=kK x:=by
 have h1:=Xh ahj (sS 61 x).1
 rw [Gp]
 by_cases hb:(Lib.cut x [61]).2.2=true
 ·rw [if_pos hb]
  unfold kK
  rw [Li 61 _ _ h1]
  simp only
  rw [Ig,hb]
 ·rw [if_neg hb,List.append_nil]
  have h2:(Lib.cut x [61]).2.1= []:=by
   unfold Lib.cut at hb ⊢
   split
   ·rename_i h;rw [if_pos h] at hb;exact absurd rfl hb
   ·rfl
  unfold kK
  rw [Ck 61 _ h1,h2]
  simp only
  rw [Ig,Bool.eq_false_iff.mpr hb]
theorem TU (x:List UInt8) (h:(32:UInt8) ∉ x):(32:UInt8) ∉ qj (kK x):=by
 have h1:=(sS 61 x).2
 rw [Gp]
 have h2:(32:UInt8) ∉ (Lib.cut x [61]).1∧(32:UInt8) ∉ (if (Lib.cut x [61]).2.2=true then 61 :: (Lib.cut x [61]).2.1 else []):=by
  refine ⟨fun hm=>h ?_,fun hm=>h ?_⟩
  ·rw [h1];exact List.mem_append_left _ hm
  ·rw [h1];exact List.mem_append_right _ hm
 intro hm
 rcases List.mem_append.mp hm with hm|hm
 ·exact Xh ahk h2.1 hm
 ·exact h2.2 hm
def zw (k:Nat) (p:ij):Prop:=bW.f k p.f0 p.f1 p.f2=some true
theorem TV (x:List UInt8):(Lib.cut x [61]).1.length≤x.length:=by
 have h:=congrArg List.length (sS 61 x).2
 rw [List.length_append] at h
 omega
theorem xN (k:Nat) (x:List UInt8) (hx:x.length < 4294967281) (xs:List ByteArray) (ps:List ij):
 bQ.l k (aJ x :: xs) ps=(bW.f k (kK x).f0 (kK x).f1 (kK x).f2).bind fun b=>if b=true then bQ.l k xs (ps ++ [kK x]) else some none:=by
 show ((strings_Cut.f (aJ x) ⟨#[61]⟩).bind fun t=>(cB.f t.1).bind fun g=>(bW.f k g t.2.1 t.2.2).bind fun b=>if b=true then bQ.l k xs (ps ++ [⟨g,t.2.1,t.2.2⟩]) else some none)=_
 rw [Lj x 61 hx]
 show ((cB.f (aJ (Lib.cut x [61]).1)).bind fun g=>_)=_
 rw [uQ _ (by have:=TV x;omega)]
 rfl
theorem Gq (k:Nat):∀ (xs:List (List UInt8)) (ps P:List ij),(∀ x,x∈xs→x.length < 4294967281)→bQ.l k (xs.map aJ) ps=some (some P)→P=ps ++ xs.map kK∧∀ x,x∈xs→zw k (kK x)
 | [],ps,P,_,h=>by
   have h1:=Option.some.inj (Option.some.inj h)
   exact ⟨by rw [← h1];simp,fun x hx=>by cases hx⟩
 |x :: xs,ps,P,hx,h=>by
  rw [List.map_cons,xN k x (hx x (List.mem_cons_self ..))] at h
  obtain ⟨b,h1,h2⟩:=Option.bind_eq_some_iff.mp h
  cases b with
  |false=>
   rw [if_neg bU] at h2
   cases h2
  |true=>
   rw [if_pos rfl] at h2
   obtain ⟨h3,h4⟩:=Gq k xs _ P (fun y hy=>hx y (List.mem_cons_of_mem _ hy)) h2
   refine ⟨by rw [h3];simp,fun y hy=>?_⟩
   rcases List.mem_cons.mp hy with rfl|hy
   ·exact h1
   ·exact h4 y hy
theorem Gr (k:Nat):∀ (xs:List (List UInt8)) (ps:List ij),(∀ x,x∈xs→x.length < 4294967281)→(∀ x,x∈xs→zw k (kK x))→bQ.l k (xs.map aJ) ps=some (some (ps ++ xs.map kK))
 | [],ps,_,_ =>by simp [bQ.l]
 |x :: xs,ps,hx,h=>by
  rw [List.map_cons,xN k x (hx x (List.mem_cons_self ..))]
  have h1:bW.f k (kK x).f0 (kK x).f1 (kK x).f2=some true:=h x (List.mem_cons_self ..)
  rw [h1]
  simp only [Option.bind_some,if_true]
  rw [Gr k xs _ (fun y hy=>hx y (List.mem_cons_of_mem _ hy)) (fun y hy=>h y (List.mem_cons_of_mem _ hy))]
  simp
theorem TW (ws vs:List (List UInt8)) (h:ws.map List.length=vs.map List.length):(EU ws).length=(EU vs).length:=by
 induction ws generalizing vs with
 |nil=>
  cases vs with
  |nil=>rfl
  |cons v vs=>simp at h
 |cons w ws ih=>
  cases vs with
  |nil=>simp at h
  |cons v vs=>
   simp only [List.map_cons,List.cons.injEq] at h
   have:=ih vs h.2
   show (32 :: (w ++ EU ws)).length=(32 :: (v ++ EU vs)).length
   simp only [List.length_cons,List.length_append]
   omega
def qm (P:List ij):List UInt8:=EU (P.map qj)
theorem Cl (k:Nat) (l:List UInt8) (hl:l.length < 4294967281) (hne:l≠ []):bQ.f k (aJ l)=(bQ.l k (((pieces 32 l).map aJ).drop 1) []).bind fun o=>some (bQ.e ((pieces 32 l).map aJ) o):=by
 unfold bQ.f
 rw [if_neg (by rw [toList_mk];cases l with|nil=>exact absurd rfl hne|cons b l=>simp),qM (aJ l) 32 Aa]
 rfl
theorem NA (k:Nat) (xs:List (List UInt8)) (h32:∀ x,x∈xs→(32:UInt8) ∉ x) (hl:(EU xs).length < 4294967281) (h:∀ x,x∈xs→zw k (kK x)):bQ.f k (aJ (EU xs))=some (xs.map kK,true):=by
 have hxl:∀ (ws:List (List UInt8)) (x:List UInt8),x∈ws→x.length < (EU ws).length:=by
  intro ws
  induction ws with
  |nil=>intro x hx;cases hx
  |cons w ws ih=>
   intro x hx
   show _ < (32 :: (w ++ EU ws)).length
   simp only [List.length_cons,List.length_append]
   rcases List.mem_cons.mp hx with rfl|hx
   ·omega
   ·have:=ih x hx
    omega
 cases xs with
 |nil=>
  unfold bQ.f
  rw [if_pos (by rw [toList_mk];rfl)]
  rfl
 |cons x xs=>
  rw [Cl k _ hl (by simp [EU]),TT _ h32]
  show ((bQ.l k ((x :: xs).map aJ) []).bind fun o=>some (bQ.e (aJ [] :: (x :: xs).map aJ) o))=_
  rw [Gr k (x :: xs) [] (fun y hy=>by have:=hxl _ y hy;omega) h]
  show some (bQ.e (aJ [] :: (x :: xs).map aJ) (some ([] ++ (x :: xs).map kK)))=_
  unfold bQ.e
  simp only [List.nil_append,List.getD_cons_zero]
  rw [toList_mk]
  rfl
theorem Ll (k:Nat) (l:List UInt8) (hl:l.length < 4294967281) (P:List ij) (h:bQ.f k (aJ l)=some (P,true)):
 (qm P).length=l.length∧bQ.f k (aJ (qm P))=some (P,true)∧(∀ p,p∈P→zw k p)∧P.length≤l.length:=by
 by_cases hne:l= []
 ·subst hne
  unfold bQ.f at h
  rw [if_pos (by rw [toList_mk];rfl)] at h
  simp only [Option.some.injEq,Prod.mk.injEq] at h
  obtain ⟨rfl,_⟩:=h
  refine ⟨rfl,?_,fun p hp=>(by cases hp),bn⟩
  unfold bQ.f
  rw [if_pos (by rw [toList_mk];rfl)]
 ·rw [Cl k l hl hne] at h
  obtain ⟨p,ps,hp⟩:∃ p ps,pieces 32 l=p :: ps:=by
   cases hq:pieces 32 l with
   |nil=>exact absurd hq (rZ 32 l)
   |cons p ps=>exact ⟨p,ps,rfl⟩
  obtain ⟨e1,e2,e3⟩:=Gn l p ps hp
  rw [hp] at h
  obtain ⟨o,h1,h2⟩:=Option.bind_eq_some_iff.mp h
  have h1':bQ.l k (ps.map aJ) []=some o:=h1
  have hlen:∀ x,x∈ps→x.length < 4294967281:=fun x hx=>by
   have:=Gg 32 l x (by rw [hp];exact List.mem_cons_of_mem _ hx)
   omega
  cases o with
  |none=>
   have h3:=Option.some.inj h2
   unfold bQ.e at h3
   simp at h3
  |some Q=>
   obtain ⟨h3,h4⟩:=Gq k ps [] Q hlen h1'
   rw [List.nil_append] at h3
   subst h3
   have h5:=Option.some.inj h2
   unfold bQ.e at h5
   simp only [Prod.mk.injEq] at h5
   obtain ⟨h6,h7⟩:=h5
   subst h6
   have hpe:p= []:=by
    rw [List.map_cons,List.getD_cons_zero,toList_mk] at h7
    simpa using h7
   subst hpe
   rw [List.nil_append] at e1
   have hw:qm (ps.map kK)=EU (ps.map fun x=>qj (kK x)):=by
    unfold qm
    rw [List.map_map]
    rfl
   have aa5:(qm (ps.map kK)).length=l.length:=by
    rw [hw]
    rw [e1]
    apply TW
    rw [List.map_map]
    exact List.map_congr_left fun x _ =>Ny x
   refine ⟨aa5,?_,fun q hq=>?_,?_⟩
   ·have hb:=NA k (ps.map fun x=>qj (kK x)) (fun y hy=>by
     obtain ⟨x,hx,rfl⟩:=List.mem_map.mp hy
     exact TU x (e3 x hx)) (by rw [← hw,aa5];exact hl) (fun y hy=>by
     obtain ⟨x,hx,rfl⟩:=List.mem_map.mp hy
     show zw k (kK (qj (kK x)))
     rw [Nz]
     exact h4 x hx)
    rw [hw,hb,List.map_map]
    congr 2
    exact List.map_congr_left fun x _ =>Nz x
   ·obtain ⟨x,hx,rfl⟩:=List.mem_map.mp hq
    exact h4 x hx
   ·rw [List.length_map]
    have:=lQ 32 l
    have h8:=List.count_le_length (a:=(32:UInt8)) (l:=l)
    rw [hp,List.length_cons] at this
    omega
end Go.Proofs.YtokpnfljjjjikaaGreatDoor.lR
namespace Go.Proofs.YtokpnfljjjjikaaGreatDoor.lR
open Go.RowKit Go.Proofs.YtokpnfljjjjikaaGreatDoor Go.Proofs.YtokpnfljjjjikaaGreatDoor.pJ Go.Proofs.aj.bV Go.Proofs.aj.dB
set_option linter.unusedVariables false
set_option linter.unusedSimpArgs false
theorem Gs (k:Nat):gy.f k true [] ⟨#[]⟩ ⟨#[]⟩ false=some true:=by
 unfold gy.f
 rw [if_pos rfl,if_pos (by rfl)]
 decide +kernel
theorem Px (k:Nat):kW.f k true [] ⟨#[]⟩ ⟨#[]⟩ false=some (aJ [60,62],0):=by
 unfold kW.f
 rw [Gs]
 rfl
theorem C3 (k:Nat):gy.f k false [] lB ⟨#[]⟩ false=some true:=by
 unfold gy.f
 rw [if_neg bU,if_pos gw]
 rfl
def zS:List UInt8:=[60,112,111,115,116,109,97,115,116,101,114,62]
theorem NB (k:Nat):kW.f k false [] lB ⟨#[]⟩ false=some (aJ zS,0):=by
 unfold kW.f
 rw [C3]
 simp only [Option.bind_some,if_true]
 rw [if_neg bU,if_pos gw]
 rfl
theorem NC (k:Nat) (hk: 20 < k) (s:ByteArray) (q:Int):bS.j0 k false s q false [] lB ⟨#[]⟩ false=some (false,[],lB,⟨#[]⟩,false,q,0):=by
 obtain ⟨k,rfl⟩:∃ k',k=k' + 1:=⟨k - 1,aq⟩
 have hw:eN.f k lB ⟨#[]⟩ false=some true:=by
  unfold eN.f
  rw [if_pos gw,if_neg bU,xM ⟨#[]⟩ k (show 0 + 2 < k by omega),show lu ⟨#[]⟩=true from by decide +kernel]
  rfl
 rw [bS.j0,if_neg bU,hw]
 simp only [Option.bind_some,if_true]
 rw [if_neg bU,Gk (g:=fun _ =>false) (k0:=0) (fun y hy=>by cases hy) k (by simp;omega) bn]
 rfl
theorem Py (t:List UInt8):jZ (112 :: 111 :: 115 :: 116 :: 109 :: 97 :: 115 :: 116 :: 101 :: 114 :: 62 :: t)=true:=by
 have h1:(cH.g (aJ ([112,111,115,116,109,97,115,116,101,114]:List UInt8))).toList == ([112,111,115,116,109,97,115,116,101,114]:List UInt8):=by decide +kernel
 unfold jZ
 have h2:(112 :: 111 :: 115 :: 116 :: 109 :: 97 :: 115 :: 116 :: 101 :: 114 :: 62 :: t).take 10=([112,111,115,116,109,97,115,116,101,114]:List UInt8):=rfl
 have h3:(112 :: 111 :: 115 :: 116 :: 109 :: 97 :: 115 :: 116 :: 101 :: 114 :: 62 :: t).drop 10=(62 :: t:List UInt8):=rfl
 rw [h2,h3,h1,decide_eq_true DW]
 rfl
theorem ND (t:List UInt8) (ht:t.length < 4294960000) (k:Nat) (hk:t.length + 40 < k):bS.f k (aJ (zS ++ t))=some (false,[],lB,⟨#[]⟩,false,12,0):=by
 have hd:(aJ (zS ++ t)).data.toList=60 :: 112 :: 111 :: 115 :: 116 :: 109 :: 97 :: 115 :: 116 :: 101 :: 114 :: 62 :: t:=rfl
 have h:gz (112 :: 111 :: 115 :: 116 :: 109 :: 97 :: 115 :: 116 :: 101 :: 114 :: 62 :: t)=(true,[],lB,⟨#[]⟩,false,10):=by
  unfold gz
  rw [if_pos (Py t)]
 have hd1:(60 :: 112 :: 111 :: 115 :: 116 :: 109 :: 97 :: 115 :: 116 :: 101 :: 114 :: 62 :: t:List UInt8).drop 1=112 :: 111 :: 115 :: 116 :: 109 :: 97 :: 115 :: 116 :: 101 :: 114 :: 62 :: t:=rfl
 have hsz:(aJ (zS ++ t)).size=t.length + 12:=by
  rw [bX,List.length_append,Nat.add_comm]
  rfl
 rw [uP _ aq k aq (by rw [hd];rfl) (by
  rw [hd]
  unfold GX
  rw [hd1,h]
  rfl),hd,hd1,h]
 exact NC k aq _ _
theorem acX (ds:List (List UInt8)) (d:List UInt8) (h:d∈ds):d.length≤(gH ds).length:=by
 induction ds with
 |nil=>cases h
 |cons e ds ih=>
  cases ds with
  |nil=>
   rw [List.mem_singleton.mp h]
   show _≤(64 :: e).length
   simp
  |cons e2 ds=>
   have e0:(gH (e :: e2 :: ds)).length=e.length + (gH (e2 :: ds)).length + 2:=by
    show (64 :: (e ++ 44 :: gH (e2 :: ds))).length=_
    rw [List.length_cons,List.length_append,List.length_cons]
    omega
   rcases List.mem_cons.mp h with rfl|h
   ·omega
   ·have:=ih h
    omega
theorem Lm (ds:List (List UInt8)) (lo dom:List UInt8) (lit:Bool):(∀ d,d∈ds→d.length≤(iA ds lo dom lit).length)∧dom.length + 1≤(iA ds lo dom lit).length:=by
 have hb:dom.length + 1≤(jE lo dom lit).length:=by
  unfold jE
  rw [List.length_append]
  cases lit with
  |true=>rw [if_pos rfl,List.length_cons,List.length_cons,List.length_append];omega
  |false=>rw [if_neg bU,List.length_cons];omega
 cases ds with
 |nil=>exact ⟨fun d hd=>(by cases hd),hb⟩
 |cons e ds=>
  have e0:(iA (e :: ds) lo dom lit).length=(gH (e :: ds)).length + (jE lo dom lit).length + 1:=by
   show (gH (e :: ds) ++ 58 :: jE lo dom lit).length=_
   rw [List.length_append,List.length_cons]
   omega
  refine ⟨fun d hd=>?_,aq⟩
  have:=acX _ d hd
  omega
structure aa6 (a:Bool) (R:List ByteArray) (lo dom:ByteArray) (lit:Bool) (n:Nat) (t:List UInt8):Prop where
 le:t.length≤n
 rt:∀ k,3000000≤k→gy.f k a R lo dom lit=some true
 pr:∀ k,3000000≤k→kW.f k a R lo dom lit=some (aJ t,0)
 rd:∀ k,3000000≤k→∀ more:List UInt8,more.length≤100000→bS.f k (aJ (t ++ more))=some (a,R,lo,dom,lit,(t.length:Int),0)
 ne: 2≤t.length
theorem Pz (k:Nat) (hk: 3000000≤k) (s:ByteArray) (hs:s.size≤100000) (a:Bool) (R:List ByteArray) (lo dom:ByteArray) (lit:Bool) (q:Int) (h:bS.f k s=some (a,R,lo,dom,lit,q,0)):
 ∃ (n:Nat) (t:List UInt8),q=(n:Int)∧n≤s.size∧aa6 a R lo dom lit n t:=by
 have hlen:=fN s
 by_cases hn:∃ n,F8 s.data.toList n
 case neg=>
  rw [Cj s aq k aq (fun n h=>hn ⟨n,h⟩)] at h
  simp only [Lg,Option.some.injEq,Prod.mk.injEq] at h
  exact absurd h.2.2.2.2.2.2 bU
 obtain ⟨n,hn⟩:=hn
 have hb:=TH hn
 rcases hn with ⟨h1,rfl⟩|⟨h0,h1,rfl⟩
 ·rw [wH s aq k h1] at h
  simp only [Lh,Option.some.injEq,Prod.mk.injEq] at h
  obtain ⟨rfl,rfl,rfl,rfl,rfl,rfl,_⟩:=h
  exact ⟨2,[60,62],rfl,aq,⟨bn,fun k hk=>Gs _,fun k hk=>Px _,fun k hk more hm=>wH _ (by rw [bX];simp;omega) k (by rfl),bn⟩⟩
 ·rw [uP s aq k aq h0 h1] at h
  have hy:=h1
  unfold GX at hy
  simp only [Bool.and_eq_true] at hy
  obtain ⟨⟨y1,y2⟩,y3⟩:=hy
  have hdl:(s.data.toList.drop 1).length < 4294967281:=by rw [List.length_drop];omega
  by_cases ha:jZ (s.data.toList.drop 1)=true
  ·have hi:gz (s.data.toList.drop 1)=(true,[],lB,⟨#[]⟩,false,10):=by
    unfold gz
    rw [if_pos ha]
   rw [hi] at h hb
   simp only at h hb
   rw [NC _ aq] at h
   simp only [Option.some.injEq,Prod.mk.injEq] at h
   obtain ⟨rfl,rfl,rfl,rfl,rfl,rfl,_⟩:=h
   exact ⟨12,zS,rfl,aq,⟨by simp [zS],fun k hk=>C3 _,fun k hk=>NB _,fun k hk more hm=>ND more aq k aq,by simp [zS]⟩⟩
  ·obtain ⟨ds,lo2,TX,TY,d1,d2,d3,d4,d5,d6⟩:=Xc _ hdl (Bool.eq_false_iff.mpr ha) y2
   obtain ⟨w1,w2⟩:=Lm ds lo2 TX TY
   obtain ⟨m,hm⟩:∃ m,(gz (s.data.toList.drop 1)).2.2.2.2.2=m:=⟨_,rfl⟩
   rw [hm] at d3 d4 hb
   rw [d3] at h
   simp only at h
   have hds:ds.length≤1048600:=by
    have h1:=(xH (s.data.toList.drop 1)).1
    rw [d3] at h1
    simp only [List.length_map,List.length_drop] at h1
    omega
   rcases ahg k s ((2 + m:Nat):Int) ds lo2 TX TY 1048600 (fun d hd=>Nat.le_trans (w1 d hd) aq) aq aq aq with ⟨hf,hj⟩|hj
   ·have h:=hj.symm.trans h
    simp only [Option.some.injEq,Prod.mk.injEq] at h
    obtain ⟨rfl,rfl,rfl,rfl,rfl,rfl,_⟩:=h
    have hne:iA ds lo2 TX TY≠ []:=by
     intro e
     rw [e] at w2
     simp at w2
    have hlt:(60 :: (iA ds lo2 TX TY ++ [62])).length=(iA ds lo2 TX TY).length + 2:=by
     rw [List.length_cons,List.length_append]
     rfl
    refine ⟨2 + m,60 :: (iA ds lo2 TX TY ++ [62]),rfl,aq,⟨aq,fun k hk=>Nu d1 d2 hf d5 1048600 (fun d hd=>Nat.le_trans (w1 d hd) aq) aq aq _ aq,fun k hk=>Xf d1 d2 hf d5 1048600 (fun d hd=>Nat.le_trans (w1 d hd) aq) aq aq aq _ aq,fun k hk more hm=>?_,aq⟩⟩
    have hpb:=Pw d1 d2 hf 1048600 (fun d hd=>Nat.le_trans (w1 d hd) aq) aq aq hne k aq aq more aq aq
    rw [hlt]
    rw [← hpb]
    congr 2
    simp
   ·have h:=hj.symm.trans h
    simp only [Option.some.injEq,Prod.mk.injEq] at h
    exact absurd h.2.2.2.2.2.2 bU
theorem nj (d:List UInt8) (hl:d.length < 4294967281) (k:Nat) (hk:d.length + 3 < k):fE.f k (aJ d)=some (decide (fU fK 46 d=(true,d.length)) && lu (aJ d)):=by
 unfold fE.f
 have h1:=domain_eq (aJ d) ji k 0 (by rw [yY];omega) (Nat.zero_le _)
 rw [yY] at h1
 rw [show (0:Int)=((0:Nat):Int) from rfl,h1]
 simp only [Option.bind_some,Nat.zero_add]
 have e1:(pg d).1=(fU fK 46 d).1:=rfl
 have e2:(pg d).2.2=(fU fK 46 d).2:=rfl
 rw [e1,e2]
 by_cases h2:(fU fK 46 d).1=true
 ·rw [if_pos h2]
  by_cases h3:(fU fK 46 d).2=d.length
  ·rw [if_pos ji,xM _ k ji,decide_eq_true (Prod.ext h2 h3)]
   rfl
  ·rw [if_neg ji,decide_eq_false (fun e=>h3 (by rw [e]))]
   rfl
 ·rw [if_neg h2,decide_eq_false (fun e=>h2 (by rw [e]))]
  rfl
theorem TZ (l:List UInt8) (hl:l.length < 4294967281):lu (aJ (l.map gh))=lu (aJ l):=by
 have h1:∀ k,fI.f k (aJ (l.map gh))=fI.f k (aJ l):=by
  intro k
  unfold fI.f
  rw [bX,bX,List.length_map,qM (aJ (l.map gh)) 46 (by rw [bX,List.length_map];exact hl),qM (aJ l) 46 Aa]
  have hp:pieces 46 (aJ (l.map gh)).data.toList=(pieces 46 l).map fun p=>p.map gh:=wE Pn l
  have hp2:(aJ l).data.toList=l:=rfl
  rw [hp,hp2]
  have hrun:∀ (j:Nat) (xs ys:List ByteArray) (i:Int),xs.map ByteArray.size=ys.map ByteArray.size→aH.l0 j xs (xs.length:Int) i=aH.l0 j ys (ys.length:Int) i:=by
   intro j
   induction j with
   |zero=>intro xs ys i _;rfl
   |succ j ih=>
    intro xs ys i hxy
    have hlen:xs.length=ys.length:=by simpa using congrArg List.length hxy
    unfold aH.l0
    rw [hlen]
    have hrd:(kB ByteArray.empty xs i).size=(kB ByteArray.empty ys i).size:=by
     unfold kB
     have h2:xs[i.toNat]?.map ByteArray.size=ys[i.toNat]?.map ByteArray.size:=by rw [← List.getElem?_map,← List.getElem?_map,hxy]
     rw [List.getD_eq_getElem?_getD,List.getD_eq_getElem?_getD]
     cases hx:xs[i.toNat]? <;>cases hy:ys[i.toNat]? <;>rw [hx,hy] at h2<;>simp_all
    have h1:ke.f (kB ByteArray.empty xs i)=ke.f (kB ByteArray.empty ys i):=by
     unfold ke.f
     rw [hrd]
    rw [h1]
    have hih:=ih xs ys (wrap64 (i + 1)) hxy
    rw [hlen] at hih
    rw [hih]
  have hf:∀ j xs ys,xs.map ByteArray.size=ys.map ByteArray.size→bM.f j xs=bM.f j ys:=by
   intro j xs ys hxy
   unfold bM.f aH.f
   rw [hrun j xs ys 0 hxy]
  simp only [Option.bind_some]
  rw [hf k (((pieces 46 l).map fun p=>p.map gh).map aJ) ((pieces 46 l).map aJ) (by
   rw [List.map_map,List.map_map,List.map_map]
   exact List.map_congr_left fun p _ =>by
    show (aJ (p.map gh)).size=(aJ p).size
    rw [bX,bX,List.length_map])]
 unfold lu
 rw [bX,bX,List.length_map,h1]
theorem zT (l:List UInt8) (hl:l.length < 4294967281) (k:Nat) (hk:l.length + 3 < k):fE.f k (aJ (l.map gh))=fE.f k (aJ l):=by
 rw [nj l hl k hk,nj _ (by rw [List.length_map];exact hl) k (by rw [List.length_map];exact hk),zP _ l (Nat.lt_succ_self _),List.length_map,TZ l hl]
theorem acY (b:UInt8):(gh b).toNat=91↔b.toNat=91:=gj (Q:=fun b=>(gh b).toNat=91↔b.toNat=91) gw b
theorem acZ (b:UInt8):(gh b).toNat=93↔b.toNat=93:=gj (Q:=fun b=>(gh b).toNat=93↔b.toNat=93) gw b
theorem Xi (l:List UInt8) (i:Nat) (hi:i < l.length):bt (aJ l) (i:Int)=((l.getD i 0).toNat:Int):=by
 have h:=(pO (s:=aJ l) (p:=i) (b:=l.getD i 0) (l:=l.drop (i + 1)) (by
  show l.drop i=_
  rw [List.drop_eq_getElem_cons hi,List.getD_eq_getElem?_getD,List.getElem?_eq_getElem hi]
  rfl)).2.1
 exact h
theorem extract_mk (l:List UInt8) (a b:Nat):(aJ l).extract a b=aJ ((l.drop a).take (b - a)):=by
 apply ByteArray.ext
 rw [ByteArray.data_extract]
 show l.toArray.extract a b=((l.drop a).take (b - a)).toArray
 simp
def Ih (l:List UInt8):Bool:=decide (2 < l.length) && (decide ((l.getD 0 0).toNat=91) && (decide ((l.getD (l.length - 1) 0).toNat=93) && Le ((l.drop 1).take (l.length - 2))))
theorem Gt (l:List UInt8) (hl:l.length < 4294967281) (k:Nat) (hk:l.length + 4 < k):gM.f k (aJ l)=some (Ih l):=by
 unfold gM.f Ih
 rw [bX]
 by_cases h2: 2 < l.length
 ·have hw:wrap64 ((l.length:Int) - 1)=((l.length - 1:Nat):Int):=by unfold wrap64;omega
  rw [hw,if_pos aq,if_pos aq,decide_eq_true h2,Bool.true_and]
  have b0:=Xi l 0 aq
  have b1:=Xi l (l.length - 1) aq
  rw [show bt (aJ l) 0=((l.getD 0 0).toNat:Int) from b0,b1]
  by_cases h91:(l.getD 0 0).toNat=91
  ·rw [if_pos aq,if_pos aq,if_pos aq,decide_eq_true h91,Bool.true_and]
   by_cases h93:(l.getD (l.length - 1) 0).toNat=93
   ·rw [if_pos aq,if_pos aq,if_pos aq,decide_eq_true h93,Bool.true_and,extract_mk,show (((l.length - 1:Nat):Int)).toNat - 1=l.length - 2 by omega,zR _ (by rw [List.length_take,List.length_drop];omega) k (by rw [List.length_take,List.length_drop];omega)]
    rfl
   ·rw [if_neg aq,decide_eq_false h93]
    rfl
  ·rw [if_neg aq,decide_eq_false h91]
   rfl
 ·rw [if_neg aq,decide_eq_false h2]
  rfl
theorem T4 (l:List UInt8):Ih (l.map gh)=Ih l:=by
 unfold Ih
 rw [List.length_map,Ga,Ga]
 have e1:decide ((gh (l.getD 0 0)).toNat=91)=decide ((l.getD 0 0).toNat=91):=by rw [decide_eq_decide];exact acY _
 have e2:decide ((gh (l.getD (l.length - 1) 0)).toNat=93)=decide ((l.getD (l.length - 1) 0).toNat=93):=by rw [decide_eq_decide];exact acZ _
 rw [e1,e2,← List.map_drop,← List.map_take,Nl]
end Go.Proofs.YtokpnfljjjjikaaGreatDoor.lR
namespace Go.Proofs.YtokpnfljjjjikaaGreatDoor.lR
open Go.RowKit Go.Proofs.YtokpnfljjjjikaaGreatDoor Go.Proofs.YtokpnfljjjjikaaGreatDoor.pJ Go.Proofs.aj.bV Go.Proofs.aj.dB
set_option linter.unusedVariables false
set_option linter.unusedSimpArgs false
theorem mk_data (s:ByteArray):aJ s.data.toList=s:=by
 obtain ⟨⟨l⟩⟩:=s
 rfl
theorem Xj {k k':Nat} (h:k≤k') {p:ij} (hp:zw k p):zw k' p:=qD (fun k=>bW.mono _ _ _ k) h hp
theorem C4 (s v:ByteArray) (b:Bool) (hv:v.size < 4611686018427387904):∀ (k i:Nat),v.size - i < k→i≤v.size→∃ r,bW.l1 k (v.size:Int) (i:Int) s v b=some r
 | 0,i,h,_ =>absurd h (Nat.not_lt_zero _)
 |k + 1,i,h,hi=>by
  unfold bW.l1
  by_cases hlt:i < v.size
  ·have hw:wrap64 ((i:Int) + 1)=((i + 1:Nat):Int):=by unfold wrap64;omega
   rw [if_pos aq,if_pos aq,if_pos aq,hw]
   have ih:=C4 s v b hv k (i + 1) aq aq
   repeat' split
   all_goals first|exact ⟨_,rfl⟩|exact ih
  ·rw [if_neg aq]
   split
   ·exact ⟨_,rfl⟩
   ·exact ⟨_,rfl⟩
theorem C5 (s v:ByteArray) (b:Bool) (hs:s.size < 4611686018427387904) (hv:v.size < 4611686018427387904):∀ (k i:Nat),s.size - i + v.size + 2 < k→i≤s.size→∃ r,bW.l0 k (s.size:Int) (i:Int) s v b=some r
 | 0,i,h,_ =>absurd h (Nat.not_lt_zero _)
 |k + 1,i,h,hi=>by
  have h1:=C4 s v b hv k 0 aq aq
  unfold bW.l0
  by_cases hlt:i < s.size
  ·have hw:wrap64 ((i:Int) + 1)=((i + 1:Nat):Int):=by unfold wrap64;omega
   rw [if_pos aq,if_pos aq,if_pos aq,hw]
   have ih:=C5 s v b hs hv k (i + 1) aq aq
   repeat' split
   all_goals first|exact ⟨_,rfl⟩|exact ih
  ·rw [if_neg aq]
   exact h1
theorem PA (s v:ByteArray) (b:Bool) (hs:s.size < 4611686018427387904) (hv:v.size < 4611686018427387904) (k:Nat) (hk:s.size + v.size + 2 < k):∃ r,bW.f k s v b=some r:=C5 s v b hs hv k 0 aq (Nat.zero_le _)
theorem zx (k:Nat):∀ (xs:List (List UInt8)) (ps:List ij),(∀ x,x∈xs→x.length < 100000)→300000≤k→∃ r,bQ.l k (xs.map aJ) ps=some r
 | [],ps,_,_ =>⟨_,rfl⟩
 |x :: xs,ps,hx,hk=>by
  have hx0:=hx x (List.mem_cons_self ..)
  rw [List.map_cons,xN k x aq]
  have hc:=congrArg List.length (sS 61 x).2
  rw [List.length_append] at hc
  have h1:(kK x).f0.size≤x.length:=by
   show (aJ ((Lib.cut x [61]).1.map ET)).size≤_
   rw [bX,List.length_map]
   omega
  have h2:(kK x).f1.size≤x.length:=by
   show (aJ (Lib.cut x [61]).2.1).size≤_
   rw [bX]
   unfold Lib.cut
   split
   ·simp
   ·simp
  obtain ⟨b,hb⟩:=PA (kK x).f0 (kK x).f1 (kK x).f2 aq aq k aq
  rw [hb]
  simp only [Option.bind_some]
  cases b with
  |true=>exact zx k xs _ (fun y hy=>hx y (List.mem_cons_of_mem _ hy)) hk
  |false=>exact ⟨_,rfl⟩
theorem NF (k:Nat) (l:List UInt8) (hl:l.length < 100000) (hk: 300000≤k):∃ r,bQ.f k (aJ l)=some r:=by
 by_cases hne:l= []
 ·subst hne
  unfold bQ.f
  rw [if_pos (by rw [toList_mk];rfl)]
  exact ⟨_,rfl⟩
 ·rw [Cl k l aq hne,← List.map_drop]
  obtain ⟨r,hr⟩:=zx k ((pieces 32 l).drop 1) [] (fun x hx=>by
   have:=Gg 32 l x (List.mem_of_mem_drop hx)
   omega) hk
  rw [hr]
  exact ⟨_,rfl⟩
theorem Cm (P:List ij) (hP:P.length < 100000):∀ (k i:Nat) (acc:List UInt8),P.length - i < k→i≤P.length→acc.length + (EU ((P.drop i).map qj)).length < 4611686018427387904→
 cw.l0 k (aJ acc) P (P.length:Int) (i:Int)=some (aJ (acc ++ EU ((P.drop i).map qj)))
 | 0,i,acc,h,_,_ =>absurd h (Nat.not_lt_zero _)
 |k + 1,i,acc,h,hi,hl=>by
  unfold cw.l0
  by_cases hlt:i < P.length
  ·have hw:wrap64 ((i:Int) + 1)=((i + 1:Nat):Int):=by unfold wrap64;omega
   have hd:P.drop i=P[i] :: P.drop (i + 1):=List.drop_eq_getElem_cons hlt
   have hr:dL P (i:Int)=P[i]:=by
    unfold dL
    rw [List.getD_eq_getElem?_getD,show ((i:Int)).toNat=i by omega,List.getElem?_eq_getElem hlt]
    rfl
   rw [hd] at hl ⊢
   rw [hr,hw]
   obtain ⟨q,hq⟩:∃ q,P[i]=q:=⟨_,rfl⟩
   rw [hq] at hl ⊢
   clear hr hd hq
   obtain ⟨f0,f1,f2⟩:=q
   have e0:(⟨#[32]⟩:ByteArray) ++ f0=aJ (32 :: f0.data.toList):=by
    rw [← mk_data f0]
    exact kY [32] f0.data.toList
   have e1:(⟨#[61]⟩:ByteArray) ++ f1=aJ (61 :: f1.data.toList):=by
    rw [← mk_data f1]
    exact kY [61] f1.data.toList
   have z0:=fN f0
   have z1:=fN f1
   have hwl:(EU ((⟨f0,f1,f2⟩ :: P.drop (i + 1)).map qj))=32 :: (qj ⟨f0,f1,f2⟩ ++ EU ((P.drop (i + 1)).map qj)):=rfl
   rw [hwl] at hl ⊢
   have hwo:qj ⟨f0,f1,f2⟩=f0.data.toList ++ (if f2=true then 61 :: f1.data.toList else []):=rfl
   rw [hwo] at hl ⊢
   simp only at *
   rw [if_pos aq,if_pos aq,if_pos aq]
   cases f2 with
   |true=>
    simp only [if_true,List.length_cons,List.length_append] at hl
    rw [e0,e1,kY,kY,bX,bX,bX,bX,if_pos aq,if_pos DW,if_pos rfl,if_pos aq,if_pos IM]
    rw [Cm P hP k (i + 1) _ aq aq IM]
    simp
   |false=>
    simp only [Bool.false_eq_true,if_false,List.append_nil,List.length_cons,List.length_append] at hl
    rw [e0,kY,bX,bX,if_pos aq,if_pos DW,if_neg bU]
    rw [Cm P hP k (i + 1) _ aq aq IM]
    simp
  ·have hd:P.drop i= []:=List.drop_of_length_le aq
   rw [if_neg aq,hd]
   simp [EU]
theorem NG (P:List ij) (hP:P.length < 100000) (k0:Nat) (h:∀ p,p∈P→zw k0 p):∀ (k i:Nat),P.length - i + k0 < k→i≤P.length→bu.l0 k P (P.length:Int) (i:Int)=some (-1)
 | 0,i,hk,_ =>absurd hk (Nat.not_lt_zero _)
 |k + 1,i,hk,hi=>by
  unfold bu.l0
  by_cases hlt:i < P.length
  ·have hw:wrap64 ((i:Int) + 1)=((i + 1:Nat):Int):=by unfold wrap64;omega
   have hr:dL P (i:Int)=P[i]:=by
    unfold dL
    rw [List.getD_eq_getElem?_getD,show ((i:Int)).toNat=i by omega,List.getElem?_eq_getElem hlt]
    rfl
   have hp:kX.f k P[i].f0 P[i].f1 P[i].f2=some false:=by
    unfold kX.f
    have h1:bW.f k P[i].f0 P[i].f1 P[i].f2=some true:=Xj (show k0≤k by omega) (h _ (List.getElem_mem hlt))
    rw [h1]
    rfl
   rw [if_pos aq,if_pos aq,if_pos aq,hr,hp,hw]
   simp only [Option.bind_some,Bool.false_eq_true,if_false]
   exact NG P hP k0 h k (i + 1) aq aq
  ·rw [if_neg aq]
theorem T5 (P:List ij) (hP:P.length < 100000) (k0:Nat) (h:∀ p,p∈P→zw k0 p) (k:Nat) (hk:P.length + k0 < k):bR.f k P=some false:=by
 unfold bR.f bu.f
 have h1:=NG P hP k0 h k 0 aq (Nat.zero_le _)
 rw [show ((0:Nat):Int)=0 from rfl] at h1
 rw [h1]
 rfl
def kZ (v:Int):List UInt8:=(kT.getD v.toNat ⟨#[]⟩).data.toList
def wI (v:Int):Prop:=v=1∨v=2∨v=3∨v=4∨v=5∨v=6∨v=7∨v=8∨v=9∨v=10∨v=11
theorem sU {v:Int} (hv:wI v):(kZ v).map ET=kZ v∧cG.f (aJ (kZ v))=some v∧(32:UInt8) ∉ kZ v∧(kZ v).length≤4∧kO.f v=some (aJ (kZ v))∧kZ v≠ []:=by
 rcases hv with rfl|rfl|rfl|rfl|rfl|rfl|rfl|rfl|rfl|rfl|rfl<;>decide +kernel
theorem zU {v:Int} (hv:wI v) (r:List UInt8) (k:Nat) (hl:(kZ v).length + 1 + r.length≤510):ak.f k (aJ (kZ v ++ 32 :: r))=ak.v k v (aJ r) true:=by
 obtain ⟨h1,h2,h3,h4,_⟩:=sU hv
 unfold ak.f
 rw [bX,if_neg (by rw [List.length_append,List.length_cons];omega),Lj _ 32 (by rw [List.length_append,List.length_cons];omega),Li 32 r _ h3]
 show ((cB.f (aJ (kZ v))).bind fun g=>(cG.f g).bind fun v2=>ak.v k v2 (aJ r) true)=_
 rw [uQ _ aq,h1]
 show ((cG.f (aJ (kZ v))).bind fun v2=>ak.v k v2 (aJ r) true)=_
 rw [h2]
 rfl
theorem PB {v:Int} (hv:wI v) (k:Nat):ak.f k (aJ (kZ v))=ak.v k v ⟨#[]⟩ false:=by
 obtain ⟨h1,h2,h3,h4,_⟩:=sU hv
 unfold ak.f
 rw [bX,if_neg aq,Lj _ 32 aq,Ck 32 _ h3]
 show ((cB.f (aJ (kZ v))).bind fun g=>(cG.f g).bind fun v2=>ak.v k v2 (aJ []) false)=_
 rw [uQ _ aq,h1]
 show ((cG.f (aJ (kZ v))).bind fun v2=>ak.v k v2 (aJ []) false)=_
 rw [h2]
 rfl
theorem SZ (s:ByteArray):∀ (l:List ByteArray) (i:Nat) (v:Int),Tc s l i=v→v≠0→∃ j:Nat,v=((i + j:Nat):Int)∧l[j]? =some s
 | [],i,v,h,h0=>absurd h.symm h0
 |x :: l,i,v,h,h0=>by
  unfold Tc at h
  by_cases hx: 0 < i∧x=s
  ·rw [if_pos hx] at h
   exact ⟨0,by rw [← h];rfl,by rw [hx.2];rfl⟩
  ·rw [if_neg hx] at h
   obtain ⟨j,h1,h2⟩:=SZ s l (i + 1) v h h0
   exact ⟨j + 1,by rw [h1];congr 1;omega,h2⟩
theorem Xk {w:List UInt8} {v:Int} (h:cG.f (aJ w)=some v) (h0:v≠0):wI v∧w=kZ v:=by
 have hr:=FO h
 obtain ⟨j,h1,h2⟩:=SZ (aJ w) kT 0 v (Option.some.inj h) h0
 refine ⟨by unfold wI;omega,?_⟩
 unfold kZ
 rw [h1,Nat.zero_add,List.getD_eq_getElem?_getD,show ((j:Int)).toNat=j by omega,h2]
 rfl
end Go.Proofs.YtokpnfljjjjikaaGreatDoor.lR
namespace Go.Proofs.YtokpnfljjjjikaaGreatDoor.lR
open Go.RowKit Go.Proofs.YtokpnfljjjjikaaGreatDoor Go.Proofs.YtokpnfljjjjikaaGreatDoor.pJ Go.Proofs.aj.bV Go.Proofs.aj.dB
set_option linter.unusedVariables false
set_option linter.unusedSimpArgs false
theorem rW (l:List UInt8) (n:Nat):(aJ l).extract n (aJ l).size=aJ (l.drop n):=by
 rw [extract_mk,bX]
 congr 1
 exact List.take_of_length_le j5
theorem BG (l:List UInt8) (n:Nat):(aJ l).extract 0 n=aJ (l.take n):=by
 rw [extract_mk]
 simp
def gX (v:Int):List UInt8:=if v=3 then [70,82,79,77,58] else [84,79,58]
theorem C6 (v:Int):(gX v).map ET=gX v∧(gX v).length≤5:=by
 unfold gX
 split<;>decide +kernel
abbrev ac0:=Bool×Bool×List ByteArray×ByteArray×ByteArray×Bool×List ij
structure Xl (n:Bool) (R:List ByteArray) (lo dom:ByteArray) (lit:Bool) (P:List ij) (m:Nat) (t:List UInt8):Prop where
 ag:aa6 n R lo dom lit m t
 ps:∀ k,3000000≤k→bQ.f k (aJ (qm P))=some (P,true)
 ok:∀ p,p∈P→zw 3000000 p
 pl:P.length≤1000
 rl:R.length≤1000
 tl:t.length + (qm P).length≤600
theorem NH {n:Bool} {R:List ByteArray} {lo dom:ByteArray} {lit:Bool} {P:List ij} {m:Nat} {t:List UInt8} (g:Xl n R lo dom lit P m t) (v:Int) (k:Nat) (hk: 3000000≤k):
 eT.f k (aJ (gX v ++ (t ++ qm P))) (aJ (gX v))=some (true,n,R,lo,dom,lit,P):=by
 obtain ⟨h1,h2⟩:=C6 v
 have htl:=g.tl
 have hsz:(aJ (gX v ++ (t ++ qm P))).size=(gX v).length + (t.length + (qm P).length):=by
  rw [bX,List.length_append,List.length_append]
 unfold eT.f
 rw [hsz,bX,if_neg aq,BG,List.take_left,uQ _ aq,h1]
 simp only [Option.bind_some,if_true]
 rw [← hsz,rW,List.drop_left,g.ag.rd k hk _ aq]
 simp only [Option.bind_some,if_true]
 rw [if_pos ⟨aq,aq,aq⟩,rW,show ((((gX v).length:Int) + (t.length:Int))).toNat=(gX v ++ t).length by rw [List.length_append];omega,← List.append_assoc,List.drop_left,g.ps k hk]
 rfl
theorem C7 (v:Int) (r:List UInt8) (hr:r.length≤510):∃ res:ac0,eT.f 3000000 (aJ r) (aJ (gX v))=some res∧
 (res.1=false∨∃ (n:Bool) (R:List ByteArray) (lo dom:ByteArray) (lit:Bool) (P:List ij) (m:Nat) (t:List UInt8),res=(true,n,R,lo,dom,lit,P)∧Xl n R lo dom lit P m t∧(gX v).length + t.length + (qm P).length≤r.length):=by
 obtain ⟨h1,h2⟩:=C6 v
 unfold eT.f
 rw [bX,bX]
 by_cases hlt:(r.length:Int) < ((gX v).length:Int)
 ·rw [if_pos hlt]
  exact ⟨_,rfl,.inl rfl⟩
 rw [if_neg hlt,BG,uQ _ (by rw [List.length_take];omega)]
 simp only [Option.bind_some]
 by_cases hg:(aJ ((r.take (gX v).length).map ET)).toList=(aJ (gX v)).toList
 case neg=>rw [if_neg hg];exact ⟨_,rfl,.inl rfl⟩
 rw [if_pos hg]
 have ht:(aJ r).extract (gX v).length r.length=aJ (r.drop (gX v).length):=by
  have:=rW r (gX v).length
  rwa [bX] at this
 rw [ht]
 have hsz:(aJ (r.drop (gX v).length)).size=r.length - (gX v).length:=by rw [bX,List.length_drop]
 obtain ⟨⟨p1,p2,p3,p4,p5,p6,p7⟩,hp⟩:=Pv (aJ (r.drop (gX v).length)) aq 3000000 aq
 rw [hp]
 simp only [Option.bind_some]
 by_cases he:p7=0
 case neg=>rw [if_neg he];exact ⟨_,rfl,.inl rfl⟩
 rw [if_pos he]
 subst he
 obtain ⟨n,t,rfl,hn,ag⟩:=Pz 3000000 aq _ aq p1 p2 p3 p4 p5 p6 hp
 have hR:=Ns _ aq 3000000 aq hp
 rw [if_pos ⟨aq,aq,aq⟩]
 have ht2:(aJ r).extract (((gX v).length:Int) + (n:Int)).toNat r.length=aJ (r.drop ((gX v).length + n)):=by
  have:=rW r ((gX v).length + n)
  rw [bX] at this
  rw [show (((gX v).length:Int) + (n:Int)).toNat=(gX v).length + n by omega]
  exact this
 rw [ht2]
 obtain ⟨⟨P,ok⟩,hP⟩:=NF 3000000 (r.drop ((gX v).length + n)) j5 aq
 rw [hP]
 simp only [Option.bind_some]
 cases ok with
 |false=>exact ⟨_,rfl,.inl rfl⟩
 |true=>
  obtain ⟨q1,q2,q3,q4⟩:=Ll 3000000 _ j5 P hP
  rw [List.length_drop] at q1 q4
  have hle:=ag.le
  exact ⟨_,rfl,.inr ⟨p1,p2,p3,p4,p5,P,n,t,rfl,⟨ag,fun k hk=>qD (fun k=>bQ.mono _ k) hk q2,q3,aq,aq,aq⟩,aq⟩⟩
structure Good (v:Int) (a:ByteArray) (n:Bool) (R:List ByteArray) (lo dom:ByteArray) (lit:Bool) (P:List ij) (t:List UInt8):Prop where
 b:∀ k,3001100≤k→jx.f k v a n R lo dom lit P=some true
 w:∀ k,3001100≤k→cw.f k v a n R lo dom lit P=some (aJ t)
 r:∀ k,3001100≤k→ak.f k (aJ t)=some (v,a,n,R,lo,dom,lit,P,0)
 rl:R.length≤1000
 pl:P.length≤1000
def xO (a:List UInt8):List UInt8:=if a= [] then [] else 32 :: a
theorem Gu {v:Int} (h3:v≠3) (h4:v≠4):eH.f v=some false:=by
 unfold eH.f
 rw [if_neg h3]
 simp [h4]
theorem zV {v:Int} (hv:wI v) (h3:v≠3) (h4:v≠4) (a:List UInt8) (ha:a.length≤1000) (hp:∀ k,3001100≤k→ak.f k (aJ (kZ v ++ xO a))=ak.w v (aJ a)):Good v (aJ a) false [] ⟨#[]⟩ ⟨#[]⟩ false [] (kZ v ++ xO a):=by
 obtain ⟨_,_,_,f4,f5,_⟩:=sU hv
 refine ⟨fun k hk=>?_,fun k hk=>?_,hp,bn,bn⟩
 ·unfold jx.f
  rw [Gu h3 h4]
  simp only [Option.bind_some,Bool.false_eq_true,if_false]
  rw [if_pos (by rfl),if_pos gw]
  rfl
 ·unfold cw.f
  rw [f5,Gu h3 h4]
  simp only [Option.bind_some,Bool.false_eq_true,if_false]
  rw [toList_mk]
  unfold xO
  by_cases h0:a= []
  ·rw [if_pos h0,if_pos h0,List.append_nil]
  ·rw [if_neg h0,if_neg h0]
   have e1:(⟨#[32]⟩:ByteArray) ++ aJ a=aJ (32 :: a):=kY [32] a
   rw [e1,bX,bX,bX,if_pos aq,if_pos DW,kY]
theorem Ii {v:Int} (hv:v=3∨v=4) {n:Bool} {R:List ByteArray} {lo dom:ByteArray} {lit:Bool} {P:List ij} {m:Nat} {t:List UInt8} (g:Xl n R lo dom lit P m t) (hl:(kZ v).length + 1 + ((gX v).length + (t.length + (qm P).length))≤510)
 (hm:v=3→n=true∨dom.toList.isEmpty=false) (hr:v=4→n=false):Good v ⟨#[]⟩ n R lo dom lit P (kZ v ++ 32 :: (gX v ++ (t ++ qm P))):=by
 have hvb:wI v:=by unfold wI;omega
 obtain ⟨_,_,_,f4,f5,_⟩:=sU hvb
 have hpl:=g.pl
 have htl:=g.tl
 have hc:eH.f v=some true:=by rcases hv with rfl|rfl<;>rfl
 refine ⟨fun k hk=>?_,fun k hk=>?_,fun k hk=>?_,g.rl,hpl⟩
 ·unfold jx.f
  rw [hc]
  simp only [Option.bind_some,if_true]
  rw [if_pos gw,g.ag.rt k aq]
  simp only [Option.bind_some,if_true]
  rw [T5 P aq 3000000 g.ok k aq]
  rfl
 ·have hj:∀ k,3001050≤k→∀ (x:ByteArray) (a:List UInt8),a.length≤6→∀ z:Int,∀ y:ByteArray,cw.j0 (k + 1) (aJ (kZ v)) (aJ a) z y n R lo dom lit P=some (aJ (kZ v ++ (a ++ t) ++ qm P)):=by
   intro k hk x a ha z y
   rw [cw.j0,g.ag.pr k aq]
   show (if (aJ a).size + (aJ t).size≤9223372036854775807 then _ else none)=_
   have hrun:=Cm P aq k 0 (kZ v ++ (a ++ t)) aq (Nat.zero_le _) (by
    rw [List.drop_zero]
    show _ + (qm P).length < _
    rw [List.length_append,List.length_append]
    omega)
   rw [List.drop_zero] at hrun
   rw [bX,bX,if_pos aq,kY,bX,bX,if_pos (by rw [List.length_append];omega),kY]
   exact hrun
  obtain ⟨k,rfl⟩:∃ k',k=k' + 1:=⟨k - 1,aq⟩
  unfold cw.f
  rw [f5,hc]
  simp only [Option.bind_some,if_true]
  rcases hv with rfl|rfl
  ·rw [if_pos rfl]
   have:=hj k aq ⟨#[]⟩ [32,70,82,79,77,58] bn 3 ⟨#[]⟩
   refine this.trans ?_
   all_goals (congr 2;try (simp [gX]))
  ·rw [if_neg bU]
   have:=hj k aq ⟨#[]⟩ [32,84,79,58] bn 4 ⟨#[]⟩
   refine this.trans ?_
   all_goals (congr 2;try (simp [gX]))
 ·rw [zU hvb _ k (by rw [List.length_append,List.length_append];exact hl)]
  have hpd:=NH g v k aq
  rcases hv with rfl|rfl
  ·rw [show ak.v k 3 (aJ (gX 3 ++ (t ++ qm P))) true=ak.Kq k (aJ (gX 3 ++ (t ++ qm P))) from by unfold ak.v;simp]
   unfold ak.Kq
   rw [show (⟨#[70,82,79,77,58]⟩:ByteArray)=aJ (gX 3) from rfl,hpd]
   simp only [Option.bind_some,if_true]
   rcases hm rfl with rfl|hd
   ·rw [if_pos rfl]
    rfl
   ·rw [hd,if_neg (bU: ¬ false=true)]
    split<;>rfl
  ·rw [show ak.v k 4 (aJ (gX 4 ++ (t ++ qm P))) true=ak.Kr k (aJ (gX 4 ++ (t ++ qm P))) from by unfold ak.v;simp]
   unfold ak.Kr
   rw [show (⟨#[84,79,58]⟩:ByteArray)=aJ (gX 4) from rfl,hpd]
   simp only [Option.bind_some,if_true]
   rw [hr rfl,if_neg bU]
   rfl
end Go.Proofs.YtokpnfljjjjikaaGreatDoor.lR
namespace Go.Proofs.YtokpnfljjjjikaaGreatDoor.lR
open Go.RowKit Go.Proofs.YtokpnfljjjjikaaGreatDoor Go.Proofs.YtokpnfljjjjikaaGreatDoor.pJ Go.Proofs.aj.bV Go.Proofs.aj.dB
set_option linter.unusedVariables false
set_option linter.unusedSimpArgs false
theorem NI:bz.f 120=some true:=by decide +kernel
theorem C8 (k:Nat) (hk: 120≤k):bz.f k=some true:=qD (fun k=>bz.mono k) hk NI
theorem Ij (v:Int) (a:ByteArray) (n:Bool) (R:List ByteArray) (lo dom:ByteArray) (lit:Bool) (P:List ij) (hP:P.length < 4611686018427387904):∀ (k i:Nat),P.length - i < k→i≤P.length→aN.l0 k (P.length:Int) (i:Int) v a n R lo dom lit P v a n R lo dom lit P=some true
 | 0,i,h,_ =>absurd h (Nat.not_lt_zero _)
 |k + 1,i,h,hi=>by
  unfold aN.l0
  by_cases hlt:i < P.length
  ·have hw:wrap64 ((i:Int) + 1)=((i + 1:Nat):Int):=by unfold wrap64;omega
   rw [if_pos aq,if_pos aq,if_pos aq,if_pos aq,if_neg bn,hw]
   exact Ij v a n R lo dom lit P hP k (i + 1) aq aq
  ·rw [if_neg aq]
theorem Gv (v:Int) (a:ByteArray) (n:Bool) (R:List ByteArray) (lo dom:ByteArray) (lit:Bool) (P:List ij) (hR:R.length≤1000) (hP:P.length≤1000) (k:Nat) (hk: 5000≤k):aN.f k v a n R lo dom lit P v a n R lo dom lit P=some true:=by
 obtain ⟨k,rfl⟩:∃ k',k=k' + 1:=⟨k - 1,aq⟩
 unfold aN.f
 rw [if_pos rfl,if_pos rfl,TQ n R lo dom lit (k + 1) aq aq]
 simp only [Option.bind_some,if_true]
 rw [aN.j0,if_neg bn]
 exact Ij v a n R lo dom lit P aq k 0 aq (Nat.zero_le _)
theorem PC {v:Int} {a:ByteArray} {n:Bool} {R:List ByteArray} {lo dom:ByteArray} {lit:Bool} {P:List ij} {t:List UInt8} (g:Good v a n R lo dom lit P t) (k:Nat) (hk: 3001100≤k):iM.f k v a n R lo dom lit P=some (aJ t,0):=by
 have h:kQ.f k v a n R lo dom lit P=some true:=by
  unfold kQ.f
  rw [g.b k hk]
  simp only [Option.bind_some,if_true]
  rw [g.w k hk]
  simp only [Option.bind_some]
  rw [g.r k hk]
  simp only [Option.bind_some,if_true]
  simp
 unfold iM.f
 rw [h]
 simp only [Option.bind_some,if_true]
 rw [g.w k hk]
 rfl
theorem NJ (k:Nat) (hk: 3001100≤k) (line:ByteArray) {v:Int} {a:ByteArray} {n:Bool} {R:List ByteArray} {lo dom:ByteArray} {lit:Bool} {P:List ij} {t:List UInt8} (g:Good v a n R lo dom lit P t) (h:ak.f k line=some (v,a,n,R,lo,dom,lit,P,0)) (hle:t.length≤line.size):fT.f k line=some true:=by
 unfold fT.f
 rw [h]
 simp only [Option.bind_some,if_true]
 rw [PC g k hk]
 simp only [Option.bind_some,if_true]
 rw [g.r k hk]
 simp only [Option.bind_some,if_true]
 rw [Gv v a n R lo dom lit P g.rl g.pl k aq]
 simp only [Option.bind_some,if_true]
 rw [bX,if_pos aq,C8 k aq]
 rfl
theorem Gw (k:Nat) (hk: 5000≤k) (line:ByteArray) (e:Int) (he:(e=3∧510 < line.size)∨(e=160∧line.size≤510)∨(e=161∧line.size≤510)) (h:ak.f k line=ak.z e):fT.f k line=some true:=by
 have hs:=Gv 0 ⟨#[]⟩ false [] ⟨#[]⟩ ⟨#[]⟩ false [] bn bn k hk
 have ha:=C8 k aq
 unfold fT.f
 rw [h]
 unfold ak.z
 rcases he with ⟨rfl,hl⟩|⟨rfl,hl⟩|⟨rfl,hl⟩
 ·simp only [Option.bind_some]
  rw [if_neg bU,if_pos (by rw [decide_eq_true (show (line.size:Int) > 510 by omega)];rfl),if_pos aq,hs]
  simp only [Option.bind_some,if_true]
  rw [ha]
  rfl
 ·simp only [Option.bind_some]
  rw [if_neg bU,if_pos Qd,if_neg aq,if_pos trivial,hs]
  simp only [Option.bind_some,if_true]
  rw [ha]
  rfl
 ·simp only [Option.bind_some]
  rw [if_neg bU,if_pos Qd,if_neg aq,if_neg bU,if_pos trivial,hs]
  simp only [Option.bind_some,if_true]
  rw [ha]
  rfl
def Told (L:List UInt8) (r:FN):Prop:=
 (∃ e,some r=ak.z e∧((e=160∧L.length≤510)∨(e=161∧L.length≤510)))∨
 ∃ v a n R lo dom lit P t,r=(v,a,n,R,lo,dom,lit,P,0)∧Good v a n R lo dom lit P t∧t.length≤L.length
theorem sV (L:List UInt8) (hl:L.length≤510) (e:Int) (he:e=160∨e=161):∃ r,ak.z e=some r∧Told L r:=
 ⟨_,rfl,.inl ⟨e,rfl,by rcases he with rfl|rfl<;>simp [hl]⟩⟩
theorem Xm:fU fK 46 []≠(true,0):=by decide
theorem Z2 (r:List UInt8) (hl:r.length≤510):∃ b,iC.f (aJ r)=some b∧(b=true→r≠ []):=by
 unfold iC.f
 rw [if_pos ji,toList_mk]
 refine ⟨_,rfl,fun h e=>?_⟩
 subst e
 simp at h
theorem Cn {v:Int} (k:Nat) (r:ByteArray) (m:Bool):(v=1→ak.v k v r m=ak.MA k r)∧(v=2→ak.v k v r m=ak.Kp k r)∧(v=3→ak.v k v r m=ak.Kq k r)∧(v=4→ak.v k v r m=ak.Kr k r)∧(v=7∨v=8→ak.v k v r m=ak.free v r)∧(v=9∨v=10→ak.v k v r m=if m=true then ak.free v r else ak.w v ⟨#[]⟩)∧(v=5∨v=6∨v=11→ak.v k v r m=if m=true then ak.z 161 else ak.w v ⟨#[]⟩):=by
 refine ⟨?_,?_,?_,?_,?_,?_,?_⟩
 ·rintro rfl;unfold ak.v;simp
 ·rintro rfl;unfold ak.v;simp
 ·rintro rfl;unfold ak.v;simp
 ·rintro rfl;unfold ak.v;simp
 ·rintro (rfl|rfl)<;>(unfold ak.v;simp)
 ·rintro (rfl|rfl)<;>(unfold ak.v;simp)
 ·rintro (rfl|rfl|rfl)<;>(unfold ak.v;simp)
theorem EW {a:List UInt8} (h:a≠ []):xO a=32 :: a:=if_neg h
theorem Xn {r:List UInt8} (h:r≠ []):r.map gh≠ []:=by
 intro e
 exact h (List.map_eq_nil_iff.mp e)
theorem ac1 {v:Int} (hv:wI v) (L w r:List UInt8) (m:Bool) (hL:L.length≤510) (hw:w.length=(kZ v).length) (h1:m=true→L.length=w.length + 1 + r.length) (h2:m=false→r= []∧L.length=w.length):
 ∃ res,ak.v 3000000 v (aJ r) m=some res∧Told L res:=by
 obtain ⟨f1,f2,f3,f4,f5,f6⟩:=sU hv
 have hrl:r.length≤510:=by cases m with|true=>have:=h1 rfl;omega|false=>have:=(h2 rfl).1;rw [this];simp
 have free:∀ (arV:v=7∨v=8∨v=9∨v=10),(v=7∨v=8∨m=true)→∃ res,ak.free v (aJ r)=some res∧Told L res:=by
  intro h79 hm
  unfold ak.free
  obtain ⟨b,hb,hbn⟩:=Z2 r hrl
  rw [hb]
  simp only [Option.bind_some]
  cases b with
  |false=>exact sV L hL 161 (.inr rfl)
  |true=>
   have hne:=hbn rfl
   have hmt:m=true:=by
    cases m with
    |true=>rfl
    |false=>exact absurd (h2 rfl).1 hne
   have hll:=h1 hmt
   refine ⟨_,rfl,.inr ⟨v,aJ r,false,[],⟨#[]⟩,⟨#[]⟩,false,[],kZ v ++ xO r,rfl,zV hv aq aq r aq (fun k hk=>?_),?_⟩⟩
   ·rw [EW hne,zU hv r k aq]
    have hfree:ak.free v (aJ r)=ak.w v (aJ r):=by
     unfold ak.free
     rw [hb]
     rfl
    obtain ⟨_,_,_,_,v78,NK,_⟩:=Cn (v:=v) k (aJ r) true
    rcases h79 with h|h|h|h
    ·rw [v78 (.inl h),hfree]
    ·rw [v78 (.inr h),hfree]
    ·rw [NK (.inl h),if_pos rfl,hfree]
    ·rw [NK (.inr h),if_pos rfl,hfree]
   ·rw [EW hne,List.length_append,List.length_cons]
    omega
 have only:v=5∨v=6∨v=9∨v=10∨v=11→m=false→∃ res,ak.w v ⟨#[]⟩=some res∧Told L res:=by
  intro hvv hm
  obtain ⟨_,hll⟩:=h2 hm
  refine ⟨_,rfl,.inr ⟨v,⟨#[]⟩,false,[],⟨#[]⟩,⟨#[]⟩,false,[],kZ v ++ xO [],rfl,zV hv aq aq [] bn (fun k hk=>?_),?_⟩⟩
  ·rw [show kZ v ++ xO []=kZ v from by simp [xO],PB hv k]
   obtain ⟨_,_,_,_,_,NK,v5⟩:=Cn (v:=v) k ⟨#[]⟩ false
   rcases hvv with h|h|h|h|h
   ·rw [v5 (.inl h),if_neg bU];rfl
   ·rw [v5 (.inr (.inl h)),if_neg bU];rfl
   ·rw [NK (.inl h),if_neg bU];rfl
   ·rw [NK (.inr h),if_neg bU];rfl
   ·rw [v5 (.inr (.inr h)),if_neg bU];rfl
  ·rw [show kZ v ++ xO []=kZ v from by simp [xO]]
   omega
 have anU:∀ (k:Nat),3000000≤k→fE.f k (aJ r)=fE.f 3000000 (aJ r):=by
  intro k hk
  rw [nj r aq k aq,nj r aq 3000000 aq]
 have named:∀ (anV:v=1∨v=2),r≠ []→m=true→(∀ k,3001100≤k→ak.v k v (aJ (r.map gh)) true=ak.w v (aJ (r.map gh)))→Told L (v,aJ (r.map gh),false,[],⟨#[]⟩,⟨#[]⟩,false,[],0):=by
  intro anV hne hm hk
  have hll:=h1 hm
  refine .inr ⟨v,aJ (r.map gh),false,[],⟨#[]⟩,⟨#[]⟩,false,[],kZ v ++ xO (r.map gh),rfl,zV hv aq aq (r.map gh) lV (fun k hkk=>?_),?_⟩
  ·rw [EW (Xn hne),zU hv _ k lV]
   exact hk k hkk
  ·rw [EW (Xn hne),List.length_append,List.length_cons,List.length_map]
   omega
 have NL:r≠ []→m=true:=by
  intro hne
  cases m with
  |true=>rfl
  |false=>exact absurd (h2 rfl).1 hne
 obtain ⟨v1,v2,v3,v4,v78,NK,v5⟩:=Cn (v:=v) 3000000 (aJ r) m
 have hsm:iq.f (aJ r)=some (aJ (r.map gh)):=Ie r aq
 have ac2:iq.f (aJ (r.map gh))=some (aJ (r.map gh)):=by
  rw [Ie _ lV,rH]
 rcases hv with rfl|rfl|rfl|rfl|rfl|rfl|rfl|rfl|rfl|rfl|rfl
 ·rw [v1 rfl]
  unfold ak.MA
  rw [hsm,nj r aq _ aq]
  simp only [Option.bind_some]
  cases hd:(decide (fU fK 46 r=(true,r.length)) && lu (aJ r)) with
  |false=>exact sV L hL 161 (.inr rfl)
  |true=>
   have hne:r≠ []:=by
    rintro rfl
    rw [decide_eq_false (show ¬ fU fK 46 []=(true,([]:List UInt8).length) from Xm)] at hd
    cases hd
   refine ⟨_,rfl,named (.inl rfl) hne (NL hne) (fun k hk=>?_)⟩
   rw [(Cn k _ true).1 rfl]
   unfold ak.MA
   rw [ac2,zT r aq k aq,nj r aq k aq,hd]
   rfl
 ·rw [v2 rfl]
  unfold ak.Kp
  rw [hsm,nj r aq _ aq]
  simp only [Option.bind_some]
  cases hd:(decide (fU fK 46 r=(true,r.length)) && lu (aJ r)) with
  |false=>
   rw [if_neg bU,Gt r aq _ aq]
   simp only [Option.bind_some]
   cases hc:Ih r with
   |false=>exact sV L hL 161 (.inr rfl)
   |true=>
    have hne:r≠ []:=by
     rintro rfl
     exact absurd hc bU
    refine ⟨_,rfl,named (.inr rfl) hne (NL hne) (fun k hk=>?_)⟩
    rw [(Cn k _ true).2.1 rfl]
    unfold ak.Kp
    rw [ac2,zT r aq k aq,nj r aq k aq,hd]
    simp only [Option.bind_some]
    rw [if_neg bU,Gt _ lV k lV,T4,hc]
    rfl
  |true=>
   have hne:r≠ []:=by
    rintro rfl
    rw [decide_eq_false (show ¬ fU fK 46 []=(true,([]:List UInt8).length) from Xm)] at hd
    cases hd
   refine ⟨_,rfl,named (.inr rfl) hne (NL hne) (fun k hk=>?_)⟩
   rw [(Cn k _ true).2.1 rfl]
   unfold ak.Kp
   rw [ac2,zT r aq k aq,nj r aq k aq,hd]
   rfl
 ·rw [v3 rfl]
  unfold ak.Kq
  rw [show (⟨#[70,82,79,77,58]⟩:ByteArray)=aJ (gX 3) from rfl]
  obtain ⟨res,h3,h4⟩:=C7 3 r hrl
  rw [h3]
  simp only [Option.bind_some]
  rcases h4 with h4|⟨n,R,lo,dom,lit,P,mm,t,rfl,g,hle⟩
  ·rw [h4]
   exact sV L hL 161 (.inr rfl)
  ·have hne:r≠ []:=by
    rintro rfl
    have:=g.ag.ne
    rw [List.length_nil] at hle
    omega
   have hll:=h1 (NL hne)
   have aa7:n=true∨dom.toList.isEmpty=false→Told L (3,⟨#[]⟩,n,R,lo,dom,lit,P,0):=fun hm=> .inr ⟨3,_,_,_,_,_,_,_,_,rfl,Ii (.inl rfl) g aq (fun _ =>hm) (fun h=>by omega),Qb⟩
   show ∃ res,(if true=true then (if n=true then ak.p 3 (true,n,R,lo,dom,lit,P) else if dom.toList.isEmpty=true then ak.z 161 else ak.p 3 (true,n,R,lo,dom,lit,P)) else ak.z 161)=some res∧Told L res
   rw [if_pos rfl]
   by_cases hn:n=true
   ·rw [if_pos hn]
    exact ⟨_,rfl,aa7 (.inl hn)⟩
   ·rw [if_neg hn]
    by_cases hd:dom.toList.isEmpty=true
    ·rw [if_pos hd]
     exact sV L hL 161 (.inr rfl)
    ·rw [if_neg hd]
     exact ⟨_,rfl,aa7 (.inr (Bool.eq_false_iff.mpr hd))⟩
 ·rw [v4 rfl]
  unfold ak.Kr
  rw [show (⟨#[84,79,58]⟩:ByteArray)=aJ (gX 4) from rfl]
  obtain ⟨res,h3,h4⟩:=C7 4 r hrl
  rw [h3]
  simp only [Option.bind_some]
  rcases h4 with h4|⟨n,R,lo,dom,lit,P,mm,t,rfl,g,hle⟩
  ·rw [h4]
   exact sV L hL 161 (.inr rfl)
  ·have hne:r≠ []:=by
    rintro rfl
    have:=g.ag.ne
    rw [List.length_nil] at hle
    omega
   have hll:=h1 (NL hne)
   show ∃ res,(if true=true then (if n=true then ak.z 161 else ak.p 4 (true,n,R,lo,dom,lit,P)) else ak.z 161)=some res∧Told L res
   rw [if_pos rfl]
   by_cases hn:n=true
   ·rw [if_pos hn]
    exact sV L hL 161 (.inr rfl)
   ·rw [if_neg hn]
    exact ⟨_,rfl,.inr ⟨4,⟨#[]⟩,n,R,lo,dom,lit,P,_,rfl,Ii (.inr rfl) g aq (fun h=>by omega) (fun _ =>Bool.eq_false_iff.mpr hn),Qb⟩⟩
 ·rw [v5 (.inl rfl)]
  cases m with
  |true=>exact sV L hL 161 (.inr rfl)
  |false=>exact only aq rfl
 ·rw [v5 (.inr (.inl rfl))]
  cases m with
  |true=>exact sV L hL 161 (.inr rfl)
  |false=>exact only aq rfl
 ·rw [v78 (.inl rfl)]
  exact free aq (.inl rfl)
 ·rw [v78 (.inr rfl)]
  exact free aq (.inr (.inl rfl))
 ·rw [NK (.inl rfl)]
  cases m with
  |true=>exact free aq (.inr (.inr rfl))
  |false=>exact only aq rfl
 ·rw [NK (.inr rfl)]
  cases m with
  |true=>exact free aq (.inr (.inr rfl))
  |false=>exact only aq rfl
 ·rw [v5 (.inr (.inr rfl))]
  cases m with
  |true=>exact sV L hL 161 (.inr rfl)
  |false=>exact only aq rfl
theorem PD (L:List UInt8) (hL:L.length≤510):∃ r,ak.f 3000000 (aJ L)=some r∧Told L r:=by
 have hct:=(sS 32 L).2
 have hcl:=congrArg List.length hct
 rw [List.length_append] at hcl
 unfold ak.f
 rw [bX,if_neg aq,Lj L 32 aq]
 simp only [Option.bind_some]
 rw [uQ _ aq]
 simp only [Option.bind_some]
 obtain ⟨v,hv⟩:∃ v,cG.f (aJ ((Lib.cut L [32]).1.map ET))=some v:=⟨_,rfl⟩
 rw [hv]
 simp only [Option.bind_some]
 by_cases h0:v=0
 ·subst h0
  have:ak.v 3000000 0 (aJ (Lib.cut L [32]).2.1) (Lib.cut L [32]).2.2=ak.z 160:=by unfold ak.v;rw [if_pos rfl]
  rw [this]
  exact sV L hL 160 (.inl rfl)
 ·obtain ⟨hV,hw⟩:=Xk hv h0
  have hwl:=congrArg List.length hw
  rw [List.length_map] at hwl
  refine ac1 hV L (Lib.cut L [32]).1 (Lib.cut L [32]).2.1 (Lib.cut L [32]).2.2 hL hwl (fun hm=>?_) (fun hm=>?_)
  ·rw [hm,if_pos rfl,List.length_cons] at hcl
   omega
  ·rw [hm,if_neg bU,List.length_nil] at hcl
   refine ⟨?_,aq⟩
   unfold Lib.cut at hm ⊢
   split
   ·rename_i h;rw [if_pos h] at hm;cases hm
   ·rfl
theorem BH (line:ByteArray):∃ k,fT.f k line=some true:=by
 refine ⟨3002000,?_⟩
 have hl:=fN line
 by_cases ahl: 510 < line.size
 ·refine Gw _ aq line 3 (.inl ⟨rfl,ahl⟩) ?_
  unfold ak.f
  rw [if_pos aq]
 ·obtain ⟨r,h1,h2⟩:=PD line.data.toList aq
  rw [mk_data] at h1
  have h3:ak.f 3002000 line=some r:=qD (fun k=>ak.mono _ k) (show 3000000≤3002000 by omega) h1
  rcases h2 with ⟨e,he,hee⟩|⟨v,a,n,R,lo,dom,lit,P,t,rfl,g,hle⟩
  ·rw [he] at h3
   exact Gw _ aq line e aq h3
  ·exact NJ _ aq line g h3 aq
end Go.Proofs.YtokpnfljjjjikaaGreatDoor.lR
namespace Go.Proofs.YtokpnfljjjjikaaGreatDoor
open Go.ChangeShapes Go.WideShapes Go.RowKit
set_option linter.unusedVariables false
theorem Xo {r:List (String×DataW Unit)} {W:World} (h:laidMet Tryz.prog (("franking/command.words",Rows.laid_franking_command_words) :: r) W):Be W:=by
 obtain ⟨ps,⟨g0,t0,⟨l0⟩,f0,p0,q0,hg0,ht0,hv0,hd0,_,e0⟩,_,_⟩:=h
 have hg:Tryz.prog.globalNamed "franking/command.words" =some 0:=by kernel_rfl
 have ht:(Tryz.prog.globals[(0:Nat)]?).map (·.type)=some 28:=by kernel_rfl
 obtain rfl:=Option.some.inj (hg.symm.trans hg0)
 obtain rfl:=Option.some.inj (ht.symm.trans ht0)
 have hd1:DataW.trod _ Tryz.prog W _ _ _ f0 28 l0=some (.slice (kT.map fun x=> .lit (.string x.data.toList)) [],p0):=hd0
 obtain ⟨a,cap,rfl,hl,hx⟩:=open_row Tryz.underlying28 av hd1
 have hcell:∀ (j:Nat) (x:ByteArray),kT[j]? =some x→W.cell? (a.add j)=some (.string x):=by
  intro j x hj
  obtain ⟨v,n,q,hc,htr⟩:=hx j (.lit (.string x.data.toList)) (by rw [List.getElem?_map,hj];rfl)
  obtain ⟨s,e1,e2,_⟩:=DataW.trod_string Tryz.underlying9 htr
  obtain ⟨rfl,_⟩:=List.cons.inj e1
  have e3:x.data.toList=s.data.toList:=by
   have e4:=congrArg (fun z:DataW Unit×List MemPlace=>z.1) e2
   simp only [DataW.lit.injEq,Lit.string.injEq] at e4
   exact e4
  have e5:x=s:=by
   obtain ⟨⟨l⟩⟩:=x
   obtain ⟨⟨m⟩⟩:=s
   simp at e3
   rw [e3]
  rw [hc,e5]
 have hsp:a.spot=none:=by
  have h0:=hcell 0 _ rfl
  simp only [Addr.add,if_true] at h0
  unfold World.cell? at h0
  split at h0
  ·split at h0
   ·cases h0
   ·rename_i h1
    cases hq:a.spot with
    |none=>rfl
    |some y=>rw [hq] at h1;exact absurd rfl h1
  ·cases h0
 have hadd:∀ j,a.add j=⟨a.block,a.off + j,none⟩:=by
  intro j
  obtain ⟨b,o,sp⟩:=a
  simp only at hsp
  subst hsp
  unfold Addr.add
  split
  ·rename_i h;subst h;rfl
  ·rfl
 refine ⟨a.block,a.off,cap,?_,fun j x hj=>by rw [← hadd];exact hcell j x hj⟩
 have h1:=World.var?_cell hg hv0 0
 have h2:(⟨a.block,a.off,none⟩:Addr)=a:=by have:=hadd 0;simp only [Addr.add,if_true] at this;exact this.symm
 rw [h2]
 simpa [kT] using h1
end Go.Proofs.YtokpnfljjjjikaaGreatDoor
