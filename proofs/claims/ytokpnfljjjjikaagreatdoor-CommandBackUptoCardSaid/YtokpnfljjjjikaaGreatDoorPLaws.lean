import Derived.Test.YtokpnfljjjjikaaGreatDoorZo
import Derived.Test.YtokpnfljjjjikaaGreatDoorQCbx9
import Derived.Test.YtokpnfljjjjikaaGreatDoorQCbx11
import Derived.Test.YtokpnfljjjjikaaGreatDoorQCbx16
import Derived.Test.YtokpnfljjjjikaaGreatDoorEParams
import Derived.Test.YtokpnfljjjjikaaGreatDoorQCbx5
import Derived.Test.YtokpnfljjjjikaaGreatDoorQCbx17
import Derived.Test.YtokpnfljjjjikaaGreatDoorEParse
import Derived.Test.YtokpnfljjjjikaaGreatDoorQCbx12
import Derived.Test.YtokpnfljjjjikaaGreatDoorQCbx13
import Derived.Test.YtokpnfljjjjikaaGreatDoorQCbx18
namespace Go.Proofs.YtokpnfljjjjikaaGreatDoor.kH
open Go.RowKit Go.Proofs.YtokpnfljjjjikaaGreatDoor Go.Proofs.YtokpnfljjjjikaaGreatDoor.nX Go.Proofs.aj.bW Go.Proofs.aj.dz
def rest (s:ByteArray) (p:Nat):List UInt8:=s.data.toList.drop p
theorem gJ (s:ByteArray) (p:Nat):(rest s p).length=s.size - p:=by
 unfold rest
 rw [List.length_drop,dI]
theorem iZ (s:ByteArray) (p n:Nat):rest s (p + n)=(rest s p).drop n:=by
 unfold rest
 rw [List.drop_drop]
theorem pg {s:ByteArray} {p:Nat} {b:UInt8} {l:List UInt8} (h:rest s p=b :: l):p < s.size∧bt s (p:Int)=(b.toNat:Int)∧rest s (p + 1)=l:=by
 have hlen:=gJ s p
 rw [h] at hlen
 have hp:p < s.size:=by simp at hlen;omega
 refine ⟨hp,?_,?_⟩
 ·have h0:(rest s p)[0]? =some b:=by rw [h];rfl
  unfold rest at h0
  rw [List.getElem?_drop] at h0
  unfold bt
  have hp':((p:Int)).toNat < s.size:=by omega
  rw [dif_pos hp']
  have h1:s[((p:Int)).toNat]'hp'=b:=by
   have h2:s.data.toList[p]? =some b:=by simpa using h0
   rw [List.getElem?_eq_getElem (by rw [dI];exact hp)] at h2
   have h3:=Option.some.inj h2
   rw [← h3]
   simp [ByteArray.getElem_eq_getElem_data]
  rw [h1]
 ·rw [iZ,h]
  rfl
theorem sG {s:ByteArray} {p:Nat} (h:rest s p= []):s.size≤p:=by
 have hlen:=gJ s p
 rw [h] at hlen
 simp at hlen
 omega
theorem kR (s:ByteArray) (p q:Nat) (_h:p≤q):s.extract p q=aA ((rest s p).take (q - p)):=by
 apply ByteArray.ext
 rw [← Array.toList_inj]
 simp [aA,rest]
theorem nG {α:Type} (P:α→Bool):∀ l:List α,l.take (l.takeWhile P).length=l.takeWhile P
 | []=>rfl
 |b :: l=>by
  by_cases hb:P b=true
  ·simp [hb,nG P l]
  ·simp [hb]
theorem rG (n:Nat) (h:n < 4611686018427387904):wrap64 ((n:Int) + 1)=((n + 1:Nat):Int):=by unfold wrap64;omega
def dh (c:UInt8):List UInt8→Bool
 | []=>false
 |b :: _ =>b == c
theorem nP (s:ByteArray) (p:Nat) (c:UInt8) (ci:Int) (hc:ci=(c.toNat:Int)) (hs:s.size < 4611686018427387904):
 br.f s (p:Int) ci=some (dh c (rest s p),s,(((if dh c (rest s p)=true then p + 1 else p):Nat):Int)):=by
 subst hc
 unfold br.f
 cases hr:rest s p with
 |nil=>
  have:=sG hr
  rw [if_neg aq]
  rfl
 |cons b l=>
  obtain ⟨h1,h2,_⟩:=pg hr
  rw [if_pos aq,if_pos aq,h2]
  by_cases hb:b=c
  ·subst hb
   rw [if_pos rfl,rG p aq]
   simp [dh]
  ·rw [if_neg (by intro h;exact hb (UInt8.toNat_inj.mp aq))]
   simp [dh,hb]
def Sl:List UInt8→UInt8
 | []=>0
 |b :: _ =>b
theorem Sm (s:ByteArray) (p:Nat):dn.f s (p:Int)=some (((Sl (rest s p)).toNat:Int),s,(p:Int)):=by
 unfold dn.f
 cases hr:rest s p with
 |nil=>
  have:=sG hr
  rw [if_neg aq]
  rfl
 |cons b l=>
  obtain ⟨h1,h2,_⟩:=pg hr
  rw [if_pos aq,if_pos aq,h2]
  rfl
theorem fJ {Q:UInt8→Prop} (h:∀ n,n < 256→Q (UInt8.ofNat n)) (b:UInt8):Q b:=by
 have:=h b.toNat (UInt8.toNat_lt b)
 rwa [UInt8.ofNat_toNat] at this
def ny (b:UInt8):Bool:=(eT.f (b.toNat:Int)).getD false
theorem Z6 (b:UInt8):eT.f (b.toNat:Int)=some (ny b):=by
 unfold ny
 have h:(eT.f (b.toNat:Int)).isSome=true:=by
  have h2:∀ n,n < 256→(eT.f ((n:Nat):Int)).isSome=true:=by decide +kernel
  exact h2 _ (UInt8.toNat_lt b)
 cases hf:eT.f (b.toNat:Int) with
 |none=>rw [hf] at h;cases h
 |some x=>rfl
def kI (b:UInt8):Bool:=(iR.f (b.toNat:Int)).getD false
theorem Wa (b:UInt8):iR.f (b.toNat:Int)=some (kI b):=by
 unfold kI
 have h:(iR.f (b.toNat:Int)).isSome=true:=by
  have h2:∀ n,n < 256→(iR.f ((n:Nat):Int)).isSome=true:=by decide +kernel
  exact h2 _ (UInt8.toNat_lt b)
 cases hf:iR.f (b.toNat:Int) with
 |none=>rw [hf] at h;cases h
 |some x=>rfl
def jz (b:UInt8):Bool:=b != 93
theorem Wb (b:UInt8):gv.f (b.toNat:Int)=some (jz b):=by
 unfold gv.f jz
 congr 1
 by_cases hb:b=93
 ·subst hb;rfl
 ·have: ¬ ((b.toNat:Int)=93):=by
   intro h
   exact hb (UInt8.toNat_inj.mp (by simpa using (aq:b.toNat=93)))
  rw [bne_iff_ne.mpr this,bne_iff_ne.mpr hb]
theorem Sn (s:ByteArray) (hs:s.size < 4611686018427387904) (a:Nat):∀ (k p:Nat),(rest s p).length < k→a≤p→p≤s.size→
 aR.l0 k (a:Int) s (p:Int)=some (s.extract a (p + ((rest s p).takeWhile ny).length),decide (a < p + ((rest s p).takeWhile ny).length),s,((p + ((rest s p).takeWhile ny).length:Nat):Int))
 | 0,p,h,_,_ =>absurd h (Nat.not_lt_zero _)
 |k + 1,p,h,ha,hp=>by
  unfold aR.l0
  cases hr:rest s p with
  |nil=>
   have:=sG hr
   rw [if_neg aq,if_pos aq,if_pos aq,if_pos aq]
   simp
   try exact decide_eq_decide.mpr Iff.rfl
  |cons c l=>
   obtain ⟨h1,h2,h3⟩:=pg hr
   rw [if_pos aq,if_pos aq,h2,Z6]
   simp only [Option.bind_some]
   by_cases hb:ny c=true
   ·rw [if_pos hb,rG p aq,Sn s hs a k (p + 1) Dw aq aq,h3]
    have e:p + 1 + (l.takeWhile ny).length=p + ((c :: l).takeWhile ny).length:=by simp [hb];omega
    rw [e]
   ·rw [if_neg hb,if_pos aq,if_pos aq,if_pos aq]
    simp [hb]
theorem ac9 (s:ByteArray) (hs:s.size < 4611686018427387904) (k p:Nat) (hk:(rest s p).length < k) (hp:p≤s.size):
 aR.f k s (p:Int)=some (aA ((rest s p).takeWhile ny),decide (0 < ((rest s p).takeWhile ny).length),s,((p + ((rest s p).takeWhile ny).length:Nat):Int)):=by
 unfold aR.f
 rw [Sn s hs p k p hk (Nat.le_refl _) hp,kR _ _ _ aq,Nat.add_sub_cancel_left,nG]
 congr 2
 simp
theorem MM (s:ByteArray) (hs:s.size < 4611686018427387904) (a:Nat):∀ (k p:Nat),(rest s p).length < k→a≤p→p≤s.size→
 bz.l0 k (a:Int) s (p:Int)=some (s.extract a (p + ((rest s p).takeWhile kI).length),decide (a < p + ((rest s p).takeWhile kI).length),s,((p + ((rest s p).takeWhile kI).length:Nat):Int))
 | 0,p,h,_,_ =>absurd h (Nat.not_lt_zero _)
 |k + 1,p,h,ha,hp=>by
  unfold bz.l0
  cases hr:rest s p with
  |nil=>
   have:=sG hr
   rw [if_neg aq,if_pos aq,if_pos aq,if_pos aq]
   simp
   try exact decide_eq_decide.mpr Iff.rfl
  |cons c l=>
   obtain ⟨h1,h2,h3⟩:=pg hr
   rw [if_pos aq,if_pos aq,h2,Wa]
   simp only [Option.bind_some]
   by_cases hb:kI c=true
   ·rw [if_pos hb,rG p aq,MM s hs a k (p + 1) Dw aq aq,h3]
    have e:p + 1 + (l.takeWhile kI).length=p + ((c :: l).takeWhile kI).length:=by simp [hb];omega
    rw [e]
   ·rw [if_neg hb,if_pos aq,if_pos aq,if_pos aq]
    simp [hb]
theorem Z7 (s:ByteArray) (hs:s.size < 4611686018427387904) (k p:Nat) (hk:(rest s p).length < k) (hp:p≤s.size):
 bz.f k s (p:Int)=some (aA ((rest s p).takeWhile kI),decide (0 < ((rest s p).takeWhile kI).length),s,((p + ((rest s p).takeWhile kI).length:Nat):Int)):=by
 unfold bz.f
 rw [MM s hs p k p hk (Nat.le_refl _) hp,kR _ _ _ aq,Nat.add_sub_cancel_left,nG]
 congr 2
 simp
theorem MN (s:ByteArray) (hs:s.size < 4611686018427387904) (a:Nat):∀ (k p:Nat),(rest s p).length < k→a≤p→p≤s.size→
 aQ.l0 k (a:Int) s (p:Int)=some (s.extract a (p + ((rest s p).takeWhile jz).length),decide (a < p + ((rest s p).takeWhile jz).length),s,((p + ((rest s p).takeWhile jz).length:Nat):Int))
 | 0,p,h,_,_ =>absurd h (Nat.not_lt_zero _)
 |k + 1,p,h,ha,hp=>by
  unfold aQ.l0
  cases hr:rest s p with
  |nil=>
   have:=sG hr
   rw [if_neg aq,if_pos aq,if_pos aq,if_pos aq]
   simp
   try exact decide_eq_decide.mpr Iff.rfl
  |cons c l=>
   obtain ⟨h1,h2,h3⟩:=pg hr
   rw [if_pos aq,if_pos aq,h2,Wb]
   simp only [Option.bind_some]
   by_cases hb:jz c=true
   ·rw [if_pos hb,rG p aq,MN s hs a k (p + 1) Dw aq aq,h3]
    have e:p + 1 + (l.takeWhile jz).length=p + ((c :: l).takeWhile jz).length:=by simp [hb];omega
    rw [e]
   ·rw [if_neg hb,if_pos aq,if_pos aq,if_pos aq]
    simp [hb]
theorem Z8 (s:ByteArray) (hs:s.size < 4611686018427387904) (k p:Nat) (hk:(rest s p).length < k) (hp:p≤s.size):
 aQ.f k s (p:Int)=some (aA ((rest s p).takeWhile jz),decide (0 < ((rest s p).takeWhile jz).length),s,((p + ((rest s p).takeWhile jz).length:Nat):Int)):=by
 unfold aQ.f
 rw [MN s hs p k p hk (Nat.le_refl _) hp,kR _ _ _ aq,Nat.add_sub_cancel_left,nG]
 congr 2
 simp
theorem Sp (l:List UInt8) (i:Nat) (h:i < l.length):bt (aA l) (i:Int)=((l.getD i 0).toNat:Int):=by
 unfold bt
 have h':((i:Int)).toNat < (aA l).size:=by show _ < l.length;omega
 rw [dif_pos h']
 have:(aA l)[((i:Int)).toNat]'(h')=l.getD i 0:=by
  simp only [Int.toNat_natCast]
  rw [List.getD_eq_getElem?_getD,List.getElem?_eq_getElem h]
  rfl
 rw [this]
theorem bO (l:List UInt8):(aA l).size=l.length:=rfl
theorem nQ {α:Type} (P:α→Bool) (l:List α):(l.takeWhile P).length≤l.length:=(List.takeWhile_sublist P).length_le
def fo (l:List UInt8):Bool×Nat:=
 (match l.takeWhile ny with
  | []=>false
  |c :: t=>c != 45 && (c :: t).getD t.length 0 != 45,(l.takeWhile ny).length)
theorem toNat_eq {a b:UInt8} (h:(a.toNat:Int)=(b.toNat:Int)):a=b:=UInt8.toNat_inj.mp aq
theorem label_eq (s:ByteArray) (hs:s.size < 4611686018427387904) (k p:Nat) (hk:(rest s p).length < k) (hp:p≤s.size):
 fD.f k s (p:Int)=some ((fo (rest s p)).1,s,((p + (fo (rest s p)).2:Nat):Int)):=by
 unfold fD.f fo
 rw [ac9 s hs k p hk hp]
 simp only [Option.bind_some]
 have hle:=nQ ny (rest s p)
 have hrl:=gJ s p
 generalize (rest s p).takeWhile ny=w at hle ⊢
 cases w with
 |nil=>simp
 |cons c t=>
  have h0:bt (aA (c :: t)) 0=(c.toNat:Int):=Sp (c :: t) 0 bn
  have e1:wrap64 (((aA (c :: t)).size:Int) - 1)=(t.length:Int):=by
   rw [bO]
   unfold wrap64
   simp at hle ⊢
   omega
  have h1:bt (aA (c :: t)) (t.length:Int)=(((c :: t).getD t.length 0).toNat:Int):=Sp (c :: t) t.length bn
  rw [if_pos bn,if_pos (by rw [bO];first|(simp;done)|(simp;omega)),h0,e1,h1]
  by_cases hc:c=45
  ·subst hc
   rw [if_pos (show ((UInt8.toNat 45:Nat):Int)=45 from rfl)]
   simp
  ·rw [if_neg (show ¬ (c.toNat:Int)=45 from fun h=>hc (toNat_eq (b:=45) h)),if_pos aq,if_pos (by rw [bO];first|(simp;done)|(simp;omega))]
   have:((((c :: t).getD t.length 0).toNat:Int) != 45)=((c :: t).getD t.length 0 != 45):=by
    by_cases hl:(c :: t).getD t.length 0=45
    ·rw [hl];rfl
    ·rw [bne_iff_ne.mpr hl,bne_iff_ne.mpr (show (((c :: t).getD t.length 0).toNat:Int)≠45 from fun h=>hl (toNat_eq (b:=45) h))]
   rw [this]
   simp [hc]
def iz (l:List UInt8):Bool×Nat:=(decide (0 < (l.takeWhile kI).length),(l.takeWhile kI).length)
theorem Wc (s:ByteArray) (hs:s.size < 4611686018427387904) (k p:Nat) (hk:(rest s p).length < k) (hp:p≤s.size):
 fO.f k s (p:Int)=some ((iz (rest s p)).1,s,((p + (iz (rest s p)).2:Nat):Int)):=by
 unfold fO.f iz
 rw [Z7 s hs k p hk hp]
 rfl
theorem BU (l:List UInt8):(fo l).2≤l.length:=nQ _ _
theorem xp (l:List UInt8):(iz l).2≤l.length:=nQ _ _
def Fy (part:List UInt8→Bool×Nat) (c:UInt8):Nat→List UInt8→Bool×Nat
 | 0,_ =>(false,0)
 |n + 1,l=>if (part l).1=true then (if dh c (l.drop (part l).2)=true then ((Fy part c n (l.drop ((part l).2 + 1))).1,(part l).2 + 1 + (Fy part c n (l.drop ((part l).2 + 1))).2) else (true,(part l).2)) else (false,(part l).2)
def fK (part:List UInt8→Bool×Nat) (c:UInt8) (l:List UInt8):Bool×Nat:=Fy part c (l.length + 1) l
theorem gA {c:UInt8} {l:List UInt8} {n:Nat} (h:dh c (l.drop n)=true):n < l.length:=by
 rcases Nat.lt_or_ge n l.length with h1|h1
 ·exact h1
 ·rw [List.drop_of_length_le h1] at h
  cases h
theorem G6 (part:List UInt8→Bool×Nat) (c:UInt8):∀ (n m:Nat) (l:List UInt8),l.length < n→l.length < m→Fy part c n l=Fy part c m l
 | 0,_,_,h,_ =>absurd h (Nat.not_lt_zero _)
 |_,0,_,_,h=>absurd h (Nat.not_lt_zero _)
 |n + 1,m + 1,l,h1,h2=>by
  unfold Fy
  by_cases hp:(part l).1=true
  ·rw [if_pos hp,if_pos hp]
   by_cases hn:dh c (l.drop (part l).2)=true
   ·have:=gA hn
    rw [if_pos hn,if_pos hn,G6 part c n m _ lI lI]
   ·rw [if_neg hn,if_neg hn]
  ·rw [if_neg hp,if_neg hp]
theorem lH (part:List UInt8→Bool×Nat) (c:UInt8) (l:List UInt8):
 fK part c l=if (part l).1=true then (if dh c (l.drop (part l).2)=true then ((fK part c (l.drop ((part l).2 + 1))).1,(part l).2 + 1 + (fK part c (l.drop ((part l).2 + 1))).2) else (true,(part l).2)) else (false,(part l).2):=by
 unfold fK
 rw [Fy]
 by_cases hp:(part l).1=true
 ·rw [if_pos hp,if_pos hp]
  by_cases hn:dh c (l.drop (part l).2)=true
  ·have:=gA hn
   rw [if_pos hn,if_pos hn,G6 part c l.length ((l.drop ((part l).2 + 1)).length + 1) _ lI aq]
  ·rw [if_neg hn,if_neg hn]
 ·rw [if_neg hp,if_neg hp]
theorem xq (part:List UInt8→Bool×Nat) (c:UInt8) (hpart:∀ l,(part l).2≤l.length):∀ (n:Nat) (l:List UInt8),l.length < n→(fK part c l).2≤l.length
 | 0,_,h=>absurd h (Nat.not_lt_zero _)
 |n + 1,l,h=>by
  rw [lH]
  have hl:=hpart l
  by_cases hp:(part l).1=true
  ·rw [if_pos hp]
   by_cases hn:dh c (l.drop (part l).2)=true
   ·have h1:=gA hn
    have h2:=xq part c hpart n (l.drop ((part l).2 + 1)) lI
    rw [List.length_drop] at h2
    rw [if_pos hn]
    show _ + 1 + _≤_
    omega
   ·rw [if_neg hn]
    exact hl
  ·rw [if_neg hp]
   exact hl
theorem Fz (s:ByteArray) (hs:s.size < 4611686018427387904):∀ (k p:Nat),(rest s p).length + 1 < k→p≤s.size→
 aV.l0 k 46 s (p:Int)=some ((fK fo 46 (rest s p)).1,s,((p + (fK fo 46 (rest s p)).2:Nat):Int))
 | 0,p,h,_ =>absurd h aq
 |k + 1,p,h,hp=>by
  have hle:=BU (rest s p)
  have hrl:=gJ s p
  unfold aV.l0
  rw [label_eq s hs k p aq hp,lH]
  simp only [Option.bind_some]
  by_cases h1:(fo (rest s p)).1=true
  ·rw [if_pos h1,if_pos h1,nP s _ 46 46 rfl hs]
   simp only [Option.bind_some,iZ]
   by_cases h2:dh 46 ((rest s p).drop (fo (rest s p)).2)=true
   ·have h3:=gA h2
    rw [if_pos h2,if_pos h2,if_pos h2]
    have h4:=Fz s hs k (p + (fo (rest s p)).2 + 1) pJ aq
    rw [h4,Nat.add_assoc p,iZ]
    congr 3
    omega
   ·rw [if_neg h2,if_neg h2,if_neg h2]
  ·rw [if_neg h1,if_neg h1]
theorem BV (s:ByteArray) (hs:s.size < 4611686018427387904):∀ (k p:Nat),(rest s p).length + 1 < k→p≤s.size→
 aI.l0 k 46 s (p:Int)=some ((fK iz 46 (rest s p)).1,s,((p + (fK iz 46 (rest s p)).2:Nat):Int))
 | 0,p,h,_ =>absurd h aq
 |k + 1,p,h,hp=>by
  have hle:=xp (rest s p)
  have hrl:=gJ s p
  unfold aI.l0
  rw [Wc s hs k p aq hp,lH]
  simp only [Option.bind_some]
  by_cases h1:(iz (rest s p)).1=true
  ·rw [if_pos h1,if_pos h1,nP s _ 46 46 rfl hs]
   simp only [Option.bind_some,iZ]
   by_cases h2:dh 46 ((rest s p).drop (iz (rest s p)).2)=true
   ·have h3:=gA h2
    rw [if_pos h2,if_pos h2,if_pos h2]
    have h4:=BV s hs k (p + (iz (rest s p)).2 + 1) pJ aq
    rw [h4,Nat.add_assoc p,iZ]
    congr 3
    omega
   ·rw [if_neg h2,if_neg h2,if_neg h2]
  ·rw [if_neg h1,if_neg h1]
def oM (l:List UInt8):Bool×ByteArray×Nat:=((fK fo 46 l).1,cC.g (aA (l.take (fK fo 46 l).2)),(fK fo 46 l).2)
theorem Bl (l:List UInt8):(oM l).2.2≤l.length:=xq fo 46 BU _ l (Nat.lt_succ_self _)
theorem domain_eq (s:ByteArray) (hs:s.size < 4611686018427387904) (k p:Nat) (hk:(rest s p).length + 1 < k) (hp:p≤s.size):
 ck.f k s (p:Int)=some ((oM (rest s p)).2.1,(oM (rest s p)).1,s,((p + (oM (rest s p)).2.2:Nat):Int)):=by
 have hle:=Bl (rest s p)
 have hrl:=gJ s p
 unfold oM at hle ⊢
 simp only at hle ⊢
 unfold ck.f aV.f
 rw [Fz s hs k p hk hp]
 simp only [Option.bind_some]
 rw [if_pos aq,if_pos aq,if_pos aq]
 have e:s.extract ((p:Int)).toNat (((p + (fK fo 46 (rest s p)).2:Nat):Int)).toNat=aA ((rest s p).take (fK fo 46 (rest s p)).2):=by
  rw [Int.toNat_natCast,Int.toNat_natCast,kR _ _ _ aq,Nat.add_sub_cancel_left]
 rw [e]
 have hf:cC.f (aA ((rest s p).take (fK fo 46 (rest s p)).2))=some (cC.g (aA ((rest s p).take (fK fo 46 (rest s p)).2))):=by
  unfold cC.f
  rw [if_pos]
  rw [bO,List.length_take]
  omega
 rw [hf]
 rfl
def kL:List UInt8→List UInt8→Bool×List UInt8×Nat
 | [],_ =>(false,[],0)
 |b :: l,acc=>
  if b=34 then (true,acc,1)
  else if b=92 then
   match l with
   | []=>(false,[],2)
   |c :: l'=>if c < 32∨126 < c then (false,[],2) else ((kL l' (acc ++ [c])).1,(kL l' (acc ++ [c])).2.1,(kL l' (acc ++ [c])).2.2 + 2)
  else if b < 32∨126 < b then (false,[],1)
  else ((kL l (acc ++ [b])).1,(kL l (acc ++ [b])).2.1,(kL l (acc ++ [b])).2.2 + 1)
def oN (l:List UInt8):List Int:=l.map fun b=>(b.toNat:Int)
theorem MO (l:List UInt8):strOfNums (oN l)=aA l:=by
 unfold strOfNums oN aA
 congr 1
 rw [List.map_map,← Array.toList_inj]
 show List.map _ l=l
 rw [show ((fun n:Int=>UInt8.ofNat n.toNat) ∘fun b:UInt8=>(b.toNat:Int))=id from by funext b;simp]
 simp
theorem ltI {b c:UInt8}:((b.toNat:Int) < (c.toNat:Int))↔b < c:=by
 rw [UInt8.lt_iff_toNat_lt]
 omega
theorem O4 {b:UInt8}:((b.toNat:Int) < 32)↔b < 32:=ltI (c:=32)
theorem FA {b:UInt8}:((b.toNat:Int) > 126)↔126 < b:=ltI (b:=126)
theorem FB (s:ByteArray) (hs:s.size < 70368744177664):∀ (k p:Nat) (acc:List UInt8),(rest s p).length + 1 < k→p≤s.size→acc.length + (rest s p).length≤s.size→
 cm.l0 k (oN acc) s (p:Int)=some (aA (kL (rest s p) acc).2.1,(kL (rest s p) acc).1,s,((p + (kL (rest s p) acc).2.2:Nat):Int))
 | 0,p,acc,h,_,_ =>absurd h aq
 |k + 1,p,acc,h,hp,ha=>by
  unfold cm.l0
  have hrl:=gJ s p
  cases hr:rest s p with
  |nil=>
   have:=sG hr
   rw [if_neg aq]
   rfl
  |cons b l=>
   obtain ⟨h1,h2,h3⟩:=pg hr
   have hlen:l.length + 1=s.size - p:=by rw [hr] at hrl;simpa using hrl
   rw [if_pos aq,if_pos aq,h2]
   unfold kL
   by_cases hq:b=34
   ·subst hq
    rw [if_pos rfl,if_pos (show ((UInt8.toNat 34:Nat):Int)=34 from rfl),MO,rG p aq]
   ·rw [if_neg hq,if_neg (show ¬ (b.toNat:Int)=34 from fun h=>hq (toNat_eq (b:=34) h))]
    by_cases hb:b=92
    ·subst hb
     rw [if_pos rfl,if_pos (show ((UInt8.toNat 92:Nat):Int)=92 from rfl),rG p aq,Sm,h3]
     simp only [Option.bind_some]
     cases l with
     |nil=>
      have e:wrap64 (((p + 1:Nat):Int) + 1)=((p + 2:Nat):Int):=by unfold wrap64;omega
      rw [if_pos bR,e]
      rfl
     |cons c l'=>
      have e:wrap64 (((p + 1:Nat):Int) + 1)=((p + 2:Nat):Int):=by unfold wrap64;omega
      rw [e]
      show (if ((c.toNat:Int) < 32) then _ else if ((c.toNat:Int) > 126) then _ else _)=_
      by_cases hc:c < 32
      ·rw [if_pos (O4.mpr hc)]
       simp only [if_pos (Or.inl hc:c < 32∨126 < c)]
       rfl
      ·rw [if_neg (fun h=>hc (O4.mp h))]
       by_cases hd: 126 < c
       ·rw [if_pos (FA.mpr hd)]
        simp only [if_pos (Or.inr hd:c < 32∨126 < c)]
        rfl
       ·rw [if_neg (fun h=>hd (FA.mp h)),if_pos (by simp [oN];rw [hr] at ha;simp at ha;omega)]
        have hcd: ¬ (c < 32∨126 < c):=fun h=>h.elim hc hd
        simp only [if_neg hcd]
        have hr2:rest s (p + 2)=l':=by rw [iZ,hr];rfl
        have hn:oN acc ++ [(c.toNat:Int)]=oN (acc ++ [c]):=by simp [oN]
        have:=FB s hs k (p + 2) (acc ++ [c]) (by rw [hr2];simp at hlen;rw [hr] at h;simp at h;omega) (by simp at hlen;omega) (by rw [hr2];rw [hr] at ha;simp at ha ⊢;omega)
        rw [show Sl (c :: l')=c from rfl,hn,this,hr2,Nat.add_assoc,Nat.add_comm 2]
    ·rw [if_neg hb,if_neg (show ¬ (b.toNat:Int)=92 from fun h=>hb (toNat_eq (b:=92) h)),rG p aq]
     by_cases hc:b < 32
     ·rw [if_pos (O4.mpr hc),if_pos (Or.inl hc)]
      rfl
     ·rw [if_neg (fun h=>hc (O4.mp h))]
      by_cases hd: 126 < b
      ·rw [if_pos (FA.mpr hd),if_pos (Or.inr hd)]
       rfl
      ·rw [if_neg (fun h=>hd (FA.mp h)),if_pos (by simp [oN];rw [hr] at ha;simp at ha;omega),if_neg (fun h=>h.elim hc hd)]
       have hn:oN acc ++ [(b.toNat:Int)]=oN (acc ++ [b]):=by simp [oN]
       have:=FB s hs k (p + 1) (acc ++ [b]) Dw aq (by rw [h3];rw [hr] at ha;simp at ha ⊢;omega)
       rw [hn,this,h3,Nat.add_assoc,Nat.add_comm 1]
theorem FC:∀ (n:Nat) (l acc:List UInt8),l.length < n→(kL l acc).1=true→(kL l acc).2.2≤l.length
 | 0,_,_,h,_ =>absurd h (Nat.not_lt_zero _)
 |n + 1,l,acc,h,ho=>by
  cases l with
  |nil=>unfold kL at ho;cases ho
  |cons b l=>
   unfold kL at ho ⊢
   by_cases hq:b=34
   ·rw [if_pos hq] at ho ⊢
    simp
   ·rw [if_neg hq] at ho ⊢
    by_cases hb:b=92
    ·rw [if_pos hb] at ho ⊢
     cases l with
     |nil=>cases ho
     |cons c l'=>
      by_cases hc:c < 32∨126 < c
      ·simp only [if_pos hc] at ho
       cases ho
      ·simp only [if_neg hc] at ho ⊢
       have:=FC n l' (acc ++ [c]) xJ ho
       simp
       omega
    ·rw [if_neg hb] at ho ⊢
     by_cases hc:b < 32∨126 < b
     ·rw [if_pos hc] at ho
      cases ho
     ·rw [if_neg hc] at ho ⊢
      have:=FC n l (acc ++ [b]) xJ ho
      simp
      omega
def eX (l:List UInt8):Bool×ByteArray×Nat:=
 if dh 34 l=true then ((kL (l.drop 1) []).1,aA (kL (l.drop 1) []).2.1,1 + (kL (l.drop 1) []).2.2)
 else ((fK iz 46 l).1,aA (l.take (fK iz 46 l).2),(fK iz 46 l).2)
theorem oO {c:UInt8} {l:List UInt8} (h:dh c l=true): 0 < l.length:=by
 cases l with
 |nil=>cases h
 |cons _ _ =>simp
theorem Tm (l:List UInt8) (h:(eX l).1=true):(eX l).2.2≤l.length:=by
 unfold eX at h ⊢
 by_cases hq:dh 34 l=true
 ·rw [if_pos hq] at h ⊢
  have h1:=oO hq
  have h2:=FC _ (l.drop 1) [] (Nat.lt_succ_self _) h
  rw [List.length_drop] at h2
  show 1 + _≤_
  omega
 ·rw [if_neg hq]
  exact xq iz 46 xp _ l (Nat.lt_succ_self _)
theorem Wd (s:ByteArray) (hs:s.size < 70368744177664) (k p:Nat) (hk:(rest s p).length + 1 < k) (hp:p≤s.size):
 cm.f k s (p:Int)=some ((eX (rest s p)).2.1,(eX (rest s p)).1,s,((p + (eX (rest s p)).2.2:Nat):Int)):=by
 have hrl:=gJ s p
 unfold cm.f eX
 rw [nP s p 34 34 rfl aq]
 simp only [Option.bind_some]
 by_cases hq:dh 34 (rest s p)=true
 ·have h1:=oO hq
  have:=FB s hs k (p + 1) [] pJ aq (by rw [gJ];simp)
  rw [if_pos hq,if_pos hq,if_pos hq]
  rw [show ([]:List Int)=oN [] from rfl,this,iZ,Nat.add_assoc]
 ·rw [if_neg hq,if_neg hq,if_neg hq]
  have hle:=xq iz 46 xp _ (rest s p) (Nat.lt_succ_self _)
  unfold aI.f
  rw [BV s aq k p hk hp]
  simp only [Option.bind_some]
  rw [if_pos aq,if_pos aq,if_pos aq,Int.toNat_natCast,Int.toNat_natCast,kR _ _ _ aq,Nat.add_sub_cancel_left]
theorem more {α:Type} {f:Nat→Option α} (hm:∀ k,cR (f k) (f (k + 1))) {k1 k2:Nat} (h:k1≤k2) {r:α} (hf:f k1=some r):f k2=some r:=by
 induction h with
 |refl=>exact hf
 |step _ ih=>exact hm _ _ ih
theorem FD (k0:Nat) {xs:List ByteArray} (hf:∀ y,y∈xs→∀ k,k0≤k→∃ r,gp.f y=some r):∀ (k i:Nat),xs.length - i + k0 < k→i≤xs.length→xs.length < 4611686018427387904→∃ r,aC.l0 k xs (xs.length:Int) (i:Int)=some r
 | 0,_,h,_,_ =>absurd h (Nat.not_lt_zero _)
 |k + 1,i,h,hi,hl=>by
  unfold aC.l0
  by_cases hlt:i < xs.length
  ·rw [if_pos aq,if_pos aq,if_pos aq]
   have hrd:kC ByteArray.empty xs (i:Int)=xs[i]:=by simp [kC,hlt]
   obtain ⟨r,hr⟩:=hf xs[i] (List.getElem_mem hlt) k aq
   rw [hrd,hr]
   simp only [Option.bind_some]
   split
   ·exact ⟨_,rfl⟩
   ·rw [rG i aq]
    exact FD k0 hf k (i + 1) aq aq hl
  ·rw [if_neg aq]
   exact ⟨_,rfl⟩
theorem MP (k0 k:Nat) {xs:List ByteArray} (hf:∀ y,y∈xs→∀ k,k0≤k→∃ r,gp.f y=some r) (hk:xs.length + k0 < k) (hl:xs.length < 4611686018427387904):∃ r,aC.f k xs=some r:=FD k0 hf k 0 aq (Nat.zero_le _) hl
theorem Bn (k0:Nat) {xs:List ByteArray} (hf:∀ y,y∈xs→∀ k,k0≤k→∃ r,ke.f y=some r):∀ (k i:Nat),xs.length - i + k0 < k→i≤xs.length→xs.length < 4611686018427387904→∃ r,aD.l0 k xs (xs.length:Int) (i:Int)=some r
 | 0,_,h,_,_ =>absurd h (Nat.not_lt_zero _)
 |k + 1,i,h,hi,hl=>by
  unfold aD.l0
  by_cases hlt:i < xs.length
  ·rw [if_pos aq,if_pos aq,if_pos aq]
   have hrd:kC ByteArray.empty xs (i:Int)=xs[i]:=by simp [kC,hlt]
   obtain ⟨r,hr⟩:=hf xs[i] (List.getElem_mem hlt) k aq
   rw [hrd,hr]
   simp only [Option.bind_some]
   split
   ·exact ⟨_,rfl⟩
   ·rw [rG i aq]
    exact Bn k0 hf k (i + 1) aq aq hl
  ·rw [if_neg aq]
   exact ⟨_,rfl⟩
theorem GC (k0 k:Nat) {xs:List ByteArray} (hf:∀ y,y∈xs→∀ k,k0≤k→∃ r,ke.f y=some r) (hk:xs.length + k0 < k) (hl:xs.length < 4611686018427387904):∃ r,aD.f k xs=some r:=Bn k0 hf k 0 aq (Nat.zero_le _) hl
theorem Bo (k0:Nat) {xs:List ByteArray} (hf:∀ y,y∈xs→∀ k,k0≤k→∃ r,fV.f k y=some r):∀ (k i:Nat),xs.length - i + k0 < k→i≤xs.length→xs.length < 4611686018427387904→∃ r,aG.l0 k xs (xs.length:Int) (i:Int)=some r
 | 0,_,h,_,_ =>absurd h (Nat.not_lt_zero _)
 |k + 1,i,h,hi,hl=>by
  unfold aG.l0
  by_cases hlt:i < xs.length
  ·rw [if_pos aq,if_pos aq,if_pos aq]
   have hrd:kC ByteArray.empty xs (i:Int)=xs[i]:=by simp [kC,hlt]
   obtain ⟨r,hr⟩:=hf xs[i] (List.getElem_mem hlt) k aq
   rw [hrd,hr]
   simp only [Option.bind_some]
   split
   ·exact ⟨_,rfl⟩
   ·rw [rG i aq]
    exact Bo k0 hf k (i + 1) aq aq hl
  ·rw [if_neg aq]
   exact ⟨_,rfl⟩
theorem GD (k0 k:Nat) {xs:List ByteArray} (hf:∀ y,y∈xs→∀ k,k0≤k→∃ r,fV.f k y=some r) (hk:xs.length + k0 < k) (hl:xs.length < 4611686018427387904):∃ r,aG.f k xs=some r:=Bo k0 hf k 0 aq (Nat.zero_le _) hl
theorem qz (x:ByteArray) (c:UInt8) (hx:x.size < 4294967281):strings_Split.f x ⟨#[c]⟩=some ((pieces c x.data.toList).map aA):=by
 unfold strings_Split.f
 rw [show one? ⟨#[c]⟩=some c from rfl]
 simp only [if_pos hx]
theorem FE (c:UInt8) (x:ByteArray):((pieces c x.data.toList).map aA).length≤x.size + 1:=by
 rw [List.length_map,lK]
 have:=List.count_le_length (a:=c) (l:=x.data.toList)
 rw [dI] at this
 omega
theorem CC (x:ByteArray) (hx:x.size < 4294967281):∃ r,eZ.f x=some r:=by
 unfold eZ.f
 rw [if_pos hx]
 exact ⟨_,rfl⟩
theorem We (x:ByteArray) (hx:x.size < 4294967281):∃ r,pN.f x=some r:=by
 unfold pN.f strings_Cut.f
 rw [if_pos hx]
 simp only [Option.bind_some]
 have h1:(aA (Lib.cut x.data.toList [58,58]).1).size < 4294967281:=by
  show (Lib.cut x.data.toList [58,58]).1.length < _
  have:=dI x
  unfold Lib.cut
  split
  ·simp only [List.length_take];omega
  ·simp only;omega
 have h2:(aA (Lib.cut x.data.toList [58,58]).2.1).size < 4294967281:=by
  show (Lib.cut x.data.toList [58,58]).2.1.length < _
  have:=dI x
  unfold Lib.cut
  split
  ·simp only [List.length_drop];omega
  ·simp only [List.length_nil];omega
 obtain ⟨a,ha⟩:=CC _ h1
 obtain ⟨b,hb⟩:=CC _ h2
 show ∃ r,((eZ.f (aA (Lib.cut x.data.toList [58,58]).1)).bind fun t151=>((eZ.f (aA (Lib.cut x.data.toList [58,58]).2.1)).bind fun t152=>_))=some r
 rw [ha,hb]
 simp only [Option.bind_some]
 split
 ·split
  ·split<;>exact ⟨_,rfl⟩
  ·exact ⟨_,rfl⟩
 ·exact ⟨_,rfl⟩
theorem Tn (x:ByteArray) (hx:x.size < 4294967281):∃ r,gp.f x=some r:=by
 unfold gp.f
 rw [if_pos aq]
 exact ⟨_,rfl⟩
theorem K3 (x:ByteArray) (hx:x.size < 4294967281) (k:Nat) (hk:x.size + 4 < k):∃ r,bZ.f k x=some r:=by
 obtain ⟨k,rfl⟩:∃ k',k=k' + 1:=⟨k - 1,aq⟩
 have hj:∀ b,∃ r,bZ.j0 (k + 1) x b=some r∨b=true∧x.size < 5:=by
  intro b
  rw [bZ.j0]
  cases b with
  |true=>
   by_cases h5:x.size < 5
   ·exact ⟨true,.inr ⟨rfl,h5⟩⟩
   ·obtain ⟨r,hr⟩:=We (x.extract 5 x.size) (by rw [ByteArray.size_extract];omega)
    exact ⟨r,.inl (by rw [if_pos rfl,if_pos aq,hr];rfl)⟩
  |false=>
   rw [if_neg bR,qz x 46 hx]
   simp only [Option.bind_some]
   split
   ·have hn:=FE 46 x
    obtain ⟨r,hr⟩:=MP 0 k (xs:=(pieces 46 x.data.toList).map aA) (fun y hy _ _ =>Tn y (by have:=Cq 46 x y hy;omega)) aq aq
    unfold bE.f
    rw [hr]
    exact ⟨_,.inl rfl⟩
   ·exact ⟨_,.inl rfl⟩
 unfold bZ.f
 split
 ·rename_i h5
  rw [if_pos bR,if_pos aq]
  have hf:cC.f (x.extract 0 5)=some (cC.g (x.extract 0 5)):=by
   unfold cC.f
   rw [if_pos]
   rw [ByteArray.size_extract]
   omega
  rw [hf]
  simp only [Option.bind_some]
  obtain ⟨r,hr|⟨_,hr⟩⟩:=hj ((cC.g (x.extract 0 5)).toList == ([105,112,118,54,58]:List UInt8))
  ·exact ⟨r,hr⟩
  ·omega
 ·obtain ⟨r,hr|⟨hr,_⟩⟩:=hj false
  ·exact ⟨r,hr⟩
  ·cases hr
def O5 (w:ByteArray):Bool:=(bZ.f (w.size + 5) w).getD false
theorem O6 (x:ByteArray) (hx:x.size < 4294967281) (k:Nat) (hk:x.size + 4 < k):bZ.f k x=some (O5 x):=by
 obtain ⟨r,hr⟩:=K3 x hx (x.size + 5) aq
 have h1:O5 x=r:=by unfold O5;rw [hr];rfl
 rw [h1]
 exact oV (fun k=>bZ.mono x k) aq hr
def lX (l:List UInt8):Bool×ByteArray×ByteArray×Bool×Nat:=
 if (eX l).1=true then
  if dh 64 (l.drop (eX l).2.2)=true then
   if dh 91 (l.drop ((eX l).2.2 + 1))=true then
    if dh 93 (l.drop ((eX l).2.2 + 2 + ((l.drop ((eX l).2.2 + 2)).takeWhile jz).length))=true then
     (O5 (aA ((l.drop ((eX l).2.2 + 2)).takeWhile jz)),(eX l).2.1,cC.g (aA ((l.drop ((eX l).2.2 + 2)).takeWhile jz)),true,(eX l).2.2 + 2 + ((l.drop ((eX l).2.2 + 2)).takeWhile jz).length + 1)
    else (false,(eX l).2.1,cC.g (aA ((l.drop ((eX l).2.2 + 2)).takeWhile jz)),true,(eX l).2.2 + 2 + ((l.drop ((eX l).2.2 + 2)).takeWhile jz).length)
   else ((oM (l.drop ((eX l).2.2 + 1))).1,(eX l).2.1,(oM (l.drop ((eX l).2.2 + 1))).2.1,false,(eX l).2.2 + 1 + (oM (l.drop ((eX l).2.2 + 1))).2.2)
  else (false,⟨#[]⟩,⟨#[]⟩,false,(eX l).2.2)
 else (false,⟨#[]⟩,⟨#[]⟩,false,(eX l).2.2)
theorem G7 {c:UInt8} {s:ByteArray} {p:Nat} (h:dh c (rest s p)=true):p < s.size:=by
 have:=oO h
 rw [gJ] at this
 omega
theorem ada (s:ByteArray) (hs:s.size < 4294967281) (k p:Nat) (hk:(rest s p).length + 6 < k) (hp:p≤s.size):
 cA.f k s (p:Int)=some ((lX (rest s p)).2.1,(lX (rest s p)).2.2.1,(lX (rest s p)).2.2.2.1,(lX (rest s p)).1,s,((p + (lX (rest s p)).2.2.2.2:Nat):Int)):=by
 obtain ⟨k,rfl⟩:∃ k',k=k' + 1:=⟨k - 1,aq⟩
 have hrl:=gJ s p
 unfold cA.f lX
 rw [Wd s aq (k + 1) p aq hp]
 simp only [Option.bind_some]
 by_cases h1:(eX (rest s p)).1=true
 ·have hle:=Tm _ h1
  rw [if_pos h1,if_pos h1,nP s _ 64 64 rfl aq]
  simp only [Option.bind_some,iZ]
  by_cases h2:dh 64 ((rest s p).drop (eX (rest s p)).2.2)=true
  ·have hl2:=G7 (by rw [iZ];exact h2)
   rw [if_pos h2,if_pos h2,h2,cA.j0,if_neg bR,nP s _ 91 91 rfl aq]
   simp only [Option.bind_some]
   rw [Nat.add_assoc p,iZ]
   by_cases h3:dh 91 ((rest s p).drop ((eX (rest s p)).2.2 + 1))=true
   ·have hl3:=G7 (by rw [iZ];exact h3)
    rw [if_pos h3,if_pos h3,if_pos h3,Nat.add_assoc p,Z8 s aq k _ pJ aq,iZ]
    simp only [Option.bind_some]
    have hw:=nQ jz ((rest s p).drop ((eX (rest s p)).2.2 + 1 + 1))
    rw [List.length_drop] at hw
    have hf:cC.f (aA (((rest s p).drop ((eX (rest s p)).2.2 + 1 + 1)).takeWhile jz))=some (cC.g (aA (((rest s p).drop ((eX (rest s p)).2.2 + 1 + 1)).takeWhile jz))):=by
     unfold cC.f
     rw [if_pos]
     rw [bO]
     omega
    rw [hf]
    simp only [Option.bind_some]
    rw [nP s _ 93 93 rfl aq]
    simp only [Option.bind_some]
    rw [Nat.add_assoc p,iZ]
    by_cases h4:dh 93 ((rest s p).drop ((eX (rest s p)).2.2 + 1 + 1 + (((rest s p).drop ((eX (rest s p)).2.2 + 1 + 1)).takeWhile jz).length))=true
    ·rw [if_pos h4,if_pos h4,if_pos h4,O6 _ kj k kj]
     rfl
    ·rw [if_neg h4,if_neg h4,if_neg h4]
   ·rw [if_neg h3,if_neg h3,if_neg h3,domain_eq s aq k _ pJ aq,iZ]
    simp only [Option.bind_some]
    rw [Nat.add_assoc p]
  ·rw [if_neg h2,if_neg h2,Bool.eq_false_iff.mpr h2,cA.j0,if_pos (show (!false)=true from rfl)]
 ·rw [if_neg h1,if_neg h1,cA.j0,if_pos rfl]
def jQ (l:List UInt8):Bool×ByteArray×Nat:=
 if dh 64 l=true then ((oM (l.drop 1)).1,(oM (l.drop 1)).2.1,1 + (oM (l.drop 1)).2.2) else (false,(oM l).2.1,(oM l).2.2)
theorem Sq (l:List UInt8):(jQ l).2.2≤l.length:=by
 unfold jQ
 split
 ·rename_i h
  have h1:=oO h
  have:=Bl (l.drop 1)
  rw [List.length_drop] at this
  show 1 + _≤_
  omega
 ·exact Bl l
theorem adb (s:ByteArray) (hs:s.size < 4294967281) (k p:Nat) (rs:List ByteArray) (hr:rs.length < 8000000000000) (hk:(rest s p).length + 1 < k) (hp:p≤s.size):
 ia.f k s (p:Int) rs=some ((jQ (rest s p)).1,s,((p + (jQ (rest s p)).2.2:Nat):Int),rs ++ [(jQ (rest s p)).2.1]):=by
 have hrl:=gJ s p
 unfold ia.f jQ
 rw [nP s p 64 64 rfl aq]
 simp only [Option.bind_some]
 by_cases h:dh 64 (rest s p)=true
 ·have h1:=oO h
  rw [if_pos h,if_pos h,h,domain_eq s aq k _ pJ aq,iZ]
  simp only [Option.bind_some]
  rw [if_pos hr,Bool.true_and,Nat.add_assoc]
 ·rw [if_neg h,if_neg h,Bool.eq_false_iff.mpr h,domain_eq s aq k _ hk hp]
  simp only [Option.bind_some]
  rw [if_pos hr,Bool.false_and]
def xu:Nat→List UInt8→Bool×List ByteArray×Nat
 | 0,_ =>(false,[],0)
 |n + 1,l=>if (jQ l).1=true then (if dh 44 (l.drop (jQ l).2.2)=true then ((xu n (l.drop ((jQ l).2.2 + 1))).1,(jQ l).2.1 :: (xu n (l.drop ((jQ l).2.2 + 1))).2.1,(jQ l).2.2 + 1 + (xu n (l.drop ((jQ l).2.2 + 1))).2.2) else (true,[(jQ l).2.1],(jQ l).2.2)) else (false,[(jQ l).2.1],(jQ l).2.2)
def iM (l:List UInt8):Bool×List ByteArray×Nat:=xu (l.length + 1) l
theorem FH:∀ (n m:Nat) (l:List UInt8),l.length < n→l.length < m→xu n l=xu m l
 | 0,_,_,h,_ =>absurd h (Nat.not_lt_zero _)
 |_,0,_,_,h=>absurd h (Nat.not_lt_zero _)
 |n + 1,m + 1,l,h1,h2=>by
  unfold xu
  by_cases hp:(jQ l).1=true
  ·rw [if_pos hp,if_pos hp]
   by_cases hn:dh 44 (l.drop (jQ l).2.2)=true
   ·have:=gA hn
    rw [if_pos hn,if_pos hn,FH n m _ lI lI]
   ·rw [if_neg hn,if_neg hn]
  ·rw [if_neg hp,if_neg hp]
theorem rV (l:List UInt8):
 iM l=if (jQ l).1=true then (if dh 44 (l.drop (jQ l).2.2)=true then ((iM (l.drop ((jQ l).2.2 + 1))).1,(jQ l).2.1 :: (iM (l.drop ((jQ l).2.2 + 1))).2.1,(jQ l).2.2 + 1 + (iM (l.drop ((jQ l).2.2 + 1))).2.2) else (true,[(jQ l).2.1],(jQ l).2.2)) else (false,[(jQ l).2.1],(jQ l).2.2):=by
 unfold iM
 rw [xu]
 by_cases hp:(jQ l).1=true
 ·rw [if_pos hp,if_pos hp]
  by_cases hn:dh 44 (l.drop (jQ l).2.2)=true
  ·have:=gA hn
   rw [if_pos hn,if_pos hn,FH l.length ((l.drop ((jQ l).2.2 + 1)).length + 1) _ lI aq]
  ·rw [if_neg hn,if_neg hn]
 ·rw [if_neg hp,if_neg hp]
theorem G8:∀ (n:Nat) (l:List UInt8),l.length < n→(iM l).2.2≤l.length
 | 0,_,h=>absurd h (Nat.not_lt_zero _)
 |n + 1,l,h=>by
  rw [rV]
  have hl:=Sq l
  by_cases hp:(jQ l).1=true
  ·rw [if_pos hp]
   by_cases hn:dh 44 (l.drop (jQ l).2.2)=true
   ·have h1:=gA hn
    have h2:=G8 n (l.drop ((jQ l).2.2 + 1)) lI
    rw [List.length_drop] at h2
    rw [if_pos hn]
    show _ + 1 + _≤_
    omega
   ·rw [if_neg hn]
    exact hl
  ·rw [if_neg hp]
   exact hl
theorem G9 (s:ByteArray) (hs:s.size < 4294967281):∀ (k p:Nat) (rs:List ByteArray),(rest s p).length + 2 < k→p≤s.size→rs.length + (rest s p).length≤s.size→
 dJ.l0 k s (p:Int) rs=some ((iM (rest s p)).1,s,((p + (iM (rest s p)).2.2:Nat):Int),rs ++ (iM (rest s p)).2.1)
 | 0,p,_,h,_,_ =>absurd h aq
 |k + 1,p,rs,h,hp,hr=>by
  have hle:=Sq (rest s p)
  have hrl:=gJ s p
  unfold dJ.l0
  rw [adb s hs k p rs aq aq hp,rV]
  simp only [Option.bind_some]
  by_cases h1:(jQ (rest s p)).1=true
  ·rw [if_pos h1,if_pos h1,nP s _ 44 44 rfl aq]
   simp only [Option.bind_some,iZ]
   by_cases h2:dh 44 ((rest s p).drop (jQ (rest s p)).2.2)=true
   ·have h3:=gA h2
    rw [if_pos h2,if_pos h2,if_pos h2]
    have h4:=G9 s hs k (p + (jQ (rest s p)).2.2 + 1) (rs ++ [(jQ (rest s p)).2.1]) pJ aq (by rw [gJ,List.length_append];simp;omega)
    rw [h4,Nat.add_assoc p,iZ,List.append_assoc]
    congr 4
    dsimp only
    omega
   ·rw [if_neg h2,if_neg h2,if_neg h2]
  ·rw [if_neg h1,if_neg h1]
def jU (l:List UInt8):Bool:=decide (10 < l.length) && (cC.g (aA (l.take 10))).toList == ([112,111,115,116,109,97,115,116,101,114]:List UInt8) && dh 62 (l.drop 10)
theorem O7 (s:ByteArray) (p:Nat) (_hp:p≤s.size):pU s (p:Int)=jU (rest s p):=by
 have hrl:=gJ s p
 unfold pU jU
 by_cases h:p + 10 < s.size
 ·rw [decide_eq_true aq,decide_eq_true aq]
  have e:s.extract ((p:Int)).toNat ((p:Int) + 10).toNat=aA ((rest s p).take 10):=by
   rw [show ((p:Int) + 10).toNat=p + 10 from by omega,Int.toNat_natCast,kR _ _ _ aq,Nat.add_sub_cancel_left]
  rw [e]
  congr 1
  rw [← iZ]
  cases hr:rest s (p + 10) with
  |nil=>
   have:=sG hr
   omega
  |cons b l=>
   obtain ⟨_,h2,_⟩:=pg hr
   rw [show ((p:Int) + 10)=((p + 10:Nat):Int) from by omega,h2]
   show ((b.toNat:Int) == 62)=(b == 62)
   by_cases hb:b=62
   ·subst hb;rfl
   ·rw [beq_eq_false_iff_ne.mpr hb,beq_eq_false_iff_ne.mpr (show (b.toNat:Int)≠62 from fun h=>hb (toNat_eq (b:=62) h))]
 ·rw [decide_eq_false aq,decide_eq_false aq]
  rfl
def gj (l:List UInt8):Bool×List ByteArray×ByteArray×ByteArray×Bool×Nat:=
 if jU l=true then (true,[],lA,⟨#[]⟩,false,10)
 else if dh 64 l=true then
  (if (iM l).1=true then
    (if dh 58 (l.drop (iM l).2.2)=true then
      ((lX (l.drop ((iM l).2.2 + 1))).1,(iM l).2.1,(lX (l.drop ((iM l).2.2 + 1))).2.1,(lX (l.drop ((iM l).2.2 + 1))).2.2.1,(lX (l.drop ((iM l).2.2 + 1))).2.2.2.1,(iM l).2.2 + 1 + (lX (l.drop ((iM l).2.2 + 1))).2.2.2.2)
    else (false,[],⟨#[]⟩,⟨#[]⟩,false,(iM l).2.2))
  else (false,[],⟨#[]⟩,⟨#[]⟩,false,(iM l).2.2))
 else ((lX l).1,[],(lX l).2.1,(lX l).2.2.1,(lX l).2.2.2.1,(lX l).2.2.2.2)
theorem He (s:ByteArray) (hs:s.size < 4294967281) (k p:Nat) (rs:List ByteArray) (hk:(rest s p).length + 6 < k) (hp:p≤s.size):
 dw.f3 k s (p:Int) rs=some (false,rs,(lX (rest s p)).2.1,(lX (rest s p)).2.2.1,(lX (rest s p)).2.2.2.1,(lX (rest s p)).1,s,((p + (lX (rest s p)).2.2.2.2:Nat):Int)):=by
 unfold dw.f3
 rw [ada s hs k p hk hp]
 rfl
theorem Sr (l:List UInt8):((Sl l).toNat:Int)=64↔dh 64 l=true:=by
 cases l with
 |nil=>simp [Sl,dh]
 |cons b l=>
  show (b.toNat:Int)=64↔(b == 64)=true
  rw [beq_iff_eq]
  exact ⟨fun h=>toNat_eq (b:=64) h,fun h=>by rw [h];rfl⟩
theorem inner_eq (s:ByteArray) (hs:s.size < 4294967281) (k p:Nat) (hk:(rest s p).length + 6 < k) (hp:p≤s.size):
 dw.f k s (p:Int)=some (false,(gj (rest s p)).2.1,(gj (rest s p)).2.2.1,(gj (rest s p)).2.2.2.1,(gj (rest s p)).2.2.2.2.1,(gj (rest s p)).1,s,((p + (gj (rest s p)).2.2.2.2.2:Nat):Int)):=by
 have hrl:=gJ s p
 unfold dw.f gj
 rw [if_pos ⟨aq,aq,aq⟩,O7 s p hp]
 by_cases h0:jU (rest s p)=true
 ·rw [if_pos h0,if_pos h0]
  rfl
 ·rw [if_neg h0,if_neg h0]
  unfold dw.f2
  rw [Sm]
  simp only [Option.bind_some]
  by_cases h1:dh 64 (rest s p)=true
  ·have hle:=G8 _ (rest s p) (Nat.lt_succ_self _)
   rw [if_pos ((Sr _).mpr h1),if_pos h1,G9 s hs k p [] aq hp sQ]
   simp only [Option.bind_some]
   by_cases h2:(iM (rest s p)).1=true
   ·rw [if_pos h2,if_pos h2,nP s _ 58 58 rfl aq]
    simp only [Option.bind_some,iZ]
    by_cases h3:dh 58 ((rest s p).drop (iM (rest s p)).2.2)=true
    ·have h3':=gA h3
     rw [if_pos h3,if_pos h3,if_pos h3,Nat.add_assoc p,He s hs k _ _ pJ aq,iZ,List.nil_append,Nat.add_assoc p]
    ·rw [if_neg h3,if_neg h3,if_neg h3]
   ·rw [if_neg h2,if_neg h2]
  ·rw [if_neg (fun h=>h1 ((Sr _).mp h)),if_neg h1,He s hs k p [] hk hp]
theorem zw (x:ByteArray) (k:Nat) (hk:x.size + 2 < k):∃ r,eW.f k x=some r:=by
 unfold eW.f
 split
 ·rename_i h
  have hn:=FE 46 x
  rw [qz x 46 aq]
  simp only [Option.bind_some]
  obtain ⟨r,hr⟩:=GC 0 k (xs:=(pieces 46 x.data.toList).map aA) (fun y _ _ _ =>⟨_,rfl⟩) aq aq
  unfold bM.f
  rw [hr]
  exact ⟨_,rfl⟩
 ·exact ⟨_,rfl⟩
theorem MQ (a b:ByteArray) (c:Bool) (k:Nat) (hk:b.size + 2 < k):∃ r,eF.f k a b c=some r:=by
 unfold eF.f
 obtain ⟨r,hr⟩:=zw b k hk
 split
 ·split
  ·exact ⟨_,rfl⟩
  ·rw [hr]
   exact ⟨_,rfl⟩
 ·exact ⟨_,rfl⟩
theorem Tp (k:Nat) (s:ByteArray) (q:Int) (nul:Bool) (route:List ByteArray) (lo dom:ByteArray) (lit:Bool) (M:Nat) (hM:∀ y,y∈route→y.size≤M) (hd:dom.size≤M) (hk:route.length + M + 5 < k) (hr:route.length < 4611686018427387904):
 ∃ r,bX.j0 k false s q nul route lo dom lit=some r:=by
 obtain ⟨k,rfl⟩:∃ k',k=k' + 1:=⟨k - 1,aq⟩
 rw [bX.j0,if_neg bR]
 obtain ⟨a,ha⟩:=MQ lo dom lit k aq
 rw [ha]
 simp only [Option.bind_some]
 split
 ·split
  ·exact ⟨_,rfl⟩
  ·obtain ⟨c,hc⟩:=GD (M + 3) k (xs:=route) (fun y hy k1 hk1=>by
    obtain ⟨d,hd⟩:=zw y k1 (by have:=hM y hy;omega)
    unfold fV.f
    rw [hd]
    exact ⟨_,rfl⟩) aq hr
   unfold bB.f
   rw [hc]
   simp only [Option.bind_some]
   split<;>exact ⟨_,rfl⟩
 ·exact ⟨_,rfl⟩
end Go.Proofs.YtokpnfljjjjikaaGreatDoor.kH
namespace Go.Proofs.YtokpnfljjjjikaaGreatDoor.kH
open Go.RowKit Go.Proofs.YtokpnfljjjjikaaGreatDoor Go.Proofs.YtokpnfljjjjikaaGreatDoor.nX Go.Proofs.aj.bW Go.Proofs.aj.dz
def Agree (n:Nat) (l l2:List UInt8):Prop:=l2.take (n + 1)=l.take (n + 1)
theorem Agree.le {n m:Nat} {l l2:List UInt8} (h:Agree n l l2) (hm:m≤n):Agree m l l2:=by
 unfold Agree at h ⊢
 have:=congrArg (List.take (m + 1)) h
 rwa [List.take_take,List.take_take,Nat.min_eq_left aq] at this
theorem Agree.drop {n a:Nat} {l l2:List UInt8} (h:Agree (a + n) l l2):Agree n (l.drop a) (l2.drop a):=by
 unfold Agree at h ⊢
 rw [List.take_drop,List.take_drop,show a + (n + 1)=a + n + 1 from rfl,h]
theorem Agree.take {n m:Nat} {l l2:List UInt8} (h:Agree n l l2) (hm:m≤n + 1):l2.take m=l.take m:=by
 cases m with
 |zero=>simp
 |succ m=>exact h.le aq
end Go.Proofs.YtokpnfljjjjikaaGreatDoor.kH
namespace Go.Proofs.YtokpnfljjjjikaaGreatDoor.kH
open Go.RowKit Go.Proofs.YtokpnfljjjjikaaGreatDoor Go.Proofs.YtokpnfljjjjikaaGreatDoor.nX Go.Proofs.aj.bW Go.Proofs.aj.dz
theorem FI (x:ByteArray):(cC.g x).size=x.size:=by
 unfold cC.g
 rw [strOfNums_size,List.length_map,bytesOf_length]
theorem BW (l:List UInt8):(oM l).2.1.size≤l.length:=by
 unfold oM
 show (cC.g _).size≤_
 rw [FI,bO,List.length_take]
 omega
theorem Hf (l:List UInt8):(lX l).2.2.1.size≤l.length:=by
 have hw:=nQ jz (l.drop ((eX l).2.2 + 2))
 have hd:=BW (l.drop ((eX l).2.2 + 1))
 rw [List.length_drop] at hw hd
 have hs:(cC.g (aA ((l.drop ((eX l).2.2 + 2)).takeWhile jz))).size≤l.length:=by
  rw [FI,bO]
  omega
 unfold lX
 split
 ·split
  ·split
   ·split
    ·exact hs
    ·exact hs
   ·exact Nat.le_trans hd aq
  ·exact Nat.zero_le _
 ·exact Nat.zero_le _
theorem Tq (l:List UInt8):(jQ l).2.1.size≤l.length:=by
 unfold jQ
 split
 ·exact Nat.le_trans (BW _) lI
 ·exact BW l
theorem CD:∀ (n:Nat) (l:List UInt8),l.length < n→(iM l).2.1.length≤l.length + 1∧∀ y,y∈(iM l).2.1→y.size≤l.length
 | 0,_,h=>absurd h (Nat.not_lt_zero _)
 |n + 1,l,h=>by
  have hi:=Tq l
  have h1:∀ y,y∈ [(jQ l).2.1]→y.size≤l.length:=by
   intro y hy
   rw [List.mem_singleton.mp hy]
   exact hi
  rw [rV]
  split
  ·split
   ·rename_i h2
    have h3:=gA h2
    obtain ⟨h4,h5⟩:=CD n (l.drop ((jQ l).2.2 + 1)) lI
    rw [List.length_drop] at h4 h5
    refine ⟨?_,?_⟩
    ·show ((jQ l).2.1 :: _).length≤_
     rw [List.length_cons]
     omega
    ·intro y hy
     rcases List.mem_cons.mp hy with rfl|hy
     ·exact hi
     ·exact Nat.le_trans (h5 y hy) aq
   ·exact ⟨bn,h1⟩
  ·exact ⟨bn,h1⟩
theorem xw (l:List UInt8):(gj l).2.1.length≤l.length + 1∧(∀ y,y∈(gj l).2.1→y.size≤l.length)∧(gj l).2.2.2.1.size≤l.length:=by
 have hr:=CD _ l (Nat.lt_succ_self _)
 have hb:=Hf l
 have hb2:=Hf (l.drop ((iM l).2.2 + 1))
 rw [List.length_drop] at hb2
 have hn:([]:List ByteArray).length≤l.length + 1∧∀ y,y∈([]:List ByteArray)→y.size≤l.length:=⟨Nat.zero_le _,fun _ h=>by cases h⟩
 unfold gj
 split
 ·exact ⟨hn.1,hn.2,Nat.zero_le _⟩
 ·split
  ·split
   ·split
    ·exact ⟨hr.1,hr.2,Nat.le_trans hb2 aq⟩
    ·exact ⟨hn.1,hn.2,Nat.zero_le _⟩
   ·exact ⟨hn.1,hn.2,Nat.zero_le _⟩
  ·exact ⟨hn.1,hn.2,hb⟩
def wB (l:List UInt8):Bool:=dh 60 l && dh 62 (l.drop 1)
def GF (l:List UInt8):Bool:=dh 60 l && (gj (l.drop 1)).1 && dh 62 (l.drop (1 + (gj (l.drop 1)).2.2.2.2.2))
def FJ (l:List UInt8) (n:Nat):Prop:=(wB l=true∧n=2)∨(wB l=false∧GF l=true∧n=2 + (gj (l.drop 1)).2.2.2.2.2)
theorem Tt {l:List UInt8} {n:Nat} (h:FJ l n): 2≤n∧n≤l.length:=by
 rcases h with ⟨h,rfl⟩|⟨_,h,rfl⟩
 ·unfold wB at h
  simp only [Bool.and_eq_true] at h
  have:=gA h.2
  omega
 ·unfold GF at h
  simp only [Bool.and_eq_true] at h
  have:=gA h.2
  omega
end Go.Proofs.YtokpnfljjjjikaaGreatDoor.kH
namespace Go.Proofs.YtokpnfljjjjikaaGreatDoor.kH
open Go.RowKit Go.Proofs.YtokpnfljjjjikaaGreatDoor Go.Proofs.YtokpnfljjjjikaaGreatDoor.nX Go.Proofs.aj.bW Go.Proofs.aj.dz
set_option linter.unusedVariables false
set_option linter.unusedSimpArgs false
def qh (P:UInt8→Bool) (t:List UInt8):Prop:=∀ b t',t=b :: t'→P b=false
theorem K4 {P:UInt8→Bool} {t:List UInt8} (h:qh P t):∀ l:List UInt8,(l ++ t).takeWhile P=l.takeWhile P
 | []=>by
   cases t with
   |nil=>rfl
   |cons b t=>rw [List.nil_append,List.takeWhile_cons_of_neg (by rw [h b t rfl];decide)];rfl
 |b :: l=>by
  by_cases hb:P b=true
  ·rw [List.cons_append,List.takeWhile_cons_of_pos hb,List.takeWhile_cons_of_pos hb,K4 h l]
  ·rw [List.cons_append,List.takeWhile_cons_of_neg hb,List.takeWhile_cons_of_neg hb]
theorem K5 (P:UInt8→Bool):∀ l:List UInt8,qh P (l.drop (l.takeWhile P).length)
 | []=>by intro b t' h;simp at h
 |b :: l=>by
  by_cases hb:P b=true
  ·rw [List.takeWhile_cons_of_pos hb]
   exact K5 P l
  ·rw [List.takeWhile_cons_of_neg hb]
   intro c t' h
   cases h
   exact Bool.eq_false_iff.mpr hb
theorem Tu {c:UInt8} {l t:List UInt8} {n:Nat} (hn:n≤l.length) (h:dh c t=false):dh c ((l ++ t).drop n)=dh c (l.drop n):=by
 rw [List.drop_append_of_le_length hn]
 cases l.drop n with
 |nil=>rw [List.nil_append,h];rfl
 |cons b l=>rfl
theorem MR {t:List UInt8} (h:qh ny t) (l:List UInt8):fo (l ++ t)=fo l:=by
 unfold fo
 rw [K4 h l]
theorem O8 {t:List UInt8} (h:qh kI t) (l:List UInt8):iz (l ++ t)=iz l:=by
 unfold iz
 rw [K4 h l]
theorem zx {part:List UInt8→Bool×Nat} {c:UInt8} {t:List UInt8} (hp:∀ l,(part l).2≤l.length) (hpt:∀ l,part (l ++ t)=part l) (hc:dh c t=false):
 ∀ (n:Nat) (l:List UInt8),l.length < n→fK part c (l ++ t)=fK part c l
 | 0,_,h=>absurd h (Nat.not_lt_zero _)
 |n + 1,l,h=>by
  rw [lH part c (l ++ t),lH part c l,hpt,Tu (hp l) hc]
  by_cases h1:(part l).1=true
  ·rw [if_pos h1,if_pos h1]
   by_cases h2:dh c (l.drop (part l).2)=true
   ·have h3:=gA h2
    rw [if_pos h2,if_pos h2,List.drop_append_of_le_length aq,zx hp hpt hc n _ lI]
   ·rw [if_neg h2,if_neg h2]
  ·rw [if_neg h1,if_neg h1]
theorem zy {part:List UInt8→Bool×Nat} {P:UInt8→Bool} {c:UInt8} (hp:∀ l:List UInt8,qh P (l.drop (part l).2)):
 ∀ (n:Nat) (l:List UInt8),l.length < n→(fK part c l).1=true→qh P (l.drop (fK part c l).2)∧dh c (l.drop (fK part c l).2)=false
 | 0,_,h,_ =>absurd h (Nat.not_lt_zero _)
 |n + 1,l,h,h1=>by
  rw [lH] at h1 ⊢
  by_cases h2:(part l).1=true
  ·rw [if_pos h2] at h1 ⊢
   by_cases h3:dh c (l.drop (part l).2)=true
   ·have h4:=gA h3
    rw [if_pos h3] at h1 ⊢
    have h5:=zy hp n (l.drop ((part l).2 + 1)) lI h1
    rw [List.drop_drop] at h5
    exact h5
   ·rw [if_neg h3]
    exact ⟨hp l,Bool.eq_false_iff.mpr h3⟩
  ·rw [if_neg h2] at h1
   cases h1
theorem MS (l:List UInt8):qh ny (l.drop (fo l).2):=K5 ny l
theorem O9 (l:List UInt8):qh kI (l.drop (iz l).2):=K5 kI l
theorem xx {t:List UInt8} (h:qh ny t) (h2:dh 46 t=false) (l:List UInt8):fK fo 46 (l ++ t)=fK fo 46 l:=
 zx BU (MR h) h2 _ l (Nat.lt_succ_self _)
theorem FL {t:List UInt8} (h:qh kI t) (h2:dh 46 t=false) (l:List UInt8):fK iz 46 (l ++ t)=fK iz 46 l:=
 zx xp (O8 h) h2 _ l (Nat.lt_succ_self _)
theorem MT (l:List UInt8) (h:(fK fo 46 l).1=true):fK fo 46 (l.take (fK fo 46 l).2)=(true,(fK fo 46 l).2):=by
 obtain ⟨h1,h2⟩:=zy (P:=ny) MS _ l (Nat.lt_succ_self _) h
 have h3:=xx h1 h2 (l.take (fK fo 46 l).2)
 rw [List.take_append_drop] at h3
 rw [← h3,← h]
theorem Pb (l:List UInt8) (h:(fK iz 46 l).1=true):fK iz 46 (l.take (fK iz 46 l).2)=(true,(fK iz 46 l).2):=by
 obtain ⟨h1,h2⟩:=zy (P:=kI) O9 _ l (Nat.lt_succ_self _) h
 have h3:=FL h1 h2 (l.take (fK iz 46 l).2)
 rw [List.take_append_drop] at h3
 rw [← h3,← h]
def fL (b:UInt8):UInt8:=UInt8.ofNat (Iz (b.toNat:Int)).toNat
theorem nH (l:List UInt8):cC.g (aA l)=aA (l.map fL):=by
 unfold cC.g strOfNums bytesOf aA
 congr 1
 simp only [List.map_map]
 rfl
theorem Z9 (b:UInt8):ny (fL b)=ny b:=fJ (Q:=fun b=>ny (fL b)=ny b) gG b
theorem aaa (b:UInt8):fL (fL b)=fL b:=fJ (Q:=fun b=>fL (fL b)=fL b) gG b
theorem Wf (b:UInt8):(fL b != 45)=(b != 45):=fJ (Q:=fun b=>(fL b != 45)=(b != 45)) gG b
theorem Pc (b:UInt8):(fL b == 46)=(b == 46):=fJ (Q:=fun b=>(fL b == 46)=(b == 46)) gG b
theorem rz (l:List UInt8):(l.map fL).map fL=l.map fL:=by
 rw [List.map_map]
 congr 1
 funext b
 exact aaa b
theorem ade (l:List UInt8):(l.map fL).takeWhile ny=(l.takeWhile ny).map fL:=by
 rw [List.takeWhile_map]
 congr 2
 funext b
 exact Z9 b
theorem FM (l:List UInt8) (n:Nat):(l.map fL).getD n 0=fL (l.getD n 0):=by
 rw [List.getD_eq_getElem?_getD,List.getD_eq_getElem?_getD,List.getElem?_map]
 cases l[n]? with
 |none=>rfl
 |some b=>rfl
theorem Pd (l:List UInt8):fo (l.map fL)=fo l:=by
 unfold fo
 rw [ade,List.length_map]
 cases l.takeWhile ny with
 |nil=>rfl
 |cons c t=>
  show (fL c != 45 && ((c :: t).map fL).getD (t.map fL).length 0 != 45,_)=(c != 45 && (c :: t).getD t.length 0 != 45,_)
  rw [FM,Wf,Wf,List.length_map]
theorem Wh (l:List UInt8):dh 46 (l.map fL)=dh 46 l:=by
 cases l with
 |nil=>rfl
 |cons b l=>exact Pc b
theorem zz:∀ (n:Nat) (l:List UInt8),l.length < n→fK fo 46 (l.map fL)=fK fo 46 l
 | 0,_,h=>absurd h (Nat.not_lt_zero _)
 |n + 1,l,h=>by
  rw [lH fo 46 (l.map fL),lH fo 46 l,Pd,← List.map_drop,Wh]
  by_cases h1:(fo l).1=true
  ·rw [if_pos h1,if_pos h1]
   by_cases h2:dh 46 (l.drop (fo l).2)=true
   ·have h3:=gA h2
    rw [if_pos h2,if_pos h2,← List.map_drop,zz n _ lI]
   ·rw [if_neg h2,if_neg h2]
  ·rw [if_neg h1,if_neg h1]
def uo (l:List UInt8):List UInt8:=(l.take (fK fo 46 l).2).map fL
theorem BX (l:List UInt8):(oM l).2.1=aA (uo l):=nH _
theorem xy (l:List UInt8):(uo l).length=(oM l).2.2:=by
 have h:=Bl l
 unfold uo
 rw [List.length_map,List.length_take]
 exact Nat.min_eq_left h
theorem Wi (l t:List UInt8) (h:(oM l).1=true) (ht:qh ny t) (h2:dh 46 t=false):oM (uo l ++ t)=(true,aA (uo l),(uo l).length):=by
 have h1:fK fo 46 (uo l ++ t)=(true,(uo l).length):=by
  rw [xx ht h2]
  unfold uo
  rw [zz _ _ (Nat.lt_succ_self _),MT l h,List.length_map,List.length_take,Nat.min_eq_left (show (fK fo 46 l).2≤l.length from Bl l)]
 unfold oM
 rw [h1]
 simp only
 rw [List.take_left',nH]
 ·unfold uo
  rw [rz]
 ·rfl
theorem CE {part:List UInt8→Bool×Nat} {R:UInt8→Prop} {c:UInt8} (hc:R c) (hp:∀ (l:List UInt8) (b:UInt8),b∈l.take (part l).2→R b):
 ∀ (n:Nat) (l:List UInt8),l.length < n→∀ b,b∈l.take (fK part c l).2→R b
 | 0,_,h=>absurd h (Nat.not_lt_zero _)
 |n + 1,l,h=>by
  intro b hb
  rw [lH] at hb
  by_cases h1:(part l).1=true
  ·rw [if_pos h1] at hb
   by_cases h2:dh c (l.drop (part l).2)=true
   ·have h3:=gA h2
    rw [if_pos h2] at hb
    simp only at hb
    rw [List.take_add,List.mem_append,List.take_add,List.mem_append] at hb
    rcases hb with (hb|hb)|hb
    ·exact hp l b hb
    ·cases hl:l.drop (part l).2 with
     |nil=>rw [hl] at hb;simp at hb
     |cons d l'=>
      rw [hl] at hb h2
      simp at hb
      have:d=c:=by simpa [dh] using h2
      rw [hb,this]
      exact hc
    ·exact CE hc hp n _ lI b hb
   ·rw [if_neg h2] at hb
    exact hp l b hb
  ·rw [if_neg h1] at hb
   exact hp l b hb
def yR (b:UInt8):Prop:=¬ (b < 32∨126 < b)
instance (b:UInt8):Decidable (yR b):=by unfold yR;infer_instance
theorem Tv (b:UInt8):kI b=true→yR b:=fJ (Q:=fun b=>kI b=true→yR b) gG b
theorem FN (b:UInt8):kI b=true→b≠34:=fJ (Q:=fun b=>kI b=true→b≠34) gG b
theorem Wj {P:UInt8→Bool}:∀ (l:List UInt8) (b:UInt8),b∈l.takeWhile P→P b=true
 | [],_,h=>by cases h
 |c :: l,b,h=>by
  by_cases hc:P c=true
  ·rw [List.takeWhile_cons_of_pos hc] at h
   rcases List.mem_cons.mp h with rfl|h
   ·exact hc
   ·exact Wj l b h
  ·rw [List.takeWhile_cons_of_neg hc] at h
   cases h
theorem Pe (l:List UInt8) (b:UInt8) (hb:b∈l.take (fK iz 46 l).2):yR b:=
 CE (R:=yR) bR (fun l b hb=>Tv b (Wj l b (by
  have e:l.take (iz l).2=l.takeWhile kI:=nG kI l
  rwa [e] at hb))) _ l (Nat.lt_succ_self _) b hb
theorem zA:∀ (n:Nat) (l acc:List UInt8),l.length < n→(∀ b,b∈acc→yR b)→∀ b,b∈(kL l acc).2.1→yR b
 | 0,_,_,h,_ =>absurd h (Nat.not_lt_zero _)
 |n + 1,l,acc,h,ha=>by
  intro d hd
  cases l with
  |nil=>unfold kL at hd;cases hd
  |cons b l=>
   unfold kL at hd
   by_cases hq:b=34
   ·rw [if_pos hq] at hd
    exact ha d hd
   ·rw [if_neg hq] at hd
    by_cases hb:b=92
    ·rw [if_pos hb] at hd
     cases l with
     |nil=>cases hd
     |cons c l'=>
      by_cases hc:c < 32∨126 < c
      ·simp only [if_pos hc] at hd
       cases hd
      ·simp only [if_neg hc] at hd
       refine zA n l' (acc ++ [c]) xJ (fun x hx=>?_) d hd
       rcases List.mem_append.mp hx with hx|hx
       ·exact ha x hx
       ·rw [List.mem_singleton.mp hx];exact hc
    ·rw [if_neg hb] at hd
     by_cases hc:b < 32∨126 < b
     ·rw [if_pos hc] at hd
      cases hd
     ·rw [if_neg hc] at hd
      refine zA n l (acc ++ [b]) xJ (fun x hx=>?_) d hd
      rcases List.mem_append.mp hx with hx|hx
      ·exact ha x hx
      ·rw [List.mem_singleton.mp hx];exact hc
def xz (l:List UInt8):List UInt8:=if dh 34 l=true then (kL (l.drop 1) []).2.1 else l.take (fK iz 46 l).2
theorem CF (l:List UInt8):(eX l).2.1=aA (xz l):=by
 unfold eX xz
 split<;>rfl
theorem CG (l:List UInt8) (b:UInt8) (hb:b∈xz l):yR b:=by
 unfold xz at hb
 split at hb
 ·exact zA _ _ [] (Nat.lt_succ_self _) (fun _ h=>by cases h) b hb
 ·exact Pe l b hb
def qB (b:UInt8):List UInt8:=if b=34∨b=92 then [92,b] else [b]
def qL (l:List UInt8):List UInt8:=l.flatMap qB
theorem FO (t:List UInt8):∀ (l acc:List UInt8),(∀ b,b∈l→yR b)→kL (qL l ++ 34 :: t) acc=(true,acc ++ l,(qL l).length + 1)
 | [],acc,_ =>by
   show kL (34 :: t) acc=_
   unfold kL
   simp [qL]
 |b :: l,acc,h=>by
  have hf:=h b (List.mem_cons_self ..)
  have ih:=FO t l (acc ++ [b]) (fun x hx=>h x (List.mem_cons_of_mem _ hx))
  have e:qL (b :: l)=qB b ++ qL l:=rfl
  rw [e,List.append_assoc]
  unfold qB
  by_cases hb:b=34∨b=92
  ·rw [if_pos hb]
   show kL (92 :: b :: (qL l ++ 34 :: t)) acc=_
   unfold kL
   rw [if_neg bR,if_pos rfl]
   simp only
   rw [if_neg hf,ih]
   simp
  ·rw [if_neg hb]
   show kL (b :: (qL l ++ 34 :: t)) acc=_
   unfold kL
   rw [if_neg (fun h=>hb (.inl h)),if_neg (fun h=>hb (.inr h)),if_neg hf,ih]
   simp
def BZ (l:List UInt8):Bool:=(fK iz 46 l).1 && (fK iz 46 l).2 == l.length
def pZ (l:List UInt8):List UInt8:=if BZ l=true then l else 34 :: (qL l ++ [34])
theorem FP (l t:List UInt8) (h:∀ b,b∈l→yR b) (ht:qh kI t) (h2:dh 46 t=false):eX (pZ l ++ t)=(true,aA l,(pZ l).length):=by
 unfold pZ
 by_cases hp:BZ l=true
 ·rw [if_pos hp]
  unfold BZ at hp
  simp only [Bool.and_eq_true,beq_iff_eq] at hp
  have hn:dh 34 (l ++ t)=false:=by
   have h1:(fK iz 46 l).1=true:=hp.1
   rw [lH] at h1
   cases l with
   |nil=>simp [iz] at h1
   |cons b l=>
    have hb:kI b=true:=by
     by_cases hb:kI b=true
     ·exact hb
     ·exfalso
      have:(iz (b :: l)).1=false:=by
       unfold iz
       rw [List.takeWhile_cons_of_neg hb]
       rfl
      rw [this] at h1
      simp at h1
    have:=FN b hb
    show (b == 34)=false
    simpa using this
  unfold eX
  rw [if_neg (by rw [hn];decide),FL ht h2,hp.1,hp.2,List.take_left']
  rfl
 ·rw [if_neg hp]
  unfold eX
  rw [if_pos (show dh 34 (34 :: (qL l ++ [34]) ++ t)=true from rfl)]
  have e:((34:UInt8) :: (qL l ++ [34]) ++ t).drop 1=qL l ++ 34 :: t:=by simp
  rw [e,FO t l [] h]
  simp
  omega
end Go.Proofs.YtokpnfljjjjikaaGreatDoor.kH
namespace Go.Proofs.YtokpnfljjjjikaaGreatDoor.kH
open Go.RowKit Go.Proofs.YtokpnfljjjjikaaGreatDoor Go.Proofs.YtokpnfljjjjikaaGreatDoor.nX Go.Proofs.aj.bW Go.Proofs.aj.dz
set_option linter.unusedVariables false
set_option linter.unusedSimpArgs false
def lZ (d:List UInt8):Prop:=fK fo 46 d=(true,d.length)∧d.map fL=d
theorem Ss (l:List UInt8) (h:(oM l).1=true):lZ (uo l):=by
 refine ⟨?_,?_⟩
 ·have h1:=Wi l [] h (by intro b t' e;cases e) rfl
  rw [List.append_nil] at h1
  have h2:(fK fo 46 (uo l)).1=true:=congrArg (·.1) h1
  have h3:(fK fo 46 (uo l)).2=(uo l).length:=congrArg (·.2.2) h1
  exact Prod.ext h2 h3
 ·unfold uo
  rw [rz]
theorem lZ.read {d:List UInt8} (h:lZ d) {t:List UInt8} (ht:qh ny t) (h2:dh 46 t=false):oM (d ++ t)=(true,aA d,d.length):=by
 unfold oM
 rw [xx ht h2,h.1]
 simp only
 rw [List.take_left',nH,h.2]
 rfl
theorem lZ.head {d:List UInt8} (h:lZ d):∃ b d',d=b :: d'∧ny b=true:=by
 have h1:(fK fo 46 d).1=true:=by rw [h.1]
 rw [lH] at h1
 cases d with
 |nil=>simp [fo] at h1
 |cons b d'=>
  refine ⟨b,d',rfl,?_⟩
  by_cases hb:ny b=true
  ·exact hb
  ·exfalso
   have:(fo (b :: d')).1=false:=by
    unfold fo
    rw [List.takeWhile_cons_of_neg hb]
   rw [this] at h1
   simp at h1
theorem Tw (b:UInt8):ny b=true→(b == 91)=false:=fJ (Q:=fun b=>ny b=true→(b == 91)=false) gG b
structure wC (lo dom:List UInt8) (lit:Bool):Prop where
 los:∀ b,b∈lo→yR b
 doms:lit=false→lZ dom
 words:lit=true→O5 (aA dom)=true∧(∀ b,b∈dom→jz b=true)∧dom.map fL=dom
def iW (lo dom:List UInt8) (lit:Bool):List UInt8:=pZ lo ++ (if lit=true then 64 :: 91 :: (dom ++ [93]) else 64 :: dom)
theorem Su (t:List UInt8):qh kI (64 :: t):=by
 intro b t' e
 cases e
 decide +kernel
theorem Pf {P:UInt8→Bool} {t:List UInt8} (ht:qh P t):∀ l:List UInt8,(∀ b,b∈l→P b=true)→(l ++ t).takeWhile P=l
 | [],_ =>by
   cases t with
   |nil=>rfl
   |cons b t=>rw [List.nil_append,List.takeWhile_cons_of_neg (by rw [ht b t rfl];decide)]
 |b :: l,h=>by rw [List.cons_append,List.takeWhile_cons_of_pos (h b (List.mem_cons_self ..)),Pf ht l (fun x hx=>h x (List.mem_cons_of_mem _ hx))]
theorem drop_left (l t:List UInt8) (n:Nat):(l ++ t).drop (l.length + n)=t.drop n:=by
 rw [← List.drop_drop,List.drop_left]
theorem Wk {lo dom:List UInt8} {lit:Bool} (h:wC lo dom lit) {t:List UInt8} (ht:qh ny t) (h2:dh 46 t=false):
 lX (iW lo dom lit ++ t)=(true,aA lo,aA dom,lit,(iW lo dom lit).length):=by
 unfold iW
 cases lit with
 |true=>
  obtain ⟨hl,hw,hs⟩:=h.words rfl
  simp only [if_true]
  rw [List.append_assoc]
  have e0:((64:UInt8) :: 91 :: (dom ++ [93])) ++ t=64 :: 91 :: (dom ++ 93 :: t):=by simp
  rw [e0]
  have e1:=FP lo (64 :: 91 :: (dom ++ 93 :: t)) h.los (Su _) rfl
  unfold lX
  rw [e1]
  simp only
  rw [if_pos trivial,show ((pZ lo ++ 64 :: 91 :: (dom ++ 93 :: t)).drop (pZ lo).length)=64 :: 91 :: (dom ++ 93 :: t) from List.drop_left]
  rw [if_pos (show dh 64 (64 :: 91 :: (dom ++ 93 :: t))=true from rfl),drop_left _ _ 1]
  rw [if_pos (show dh 91 ((64 :: 91 :: (dom ++ 93 :: t)).drop 1)=true from rfl),drop_left _ _ 2]
  have e2:((64:UInt8) :: 91 :: (dom ++ 93 :: t)).drop 2=dom ++ 93 :: t:=rfl
  rw [e2,Pf (P:=jz) (t:=93 :: t) (by intro b t' e;cases e;rfl) dom hw,Nat.add_assoc,drop_left _ _ (2 + dom.length)]
  have e3:((64:UInt8) :: 91 :: (dom ++ 93 :: t)).drop (2 + dom.length)=93 :: t:=by
   rw [← List.drop_drop,e2,List.drop_left]
  rw [e3,if_pos (show dh 93 (93 :: t)=true from rfl),hl,nH,hs]
  simp
  omega
 |false=>
  have hd:=h.doms rfl
  obtain ⟨b,d',hb,hlb⟩:=hd.head
  simp only [Bool.false_eq_true,if_false]
  rw [List.append_assoc]
  have e1:=FP lo ((64 :: dom) ++ t) h.los (by rw [List.cons_append];exact Su _) rfl
  unfold lX
  rw [e1]
  simp only
  rw [if_pos trivial,show ((pZ lo ++ ((64 :: dom) ++ t)).drop (pZ lo).length)=(64 :: dom) ++ t from List.drop_left]
  rw [if_pos (show dh 64 ((64 :: dom) ++ t)=true from rfl),drop_left _ _ 1]
  have e2:(((64:UInt8) :: dom) ++ t).drop 1=dom ++ t:=rfl
  rw [e2,if_neg (by rw [hb];show ¬ (b == 91)=true;rw [Tw b hlb];decide),hd.read ht h2]
  simp
  omega
def fY:List (List UInt8)→List UInt8
 | []=>[]
 | [d]=>64 :: d
 |d :: ds=>64 :: (d ++ 44 :: fY ds)
theorem xA (c:UInt8) (h:ny c=false) (t:List UInt8):qh ny (c :: t):=by
 intro b t' e
 cases e
 exact h
theorem FQ (t:List UInt8):∀ ds:List (List UInt8),ds≠ []→(∀ d,d∈ds→lZ d)→iM (fY ds ++ 58 :: t)=(true,ds.map aA,(fY ds).length)
 | [],h,_ =>absurd rfl h
 | [d],_,h=>by
   have hd:=h d (List.mem_cons_self ..)
   rw [rV]
   have e:jQ (fY [d] ++ 58 :: t)=(true,aA d,1 + d.length):=by
    unfold jQ
    rw [if_pos (show dh 64 (fY [d] ++ 58 :: t)=true from rfl)]
    have e2:(fY [d] ++ 58 :: t).drop 1=d ++ 58 :: t:=rfl
    rw [e2,hd.read (xA 58 gG t) rfl]
   rw [e]
   have e3:(fY [d] ++ 58 :: t).drop (1 + d.length)=58 :: t:=by
    show ((64:UInt8) :: (d ++ 58 :: t)).drop (1 + d.length)=_
    rw [Nat.add_comm,List.drop_succ_cons,List.drop_left]
   simp only [if_true]
   rw [e3,if_neg (show ¬ dh 44 (58 :: t)=true by simp [dh])]
   simp [fY]
   omega
 |d :: d2 :: ds,_,h=>by
  have hd:=h d (List.mem_cons_self ..)
  have ih:=FQ t (d2 :: ds) bn (fun x hx=>h x (List.mem_cons_of_mem _ hx))
  have e0:fY (d :: d2 :: ds) ++ 58 :: t=64 :: (d ++ 44 :: (fY (d2 :: ds) ++ 58 :: t)):=by
   show (64 :: (d ++ 44 :: fY (d2 :: ds))) ++ 58 :: t=_
   simp
  rw [rV,e0]
  have e:jQ (64 :: (d ++ 44 :: (fY (d2 :: ds) ++ 58 :: t)))=(true,aA d,1 + d.length):=by
   unfold jQ
   rw [if_pos (show dh 64 (64 :: (d ++ 44 :: (fY (d2 :: ds) ++ 58 :: t)))=true from rfl)]
   have e2:((64:UInt8) :: (d ++ 44 :: (fY (d2 :: ds) ++ 58 :: t))).drop 1=d ++ 44 :: (fY (d2 :: ds) ++ 58 :: t):=rfl
   rw [e2,hd.read (xA 44 gG _) rfl]
  rw [e]
  have e3:((64:UInt8) :: (d ++ 44 :: (fY (d2 :: ds) ++ 58 :: t))).drop (1 + d.length)=44 :: (fY (d2 :: ds) ++ 58 :: t):=by
   rw [Nat.add_comm,List.drop_succ_cons,List.drop_left]
  have e4:((64:UInt8) :: (d ++ 44 :: (fY (d2 :: ds) ++ 58 :: t))).drop (1 + d.length + 1)=fY (d2 :: ds) ++ 58 :: t:=by
   rw [← List.drop_drop,e3]
   rfl
  simp only [if_true]
  rw [e3,if_pos (show dh 44 (44 :: (fY (d2 :: ds) ++ 58 :: t))=true from rfl),e4,ih]
  simp [fY]
  omega
theorem Wl (b:UInt8):fL b∈([112,111,115,116,109,97,115,116,101,114]:List UInt8)→kI b=true:=fJ (Q:=fun b=>fL b∈([112,111,115,116,109,97,115,116,101,114]:List UInt8)→kI b=true) gG b
theorem Tx (l:List UInt8) (h:jU l=true):(lX l).1=false:=by
 unfold jU at h
 simp only [Bool.and_eq_true,decide_eq_true_eq] at h
 obtain ⟨⟨h1,h2⟩,h3⟩:=h
 rw [nH,ByteArray.toList_eq] at h2
 have h2':(l.take 10).map fL= [112,111,115,116,109,97,115,116,101,114]:=by simpa [aA] using h2
 have ha:∀ b,b∈l.take 10→kI b=true:=fun b hb=>Wl b (by rw [← h2'];exact List.mem_map_of_mem hb)
 obtain ⟨c,t,hc⟩:∃ c t,l.drop 10=c :: t:=by
  cases hd:l.drop 10 with
  |nil=>rw [hd] at h3;cases h3
  |cons c t=>exact ⟨c,t,rfl⟩
 have aoi:c=62:=by rw [hc] at h3;simpa [dh] using h3
 subst aoi
 have e:l=l.take 10 ++ 62 :: t:=by rw [← hc,List.take_append_drop]
 have hlen:(l.take 10).length=10:=by rw [List.length_take];omega
 have hst:qh kI (62 :: t):=by
  intro b t' e
  cases e
  decide +kernel
 have htw:l.takeWhile kI=l.take 10:=by
  conv=>lhs;rw [e]
  exact Pf hst _ ha
 have hat:iz l=(true,10):=by
  unfold iz
  rw [htw,hlen]
  rfl
 have hli:fK iz 46 l=(true,10):=by
  rw [lH,hat]
  simp only [if_true]
  rw [hc,if_neg (show ¬ dh 46 (62 :: t)=true by simp [dh])]
 have hn:dh 34 l=false:=by
  cases hl:l with
  |nil=>rfl
  |cons b l'=>
   have hb:kI b=true:=ha b (by rw [hl];simp)
   show (b == 34)=false
   simpa using FN b hb
 have hlo:eX l=(true,aA (l.take 10),10):=by
  unfold eX
  rw [if_neg (by rw [hn];decide),hli]
 unfold lX
 rw [hlo]
 simp only [if_true]
 rw [hc,if_neg (show ¬ dh 64 (62 :: t)=true by simp [dh])]
theorem Wm (l:List UInt8):jU (64 :: l)=false:=by
 cases h:jU (64 :: l) with
 |false=>rfl
 |true=>
  exfalso
  unfold jU at h
  simp only [Bool.and_eq_true,decide_eq_true_eq] at h
  obtain ⟨⟨h1,h2⟩,h3⟩:=h
  rw [nH,ByteArray.toList_eq] at h2
  have h2':((64 :: l).take 10).map fL= [112,111,115,116,109,97,115,116,101,114]:=by simpa [aA] using h2
  rw [List.take_succ_cons,List.map_cons] at h2'
  have:=(List.cons.inj h2').1
  revert this
  decide
def gw (ds:List (List UInt8)) (lo dom:List UInt8) (lit:Bool):List UInt8:=match ds with
 | []=>iW lo dom lit
 |_ =>fY ds ++ 58 :: iW lo dom lit
theorem MU (ds:List (List UInt8)) (h:ds≠ []):∃ l,fY ds=64 :: l:=by
 match ds,h with
 | [d],_ =>exact ⟨_,rfl⟩
 |d :: d2 :: ds,_ =>exact ⟨_,rfl⟩
theorem Pg {ds:List (List UInt8)} {lo dom:List UInt8} {lit:Bool} (hds:∀ d,d∈ds→lZ d) (h:wC lo dom lit) (t:List UInt8):
 gj (gw ds lo dom lit ++ 62 :: t)=(true,ds.map aA,aA lo,aA dom,lit,(gw ds lo dom lit).length):=by
 have hb:=Wk h (t:=62 :: t) (xA 62 gG t) rfl
 cases ds with
 |nil=>
  show gj (iW lo dom lit ++ 62 :: t)=_
  unfold gj
  have ha:jU (iW lo dom lit ++ 62 :: t)=false:=by
   cases ha:jU (iW lo dom lit ++ 62 :: t) with
   |false=>rfl
   |true=>
    have:=Tx _ ha
    rw [hb] at this
    cases this
  have hn:dh 64 (iW lo dom lit ++ 62 :: t)=false:=by
   cases hn:dh 64 (iW lo dom lit ++ 62 :: t) with
   |false=>rfl
   |true=>
    exfalso
    have h1:(lX (iW lo dom lit ++ 62 :: t)).1=true:=by rw [hb]
    generalize iW lo dom lit ++ 62 :: t=l at hn h1
    cases l with
    |nil=>cases hn
    |cons b l=>
     have aoj:b=64:=by simpa [dh] using hn
     subst aoj
     have hlo:(eX (64 :: l)).1=false:=by
      unfold eX
      rw [if_neg (show ¬ dh 34 (64 :: l)=true by simp [dh])]
      show (fK iz 46 (64 :: l)).1=false
      rw [lH]
      have:(iz (64 :: l)).1=false:=by
       unfold iz
       rw [List.takeWhile_cons_of_neg gG]
       rfl
      rw [this]
      rfl
     unfold lX at h1
     rw [hlo] at h1
     simp at h1
  rw [if_neg (by rw [ha];decide),if_neg (by rw [hn];decide),hb]
  rfl
 |cons d ds=>
  show gj ((fY (d :: ds) ++ 58 :: iW lo dom lit) ++ 62 :: t)=_
  rw [List.append_assoc,List.cons_append]
  have hr:=FQ (iW lo dom lit ++ 62 :: t) (d :: ds) bn hds
  obtain ⟨l,hl⟩:=MU (d :: ds) bn
  have hh:fY (d :: ds) ++ 58 :: (iW lo dom lit ++ 62 :: t)=64 :: (l ++ 58 :: (iW lo dom lit ++ 62 :: t)):=by rw [hl];rfl
  unfold gj
  rw [if_neg (by rw [hh,Wm];decide),if_pos (by rw [hh];rfl),hr]
  simp only [if_true]
  rw [List.drop_left,if_pos (show dh 58 (58 :: (iW lo dom lit ++ 62 :: t))=true from rfl),drop_left _ _ 1]
  have e:((58:UInt8) :: (iW lo dom lit ++ 62 :: t)).drop 1=iW lo dom lit ++ 62 :: t:=rfl
  rw [e,hb]
  simp [gw]
  omega
end Go.Proofs.YtokpnfljjjjikaaGreatDoor.kH
namespace Go.Proofs.YtokpnfljjjjikaaGreatDoor.kH
open Go.RowKit Go.Proofs.YtokpnfljjjjikaaGreatDoor Go.Proofs.YtokpnfljjjjikaaGreatDoor.nX Go.Proofs.aj.bW Go.Proofs.aj.dz
set_option linter.unusedVariables false
set_option linter.unusedSimpArgs false
theorem Hg {g:ByteArray→Bool} {xs:List ByteArray} (hf:∀ y,y∈xs→gp.f y=some (g y)):∀ (k i:Nat),xs.length - i < k→i≤xs.length→xs.length < 4611686018427387904→
 ∃ r,aC.l0 k xs (xs.length:Int) (i:Int)=some r∧decide (r≥0)=(xs.drop i).any g
 | 0,_,h,_,_ =>absurd h (Nat.not_lt_zero _)
 |k + 1,i,h,hi,hl=>by
  unfold aC.l0
  by_cases hlt:i < xs.length
  ·rw [if_pos aq,if_pos aq,if_pos aq]
   have hrd:kC ByteArray.empty xs (i:Int)=xs[i]:=by simp [kC,hlt]
   have hd:xs.drop i=xs[i] :: xs.drop (i + 1):=List.drop_eq_getElem_cons hlt
   rw [hrd,hf xs[i] (List.getElem_mem hlt),hd,List.any_cons]
   simp only [Option.bind_some]
   cases hg:g xs[i] with
   |true=>exact ⟨_,if_pos rfl,bn⟩
   |false=>
    rw [if_neg bR,rG i aq]
    obtain ⟨r,h1,h2⟩:=Hg hf k (i + 1) aq aq hl
    exact ⟨r,h1,by rw [h2];rfl⟩
  ·rw [if_neg aq,List.drop_of_length_le aq]
   exact ⟨_,rfl,rfl⟩
theorem adf {g:ByteArray→Bool} {xs:List ByteArray} (hf:∀ y,y∈xs→gp.f y=some (g y)) (k:Nat) (hk:xs.length < k) (hl:xs.length < 4611686018427387904):bE.f k xs=some (xs.any g):=by
 obtain ⟨r,h1,h2⟩:=Hg hf k 0 aq (Nat.zero_le _) hl
 unfold bE.f aC.f
 rw [show (0:Int)=((0:Nat):Int) from rfl,h1]
 simp only [Option.bind_some]
 rw [show decide (r≥((0:Nat):Int))=decide (r≥0) from rfl,h2,List.drop_zero]
def nR (l:List UInt8):Bool:=(pu 10 255 (aA l)).isNone || decide (3 < l.length)
def sO (l:List UInt8):Int:=if l.length=0 then 0 else if (pieces 58 l).any (fun p=>iX (aA p)) then -1 else ((pieces 58 l).length:Int)
def K6 (l:List UInt8):Bool:=
 if (Lib.cut l [58,58]).2.2=true then (decide (0≤sO (Lib.cut l [58,58]).1) && (decide (0≤sO (Lib.cut l [58,58]).2.1) && decide (sO (Lib.cut l [58,58]).1 + sO (Lib.cut l [58,58]).2.1≤6)))
 else sO (Lib.cut l [58,58]).1 == 8
def CI (l:List UInt8):Bool:=decide ((pieces 46 l).length=4) && !((pieces 46 l).any nR)
def tZ (l:List UInt8):Bool:=decide (5 < l.length) && ((l.take 5).map fL == [105,112,118,54,58])
def FR (l:List UInt8):Bool:=if tZ l=true then K6 (l.drop 5) else CI l
theorem Hh (l:List UInt8) (hl:l.length < 4294967281):eZ.f (aA l)=some (sO l):=by
 unfold eZ.f sO
 rw [if_pos (by exact hl)]
 congr 1
 rw [bO]
 by_cases h0:l.length=0
 ·rw [if_pos h0,if_pos h0]
 ·rw [if_neg h0,if_neg h0]
  rw [List.any_map]
  rfl
theorem FT (c:UInt8) (l:List UInt8):(pieces c l).length≤l.length + 1:=by
 rw [lK]
 have:=List.count_le_length (a:=c) (l:=l)
 omega
theorem CJ (l:List UInt8): -1≤sO l∧sO l≤l.length + 1:=by
 have h:=FT 58 l
 unfold sO
 split
 ·omega
 ·split
  ·omega
  ·omega
theorem aab (l:List UInt8):(Lib.cut l [58,58]).1.length≤l.length∧(Lib.cut l [58,58]).2.1.length≤l.length:=by
 unfold Lib.cut
 split
 ·refine ⟨?_,?_⟩
  ·rw [List.length_take];omega
  ·rw [List.length_drop];omega
 ·exact ⟨Nat.le_refl _,Nat.zero_le _⟩
theorem adg (l:List UInt8) (hl:l.length < 4294967281):pN.f (aA l)=some (K6 l):=by
 obtain ⟨h1,h2⟩:=aab l
 have g1:=CJ (Lib.cut l [58,58]).1
 have g2:=CJ (Lib.cut l [58,58]).2.1
 unfold pN.f strings_Cut.f
 rw [if_pos (by exact hl)]
 simp only [Option.bind_some]
 show ((eZ.f (aA (Lib.cut l [58,58]).1)).bind fun t151=>((eZ.f (aA (Lib.cut l [58,58]).2.1)).bind fun t152=>_))=some (K6 l)
 rw [Hh _ aq,Hh _ aq]
 simp only [Option.bind_some]
 show (if (Lib.cut l [58,58]).2.2=true then _ else _)=_
 unfold K6
 by_cases hg:(Lib.cut l [58,58]).2.2=true
 ·rw [if_pos hg,if_pos hg]
  by_cases ha: 0≤sO (Lib.cut l [58,58]).1
  ·rw [if_pos aq,decide_eq_true ha,Bool.true_and]
   by_cases hb: 0≤sO (Lib.cut l [58,58]).2.1
   ·rw [if_pos aq,decide_eq_true hb,Bool.true_and]
    have e:wrap64 (sO (Lib.cut l [58,58]).1 + sO (Lib.cut l [58,58]).2.1)=sO (Lib.cut l [58,58]).1 + sO (Lib.cut l [58,58]).2.1:=by unfold wrap64;omega
    rw [e]
   ·rw [if_neg aq,decide_eq_false hb,Bool.false_and]
  ·rw [if_neg aq,decide_eq_false ha,Bool.false_and]
 ·rw [if_neg hg,if_neg hg]
theorem Wn (l:List UInt8) (hl:l.length < 4294967281):gp.f (aA l)=some (nR l):=by
 unfold gp.f nR
 rw [if_pos kj]
 rfl
theorem FU (c:UInt8) (l x:List UInt8) (h:x∈pieces c l):x.length≤l.length:=pM c l x h
theorem vZ (l:List UInt8) (hl:l.length < 4294967281) (k:Nat) (hk:l.length + 4 < k):bZ.f k (aA l)=some (FR l):=by
 obtain ⟨k,rfl⟩:∃ k',k=k' + 1:=⟨k - 1,aq⟩
 have abq:bZ.j0 (k + 1) (aA l) false=some (CI l):=by
  rw [bZ.j0,if_neg bR,qz _ 46 zL]
  simp only [Option.bind_some]
  show (if (((pieces 46 l).map aA).length:Int)=4 then _ else _)=_
  unfold CI
  have hp:=FT 46 l
  by_cases h4:(pieces 46 l).length=4
  ·rw [if_pos kY,decide_eq_true h4,Bool.true_and]
   have ha:=adf (g:=fun y=>nR y.data.toList) (xs:=(pieces 46 l).map aA) (fun y hy=>by
    obtain ⟨p,hp,rfl⟩:=List.mem_map.mp hy
    have:=FU 46 l p hp
    exact Wn p aq) k kY kY
   show ((bE.f k ((pieces 46 l).map aA)).bind _)=_
   rw [ha]
   simp only [Option.bind_some]
   rw [List.any_map]
   rfl
  ·rw [if_neg kY,decide_eq_false h4,Bool.false_and]
 unfold bZ.f FR
 rw [bO]
 by_cases h5: 5 < l.length
 ·rw [if_pos aq,if_pos bR,if_pos aq]
  have e1:(aA l).extract 0 5=aA (l.take 5):=by
   have:=kR (aA l) 0 5 aq
   exact this
  have hf:cC.f (aA (l.take 5))=some (aA ((l.take 5).map fL)):=by
   unfold cC.f
   rw [if_pos (by rw [bO,List.length_take];omega),nH]
  rw [e1,hf]
  simp only [Option.bind_some]
  rw [show (aA ((l.take 5).map fL)).toList=(l.take 5).map fL from ByteArray.toList_eq ..]
  have hi:tZ l=((l.take 5).map fL == [105,112,118,54,58]):=by unfold tZ;rw [decide_eq_true h5,Bool.true_and]
  rw [← hi]
  cases hs:tZ l with
  |true=>
   rw [if_pos rfl,bZ.j0,if_pos rfl,if_pos kj]
   have e2:(aA l).extract 5 (aA l).size=aA (l.drop 5):=by
    rw [kR (aA l) 5 (aA l).size kj,bO]
    congr 1
    show (l.drop 5).take (l.length - 5)=l.drop 5
    exact List.take_of_length_le lI
   rw [e2,adg _ lI]
   rfl
  |false=>
   rw [if_neg bR]
   exact abq
 ·rw [if_neg aq,abq,if_neg (by unfold tZ;rw [decide_eq_false h5];simp)]
theorem EC (l:List UInt8) (hl:l.length < 4294967281):O5 (aA l)=FR l:=by
 unfold O5
 rw [vZ l hl _ kj]
 rfl
theorem adh (b:UInt8):(fL b == 58)=(b == 58):=fJ (Q:=fun b=>(fL b == 58)=(b == 58)) gG b
theorem aac (b:UInt8):((58:UInt8) == fL b)=((58:UInt8) == b):=fJ (Q:=fun b=>((58:UInt8) == fL b)=((58:UInt8) == b)) gG b
theorem aad (b:UInt8):sy ((fL b).toNat:Int)=sy (b.toNat:Int):=fJ (Q:=fun b=>sy ((fL b).toNat:Int)=sy (b.toNat:Int)) gG b
theorem wh {c:UInt8} (hc:∀ b,(fL b == c)=(b == c)):∀ l:List UInt8,pieces c (l.map fL)=(pieces c l).map (fun p=>p.map fL)
 | []=>rfl
 |b :: l=>by
  have ih:=wh hc l
  rw [List.map_cons]
  unfold pieces
  rw [hc b,ih]
  by_cases hb:(b == c)=true
  ·rw [if_pos hb,if_pos hb]
   rfl
  ·rw [if_neg hb,if_neg hb]
   cases pieces c l with
   |nil=>rfl
   |cons p ps=>rfl
theorem FV (l:List UInt8):bytesOf (aA l)=l.map fun b=>(b.toNat:Int):=rfl
theorem MV (base most:Int):∀ (l:List UInt8) (n:Int),rZ base most ((l.map fL).map fun b=>(b.toNat:Int)) n=rZ base most (l.map fun b=>(b.toNat:Int)) n
 | [],_ =>rfl
 |b :: l,n=>by
  rw [List.map_cons,List.map_cons,List.map_cons]
  unfold rZ
  rw [aad,MV base most l]
theorem Wo (base most:Int) (l:List UInt8):pu base most (aA (l.map fL))=pu base most (aA l):=by
 unfold pu
 rw [bO,bO,List.length_map,FV,FV,MV]
theorem MW (l:List UInt8):sO (l.map fL)=sO l:=by
 unfold sO
 rw [List.length_map,wh adh,List.any_map,List.length_map]
 have e:((fun p=>iX (aA p)) ∘fun p=>List.map fL p)=fun p=>iX (aA p):=by
  funext p
  show iX (aA (p.map fL))=iX (aA p)
  unfold iX
  rw [Wo,bO,bO,List.length_map]
 rw [e]
theorem Hj:∀ l:List UInt8,Lib.index (l.map fL) [58,58]=Lib.index l [58,58]
 | []=>rfl
 |b :: l=>by
  rw [List.map_cons]
  unfold Lib.index
  rw [Hj l]
  have e:List.isPrefixOf [58,58] (fL b :: l.map fL)=List.isPrefixOf [58,58] (b :: l):=by
   cases l with
   |nil=>simp [List.isPrefixOf]
   |cons c l=>simp only [List.map_cons,List.isPrefixOf,aac]
  rw [e]
theorem aae (l:List UInt8):Lib.cut (l.map fL) [58,58]=((Lib.cut l [58,58]).1.map fL,(Lib.cut l [58,58]).2.1.map fL,(Lib.cut l [58,58]).2.2):=by
 unfold Lib.cut
 rw [Hj]
 split
 ·rw [List.map_take,List.map_drop]
 ·rfl
theorem Wp (l:List UInt8):K6 (l.map fL)=K6 l:=by
 unfold K6
 rw [aae,MW,MW]
theorem Ty (l:List UInt8):CI (l.map fL)=CI l:=by
 unfold CI
 rw [wh Pc,List.length_map,List.any_map]
 have e:(nR ∘fun p=>List.map fL p)=nR:=by
  funext p
  show nR (p.map fL)=nR p
  unfold nR
  rw [Wo,List.length_map]
 rw [e]
theorem MX (l:List UInt8):FR (l.map fL)=FR l:=by
 have h:tZ (l.map fL)=tZ l:=by
  unfold tZ
  rw [List.length_map,← List.map_take,rz]
 unfold FR
 rw [h,← List.map_drop,Wp,Ty]
theorem wj (c:UInt8):∀ (l:List UInt8) (b:UInt8),b∈l→b=c∨∃ p,p∈pieces c l∧b∈p
 | [],_,h=>by cases h
 |d :: l,b,h=>by
  unfold pieces
  by_cases hd:(d == c)=true
  ·rw [if_pos hd]
   rcases List.mem_cons.mp h with rfl|h
   ·exact .inl (by simpa using hd)
   ·rcases wj c l b h with h1|⟨p,hp,hb⟩
    ·exact .inl h1
    ·exact .inr ⟨p,List.mem_cons_of_mem _ hp,hb⟩
  ·rw [if_neg hd]
   have ih:=wj c l b
   cases hq:pieces c l with
   |nil=>exact absurd hq (rS c l)
   |cons p ps=>
    rw [hq] at ih
    rcases List.mem_cons.mp h with rfl|h
    ·exact .inr ⟨_,List.mem_cons_self ..,List.mem_cons_self ..⟩
    ·rcases ih h with h1|⟨p',hp,hb⟩
     ·exact .inl h1
     ·rcases List.mem_cons.mp hp with rfl|hp
      ·exact .inr ⟨_,List.mem_cons_self ..,List.mem_cons_of_mem _ hb⟩
      ·exact .inr ⟨p',List.mem_cons_of_mem _ hp,hb⟩
theorem FW (c:UInt8):∀ l:List UInt8,((pieces c l).map fun p=>p.length + 1).sum=l.length + 1
 | []=>rfl
 |d :: l=>by
  have ih:=FW c l
  unfold pieces
  by_cases hd:(d == c)=true
  ·rw [if_pos hd,List.map_cons,List.sum_cons,ih,List.length_cons,List.length_nil]
   omega
  ·rw [if_neg hd]
   cases hq:pieces c l with
   |nil=>exact absurd hq (rS c l)
   |cons p ps=>
    rw [hq,List.map_cons,List.sum_cons] at ih
    simp only [List.map_cons,List.sum_cons,List.length_cons]
    omega
theorem Wq (m:Nat):∀ L:List (List UInt8),(∀ p,p∈L→p.length≤m)→(L.map fun p=>p.length + 1).sum≤L.length * (m + 1)
 | [],_ =>Nat.zero_le _
 |p :: L,h=>by
  have ih:=Wq m L (fun q hq=>h q (List.mem_cons_of_mem _ hq))
  have h1:=h p (List.mem_cons_self ..)
  rw [List.map_cons,List.sum_cons,List.length_cons,Nat.add_mul]
  omega
theorem Bp (c:UInt8) (m:Nat) (l:List UInt8) (h:∀ p,p∈pieces c l→p.length≤m):l.length + 1≤(pieces c l).length * (m + 1):=by
 rw [← FW c l]
 exact Wq m _ h
theorem MZ (base most:Int):∀ (l:List Int) (n r:Int),rZ base most l n=some r→∀ c,c∈l→sy c < base
 | [],_,_,_ =>fun c h=>by cases h
 |d :: l,n,r,h=>by
  intro c hc
  unfold rZ at h
  split at h
  ·cases h
  ·rename_i h1
   split at h
   ·cases h
   ·rcases List.mem_cons.mp hc with rfl|hc
    ·omega
    ·exact MZ base most l _ r h c hc
theorem Ws (base most:Int) (l:List UInt8) (h:(pu base most (aA l)).isNone=false) (b:UInt8) (hb:b∈l):sy (b.toNat:Int) < base:=by
 unfold pu at h
 split at h
 ·cases h
 ·cases hr:rZ base most (bytesOf (aA l)) 0 with
  |none=>rw [hr] at h;cases h
  |some r=>exact MZ base most _ 0 r hr _ (List.mem_map_of_mem hb)
theorem M3 (b:UInt8):sy (b.toNat:Int) < 16→jz b=true:=fJ (Q:=fun b=>sy (b.toNat:Int) < 16→jz b=true) gG b
theorem FX (l:List UInt8) (h: 0≤sO l):(∀ b,b∈l→jz b=true)∧(l.length:Int)≤5 * sO l:=by
 unfold sO at h ⊢
 by_cases h0:l.length=0
 ·rw [if_pos h0]
  have:l= []:=List.eq_nil_of_length_eq_zero h0
  subst this
  exact ⟨fun b hb=>(by cases hb),bn⟩
 ·rw [if_neg h0] at h ⊢
  by_cases ha:((pieces 58 l).any fun p=>iX (aA p))=true
  ·rw [if_pos ha] at h
   omega
  ·rw [if_neg ha]
   have hg:∀ p,p∈pieces 58 l→iX (aA p)=false:=fun p hp=>by
    cases hb:iX (aA p) with
    |false=>rfl
    |true=>exact absurd (List.any_eq_true.mpr ⟨p,hp,hb⟩) ha
   refine ⟨fun b hb=>?_,?_⟩
   ·rcases wj 58 l b hb with rfl|⟨p,hp,hb⟩
    ·decide
    ·have h1:=hg p hp
     unfold iX at h1
     rw [Bool.or_eq_false_iff] at h1
     exact M3 b (Ws 16 65535 p h1.1 b hb)
   ·have h2:=Bp 58 4 l (fun p hp=>by
     have h1:=hg p hp
     unfold iX at h1
     rw [Bool.or_eq_false_iff,bO] at h1
     have:=of_decide_eq_false h1.2
     omega)
    omega
theorem CK:∀ l:List UInt8,0≤Lib.index l [58,58]→l=l.take (Lib.index l [58,58]).toNat ++ 58 :: 58 :: l.drop ((Lib.index l [58,58]).toNat + 2)
 | [],h=>by simp [Lib.index] at h
 |b :: l,h=>by
  unfold Lib.index at h ⊢
  by_cases hp:List.isPrefixOf [58,58] (b :: l)=true
  ·rw [if_pos hp]
   cases l with
   |nil=>simp [List.isPrefixOf] at hp
   |cons c l=>
    simp [List.isPrefixOf] at hp
    obtain ⟨rfl,rfl⟩:=hp
    rfl
  ·rw [if_neg hp] at h ⊢
   by_cases h1:(Lib.index l [58,58] == -1)=true
   ·rw [if_pos h1] at h
    omega
   ·rw [if_neg h1] at h ⊢
    have h2: 0≤Lib.index l [58,58]:=by
     have: ¬ Lib.index l [58,58]= -1:=by simpa using h1
     omega
    have ih:=CK l h2
    obtain ⟨n,hn⟩:∃ n:Nat,Lib.index l [58,58]=n:=⟨_,(Int.toNat_of_nonneg h2).symm⟩
    rw [hn] at ih ⊢
    rw [show ((n:Int) + 1).toNat=n + 1 from by omega]
    rw [Int.toNat_natCast] at ih
    rw [List.take_succ_cons,List.cons_append,show n + 1 + 2=(n + 2) + 1 from by omega,List.drop_succ_cons,← ih]
theorem Wt (l:List UInt8) (h:K6 l=true):(∀ b,b∈l→jz b=true)∧l.length≤100:=by
 unfold K6 at h
 unfold Lib.cut at h
 by_cases hi: 0≤Lib.index l [58,58]
 ·simp only [if_pos hi,if_true,Bool.and_eq_true,decide_eq_true_eq] at h
  obtain ⟨h1,h2,h3⟩:=h
  obtain ⟨w1,n1⟩:=FX _ h1
  obtain ⟨w2,n2⟩:=FX _ h2
  have e:=CK l hi
  have e2:(Lib.index l [58,58]).toNat + [58,58].length=(Lib.index l [58,58]).toNat + 2:=rfl
  rw [show ([58,58]:List UInt8).length=2 from rfl] at w2 n2 h3
  refine ⟨fun b hb=>?_,?_⟩
  ·rw [e] at hb
   rcases List.mem_append.mp hb with hb|hb
   ·exact w1 b hb
   ·rcases List.mem_cons.mp hb with rfl|hb
    ·decide
    ·rcases List.mem_cons.mp hb with rfl|hb
     ·decide
     ·exact w2 b hb
  ·rw [e,List.length_append,List.length_cons,List.length_cons]
   omega
 ·simp only [if_neg hi,Bool.false_eq_true,if_false,beq_iff_eq] at h
  obtain ⟨w1,n1⟩:=FX l aq
  exact ⟨w1,aq⟩
theorem Tz (l:List UInt8) (h:CI l=true):(∀ b,b∈l→jz b=true)∧l.length≤100:=by
 unfold CI at h
 simp only [Bool.and_eq_true,decide_eq_true_eq,Bool.not_eq_true'] at h
 obtain ⟨h1,h2⟩:=h
 have hg:∀ p,p∈pieces 46 l→nR p=false:=fun p hp=>by
  cases hb:nR p with
  |false=>rfl
  |true=>rw [List.any_eq_true.mpr ⟨p,hp,hb⟩] at h2;cases h2
 refine ⟨fun b hb=>?_,?_⟩
 ·rcases wj 46 l b hb with rfl|⟨p,hp,hb⟩
  ·decide
  ·have h3:=hg p hp
   unfold nR at h3
   rw [Bool.or_eq_false_iff] at h3
   have:=Ws 10 255 p h3.1 b hb
   exact M3 b aq
 ·have h4:=Bp 46 3 l (fun p hp=>by
   have h3:=hg p hp
   unfold nR at h3
   rw [Bool.or_eq_false_iff] at h3
   have:=of_decide_eq_false h3.2
   omega)
  rw [h1] at h4
  omega
theorem Wu (b:UInt8):fL b∈([105,112,118,54,58]:List UInt8)→jz b=true:=fJ (Q:=fun b=>fL b∈([105,112,118,54,58]:List UInt8)→jz b=true) gG b
theorem M4 (l:List UInt8) (h:FR l=true):(∀ b,b∈l→jz b=true)∧l.length≤255:=by
 unfold FR at h
 by_cases hs:tZ l=true
 ·rw [if_pos hs] at h
  obtain ⟨w,n⟩:=Wt _ h
  unfold tZ at hs
  simp only [Bool.and_eq_true,beq_iff_eq] at hs
  refine ⟨fun b hb=>?_,by rw [List.length_drop] at n;omega⟩
  have e:l=l.take 5 ++ l.drop 5:=(List.take_append_drop 5 l).symm
  rw [e] at hb
  rcases List.mem_append.mp hb with hb|hb
  ·exact Wu b (by rw [← hs.2];exact List.mem_map_of_mem hb)
  ·exact w b hb
 ·rw [if_neg hs] at h
  obtain ⟨w,n⟩:=Tz _ h
  exact ⟨w,aq⟩
theorem TA (b:UInt8):jz (fL b)=jz b:=fJ (Q:=fun b=>jz (fL b)=jz b) gG b
end Go.Proofs.YtokpnfljjjjikaaGreatDoor.kH
namespace Go.Proofs.YtokpnfljjjjikaaGreatDoor.kH
open Go.RowKit Go.Proofs.YtokpnfljjjjikaaGreatDoor Go.Proofs.YtokpnfljjjjikaaGreatDoor.nX Go.Proofs.aj.bW Go.Proofs.aj.dz
set_option linter.unusedVariables false
set_option linter.unusedSimpArgs false
theorem B0 (a b:List UInt8):qL (a ++ b)=qL a ++ qL b:=List.flatMap_append
theorem Wv (b:UInt8):(qL [b]).length≤2:=by
 show (qB b ++ []).length≤2
 unfold qB
 split<;>simp
theorem aaf (b:UInt8) (h1: ¬ b=34) (h2: ¬ b=92):(qL [b]).length=1:=by
 show (qB b ++ []).length=1
 unfold qB
 rw [if_neg (fun h=>h.elim h1 h2)]
 rfl
theorem abr:∀ l:List UInt8,l.length≤(qL l).length
 | []=>Nat.le_refl _
 |b :: l=>by
  have ih:=abr l
  have e:qL (b :: l)=qB b ++ qL l:=rfl
  rw [e,List.length_append]
  unfold qB
  split<;>simp<;>omega
theorem wk:∀ (n:Nat) (l acc:List UInt8),l.length < n→(kL l acc).1=true→∃ x,(kL l acc).2.1=acc ++ x∧(qL x).length + 1≤(kL l acc).2.2
 | 0,_,_,h,_ =>absurd h (Nat.not_lt_zero _)
 |n + 1,l,acc,h,ho=>by
  cases l with
  |nil=>unfold kL at ho;cases ho
  |cons b l=>
   unfold kL at ho ⊢
   by_cases hq:b=34
   ·rw [if_pos hq] at ho ⊢
    exact ⟨[],bn,by simp [qL]⟩
   ·rw [if_neg hq] at ho ⊢
    by_cases hb:b=92
    ·rw [if_pos hb] at ho ⊢
     cases l with
     |nil=>cases ho
     |cons c l'=>
      by_cases hc:c < 32∨126 < c
      ·simp only [if_pos hc] at ho
       cases ho
      ·simp only [if_neg hc] at ho ⊢
       obtain ⟨x,h1,h2⟩:=wk n l' (acc ++ [c]) xJ ho
       refine ⟨c :: x,by rw [h1];simp,?_⟩
       have e:qL (c :: x)=qL [c] ++ qL x:=B0 [c] x
       rw [e,List.length_append]
       have:=Wv c
       omega
    ·rw [if_neg hb] at ho ⊢
     by_cases hc:b < 32∨126 < b
     ·rw [if_pos hc] at ho
      cases ho
     ·rw [if_neg hc] at ho ⊢
      obtain ⟨x,h1,h2⟩:=wk n l (acc ++ [b]) xJ ho
      refine ⟨b :: x,by rw [h1];simp,?_⟩
      have e:qL (b :: x)=qL [b] ++ qL x:=B0 [b] x
      rw [e,List.length_append,aaf b hq hb]
      show _≤_ + 1
      omega
theorem GG (l:List UInt8) (h:(eX l).1=true):(pZ (xz l)).length≤(eX l).2.2:=by
 unfold eX at h ⊢
 unfold xz
 by_cases hq:dh 34 l=true
 ·rw [if_pos hq] at h ⊢
  rw [if_pos hq]
  obtain ⟨x,h1,h2⟩:=wk _ (l.drop 1) [] (Nat.lt_succ_self _) h
  rw [List.nil_append] at h1
  rw [h1]
  have h3:=abr x
  unfold pZ
  split
  ·show x.length≤1 + _
   omega
  ·show (34 :: (qL x ++ [34])).length≤1 + _
   rw [List.length_cons,List.length_append,List.length_cons,List.length_nil]
   omega
 ·rw [if_neg hq] at h ⊢
  rw [if_neg hq]
  have h1:=Pb l h
  have hle:(fK iz 46 l).2≤l.length:=xq iz 46 xp _ l (Nat.lt_succ_self _)
  have hp:BZ (l.take (fK iz 46 l).2)=true:=by
   unfold BZ
   rw [h1,List.length_take,Nat.min_eq_left hle]
   simp
  unfold pZ
  rw [if_pos hp,List.length_take]
  exact Nat.min_le_left _ _
theorem Ww (l:List UInt8) (hl:l.length < 4294967281) (h:(lX l).1=true):∃ (lo dom:List UInt8) (lit:Bool),wC lo dom lit∧(lX l).2.1=aA lo∧(lX l).2.2.1=aA dom∧(lX l).2.2.2.1=lit∧(iW lo dom lit).length≤(lX l).2.2.2.2∧dom≠ []∧(lit=true→dom.length≤255):=by
 have hlo:(eX l).1=true:=by
  unfold lX at h
  by_cases h1:(eX l).1=true
  ·exact h1
  ·rw [if_neg h1] at h
   cases h
 have hs:=GG l hlo
 unfold lX at h ⊢
 rw [if_pos hlo] at h ⊢
 by_cases h2:dh 64 (l.drop (eX l).2.2)=true
 ·rw [if_pos h2] at h ⊢
  by_cases h3:dh 91 (l.drop ((eX l).2.2 + 1))=true
  ·rw [if_pos h3] at h ⊢
   generalize hw:(l.drop ((eX l).2.2 + 2)).takeWhile jz=w at h ⊢
   have hwl:w.length≤l.length:=by
    rw [← hw]
    refine Nat.le_trans (nQ _ _) ?_
    rw [List.length_drop];omega
   by_cases h4:dh 93 (l.drop ((eX l).2.2 + 2 + w.length))=true
   ·rw [if_pos h4] at h ⊢
    simp only at h
    rw [EC w aq] at h
    have hg:=M4 _ h
    refine ⟨xz l,w.map fL,true,⟨CG l,fun e=>(by cases e),fun _ =>⟨?_,?_,rz w⟩⟩,CF l,nH w,rfl,?_,?_,fun _ =>by rw [List.length_map];exact hg.2⟩
    ·rw [EC _ kY,MX]
     exact h
    ·intro b hb
     obtain ⟨c,hc,rfl⟩:=List.mem_map.mp hb
     rw [TA]
     exact hg.1 c hc
    ·unfold iW
     rw [if_pos rfl,List.length_append]
     simp
     omega
    ·intro e
     have e2:w= []:=List.map_eq_nil_iff.mp e
     rw [e2] at h
     exact absurd h gG
   ·rw [if_neg h4] at h
    cases h
  ·rw [if_neg h3] at h ⊢
   have hd:=Ss _ h
   refine ⟨xz l,uo (l.drop ((eX l).2.2 + 1)),false,⟨CG l,fun _ =>hd,fun e=>(by cases e)⟩,CF l,BX _,rfl,?_,?_,fun e=>(by cases e)⟩
   ·unfold iW
    rw [if_neg bR,List.length_append,List.length_cons,xy]
    show _≤(eX l).2.2 + 1 + _
    omega
   ·obtain ⟨b,d',e,_⟩:=hd.head
    rw [e]
    simp
 ·rw [if_neg h2] at h
  cases h
theorem M5:∀ (n:Nat) (l:List UInt8),l.length < n→(iM l).1=true→∃ ds:List (List UInt8),ds≠ []∧(∀ d,d∈ds→lZ d)∧(iM l).2.1=ds.map aA∧(fY ds).length≤(iM l).2.2
 | 0,_,h,_ =>absurd h (Nat.not_lt_zero _)
 |n + 1,l,h,ho=>by
  rw [rV] at ho ⊢
  by_cases h1:(jQ l).1=true
  ·rw [if_pos h1] at ho ⊢
   have h64:dh 64 l=true:=by
    unfold jQ at h1
    by_cases h64:dh 64 l=true
    ·exact h64
    ·rw [if_neg h64] at h1
     cases h1
   have e:jQ l=((oM (l.drop 1)).1,(oM (l.drop 1)).2.1,1 + (oM (l.drop 1)).2.2):=by
    unfold jQ
    rw [if_pos h64]
   have hd1:(oM (l.drop 1)).1=true:=by rw [e] at h1;exact h1
   have hd:=Ss _ hd1
   by_cases h2:dh 44 (l.drop (jQ l).2.2)=true
   ·have h3:=gA h2
    rw [if_pos h2] at ho ⊢
    obtain ⟨ds,h4,h5,h6,h7⟩:=M5 n (l.drop ((jQ l).2.2 + 1)) lI ho
    refine ⟨uo (l.drop 1) :: ds,bn,fun d hd'=>?_,?_,?_⟩
    ·rcases List.mem_cons.mp hd' with rfl|hd'
     ·exact hd
     ·exact h5 d hd'
    ·show (jQ l).2.1 :: _=_
     rw [h6,e,List.map_cons]
     show (oM (l.drop 1)).2.1 :: _=_
     rw [BX]
    ·obtain ⟨d2,ds',rfl⟩:∃ d2 ds',ds=d2 :: ds':=by
      cases ds with
      |nil=>exact absurd rfl h4
      |cons d2 ds'=>exact ⟨d2,ds',rfl⟩
     show (64 :: (uo (l.drop 1) ++ 44 :: fY (d2 :: ds'))).length≤(jQ l).2.2 + 1 + _
     rw [List.length_cons,List.length_append,List.length_cons,xy,e]
     simp only
     rw [e] at h7
     simp only at h7
     omega
   ·rw [if_neg h2] at ho ⊢
    refine ⟨[uo (l.drop 1)],bn,fun d hd'=>?_,?_,?_⟩
    ·rw [List.mem_singleton.mp hd']
     exact hd
    ·rw [e]
     show [(oM (l.drop 1)).2.1]= [aA _]
     rw [BX]
    ·show (64 :: uo (l.drop 1)).length≤_
     rw [List.length_cons,xy,e]
     simp only
     omega
  ·rw [if_neg h1] at ho
   cases ho
theorem Wx (l:List UInt8) (hl:l.length < 4294967281) (h0:jU l=false) (h:(gj l).1=true):∃ (ds:List (List UInt8)) (lo dom:List UInt8) (lit:Bool),(∀ d,d∈ds→lZ d)∧wC lo dom lit∧gj l=(true,ds.map aA,aA lo,aA dom,lit,(gj l).2.2.2.2.2)∧(gw ds lo dom lit).length≤(gj l).2.2.2.2.2∧dom≠ []∧(lit=true→dom.length≤255):=by
 unfold gj at h ⊢
 rw [if_neg (by rw [h0];decide)] at h ⊢
 by_cases h1:dh 64 l=true
 ·rw [if_pos h1] at h ⊢
  by_cases h2:(iM l).1=true
  ·rw [if_pos h2] at h ⊢
   obtain ⟨ds,r1,r2,r3,r4⟩:=M5 _ l (Nat.lt_succ_self _) h2
   by_cases h3:dh 58 (l.drop (iM l).2.2)=true
   ·rw [if_pos h3] at h ⊢
    obtain ⟨lo,dom,lit,b1,b2,b3,b4,b5,b6,b7⟩:=Ww (l.drop ((iM l).2.2 + 1)) lI h
    refine ⟨ds,lo,dom,lit,r2,b1,?_,?_,b6,b7⟩
    ·rw [r3,b2,b3,b4]
     rw [show (lX (l.drop ((iM l).2.2 + 1))).1=true from h]
    ·cases ds with
     |nil=>exact absurd rfl r1
     |cons d ds=>
      show (fY (d :: ds) ++ 58 :: iW lo dom lit).length≤(iM l).2.2 + 1 + _
      rw [List.length_append,List.length_cons]
      omega
   ·rw [if_neg h3] at h
    cases h
  ·rw [if_neg h2] at h
   cases h
 ·rw [if_neg h1] at h ⊢
  obtain ⟨lo,dom,lit,b1,b2,b3,b4,b5,b6,b7⟩:=Ww l hl h
  refine ⟨[],lo,dom,lit,fun d hd=>(by cases hd),b1,?_,b5,b6,b7⟩
  rw [b2,b3,b4]
  rw [show (lX l).1=true from h]
  rfl
end Go.Proofs.YtokpnfljjjjikaaGreatDoor.kH
namespace Go.Proofs.YtokpnfljjjjikaaGreatDoor.kH
open Go.RowKit Go.Proofs.YtokpnfljjjjikaaGreatDoor Go.Proofs.YtokpnfljjjjikaaGreatDoor.nX Go.Proofs.aj.bW Go.Proofs.aj.dz
abbrev Sv:=Bool×List ByteArray×ByteArray×ByteArray×Bool×Int×Int
def K7:Sv:=(false,[],⟨#[]⟩,⟨#[]⟩,false,0,150)
def K8:Sv:=(true,[],⟨#[]⟩,⟨#[]⟩,false,2,0)
theorem B6 (s:ByteArray):rest s 0=s.data.toList:=rfl
theorem prefix_eq (s:ByteArray) (hs:s.size < 4611686018427387904):strings_HasPrefix.f s ⟨#[60,62]⟩=some (wB s.data.toList):=by
 have hlen:=dI s
 unfold strings_HasPrefix.f stringslite_HasPrefix.f
 have h2:((⟨#[60,62]⟩:ByteArray).size:Int)=2:=rfl
 rw [h2]
 by_cases h: 2≤s.size
 ·rw [if_pos aq,if_pos aq,if_pos aq]
  simp only [Option.bind_some]
  congr 1
  have e:s.extract 0 ((2:Int)).toNat=aA (s.data.toList.take 2):=by
   have:=kR s 0 2 aq
   simpa [B6] using this
  rw [e,ByteArray.toList_eq,ByteArray.toList_eq]
  show (s.data.toList.take 2 == [60,62])=_
  unfold wB
  rcases hl:s.data.toList with _|⟨a,_|⟨b,l⟩⟩
  ·rw [hl] at hlen;simp at hlen;omega
  ·rw [hl] at hlen;simp at hlen;omega
  ·show ([a,b] == [60,62])=((a == 60) && (b == 62))
   simp [BEq.beq,List.beq]
 ·rw [if_neg aq]
  simp only [Option.bind_some]
  congr 1
  unfold wB
  rcases hl:s.data.toList with _|⟨a,_|⟨b,l⟩⟩
  ·rfl
  ·show false=((a == 60) && false)
   rw [Bool.and_false]
  ·rw [hl] at hlen;simp at hlen;omega
theorem Ph (k:Nat) (hk: 0 < k) (s:ByteArray) (q:Int) (a:Bool) (b:List ByteArray) (c d:ByteArray) (e:Bool):bX.j0 k true s q a b c d e=some K7:=by
 obtain ⟨k,rfl⟩:∃ k',k=k' + 1:=⟨k - 1,aq⟩
 rw [bX.j0,if_pos rfl]
 rfl
theorem sH (s:ByteArray) (hs:s.size < 4294967281) (k:Nat) (h:wB s.data.toList=true):bX.f k s=some K8:=by
 unfold bX.f
 rw [prefix_eq s aq]
 simp only [Option.bind_some]
 rw [if_pos h]
 rfl
theorem uq (s:ByteArray) (hs:s.size < 4294967281) (k:Nat) (hk:s.size + 6 < k) (h0:wB s.data.toList=false) (h:GF s.data.toList=true):
 bX.f k s=bX.j0 k false s ((2 + (gj (s.data.toList.drop 1)).2.2.2.2.2:Nat):Int) false (gj (s.data.toList.drop 1)).2.1 (gj (s.data.toList.drop 1)).2.2.1 (gj (s.data.toList.drop 1)).2.2.2.1 (gj (s.data.toList.drop 1)).2.2.2.2.1:=by
 unfold GF at h
 simp only [Bool.and_eq_true] at h
 obtain ⟨⟨h1,h2⟩,h3⟩:=h
 have hpos:=oO h1
 rw [dI] at hpos
 unfold bX.f
 rw [prefix_eq s aq]
 simp only [Option.bind_some]
 rw [if_neg (by rw [h0];decide)]
 rw [show (0:Int)=((0:Nat):Int) from rfl,nP s 0 60 60 rfl aq,B6,if_pos h1]
 simp only [Option.bind_some,Nat.zero_add]
 have hr1:rest s 1=s.data.toList.drop 1:=rfl
 rw [inner_eq s hs k 1 pJ aq,hr1]
 simp only [Option.bind_some]
 rw [if_pos h1,if_pos h2,nP s _ 62 62 rfl aq]
 have hr2:rest s (1 + (gj (s.data.toList.drop 1)).2.2.2.2.2)=s.data.toList.drop (1 + (gj (s.data.toList.drop 1)).2.2.2.2.2):=rfl
 rw [hr2,h3]
 simp only [Option.bind_some,if_true,Bool.not_true]
 rw [show 1 + (gj (s.data.toList.drop 1)).2.2.2.2.2 + 1=2 + (gj (s.data.toList.drop 1)).2.2.2.2.2 from by omega]
theorem Ca (s:ByteArray) (hs:s.size < 4294967281) (k:Nat) (hk:s.size + 6 < k) (h:∀ n,¬ FJ s.data.toList n):bX.f k s=some K7:=by
 have h0:wB s.data.toList=false:=by
  cases hn:wB s.data.toList with
  |false=>rfl
  |true=>exact absurd (.inl ⟨hn,rfl⟩) (h 2)
 have hs0: ¬ GF s.data.toList=true:=fun hy=>h _ (.inr ⟨h0,hy,rfl⟩)
 unfold bX.f
 rw [prefix_eq s aq]
 simp only [Option.bind_some]
 rw [if_neg (by rw [h0];decide)]
 rw [show (0:Int)=((0:Nat):Int) from rfl,nP s 0 60 60 rfl aq,B6]
 simp only [Option.bind_some]
 by_cases h1:dh 60 s.data.toList=true
 ·have hpos:=oO h1
  rw [dI] at hpos
  have hr1:rest s 1=s.data.toList.drop 1:=rfl
  rw [if_pos h1]
  simp only [Nat.zero_add]
  rw [inner_eq s hs k 1 pJ aq,hr1]
  simp only [Option.bind_some]
  rw [if_pos h1]
  by_cases h2:(gj (s.data.toList.drop 1)).1=true
  ·rw [if_pos h2,nP s _ 62 62 rfl aq]
   simp only [Option.bind_some]
   have hr2:rest s (1 + (gj (s.data.toList.drop 1)).2.2.2.2.2)=s.data.toList.drop (1 + (gj (s.data.toList.drop 1)).2.2.2.2.2):=rfl
   have h3:dh 62 (rest s (1 + (gj (s.data.toList.drop 1)).2.2.2.2.2))=false:=by
    rw [hr2]
    cases h3:dh 62 (s.data.toList.drop (1 + (gj (s.data.toList.drop 1)).2.2.2.2.2)) with
    |false=>rfl
    |true=>exact absurd (by unfold GF;rw [h1,h2,h3];rfl) hs0
   rw [h3]
   exact Ph k aq _ _ _ _ _ _ _
  ·rw [if_neg h2]
   exact Ph k aq _ _ _ _ _ _ _
 ·rw [if_neg h1]
  rw [inner_eq s hs k 0 pJ aq]
  simp only [Option.bind_some]
  rw [if_neg h1]
  exact Ph k aq _ _ _ _ _ _ _
theorem Pj (s:ByteArray) (hs:s.size < 4294967281) (k:Nat) (hk: 2 * s.size + 10 < k):∃ r,bX.f k s=some r:=by
 by_cases h:∃ n,FJ s.data.toList n
 ·obtain ⟨n,⟨h,_⟩|⟨h0,h,_⟩⟩:=h
  ·exact ⟨_,sH s hs k h⟩
  ·rw [uq s hs k aq h0 h]
   obtain ⟨h1,h2,h3⟩:=xw (s.data.toList.drop 1)
   rw [List.length_drop,dI] at h1 h2 h3
   exact Tp k s _ false _ _ _ _ s.size (fun y hy=>Nat.le_trans (h2 y hy) aq) aq aq aq
 ·exact ⟨_,Ca s hs k aq (fun n hn=>h ⟨n,hn⟩)⟩
theorem M6 (b:List ByteArray) (c d c2 d2:ByteArray) (a e a2 e2:Bool):∀ (k i:Nat),b.length - i < k→i≤b.length→b.length < 4611686018427387904→bH.l0 k (b.length:Int) (i:Int) a b c d e a2 b c2 d2 e2=some true
 | 0,_,h,_,_ =>absurd h (Nat.not_lt_zero _)
 |k + 1,i,h,hi,hl=>by
  unfold bH.l0
  by_cases hlt:i < b.length
  ·rw [if_pos aq,if_pos aq,if_pos aq,if_pos aq,if_pos rfl,rG i aq]
   exact M6 b c d c2 d2 a e a2 e2 k (i + 1) aq aq hl
  ·rw [if_neg aq]
theorem TB (a:Bool) (b:List ByteArray) (c d:ByteArray) (e:Bool) (k:Nat) (hk:b.length + 2 < k) (hl:b.length < 4611686018427387904):bH.f k a b c d e a b c d e=some true:=by
 unfold bH.f
 obtain ⟨k,rfl⟩:∃ k',k=k' + 1:=⟨k - 1,aq⟩
 rw [if_neg bn,if_neg bn,bH.j0,if_neg bn]
 exact M6 b c d c d a e a e k 0 aq (Nat.zero_le _) hl
theorem M7 (s:ByteArray) (hs:s.size < 4294967281) (k:Nat) (hk:s.size + 6 < k) {a:Bool} {b:List ByteArray} {c d:ByteArray} {e:Bool} {q z:Int} (h:bX.f k s=some (a,b,c,d,e,q,z)):b.length≤s.size + 1:=by
 by_cases hn:∃ n,FJ s.data.toList n
 ·obtain ⟨n,⟨h1,_⟩|⟨h0,h1,_⟩⟩:=hn
  ·rw [sH s hs k h1] at h
   simp only [K8,Option.some.injEq,Prod.mk.injEq] at h
   rw [← h.2.1]
   exact Nat.zero_le _
  ·rw [uq s hs k hk h0 h1] at h
   obtain ⟨h3,_,_⟩:=xw (s.data.toList.drop 1)
   rw [List.length_drop,dI] at h3
   obtain ⟨k,rfl⟩:∃ k',k=k' + 1:=⟨k - 1,aq⟩
   rw [bX.j0,if_neg bR] at h
   obtain ⟨w,_,h⟩:=Option.bind_eq_some_iff.mp h
   split at h
   ·split at h
    ·simp only [Option.some.injEq,Prod.mk.injEq] at h
     rw [← h.2.1]
     exact Nat.zero_le _
    ·obtain ⟨w2,_,h⟩:=Option.bind_eq_some_iff.mp h
     split at h
     ·simp only [Option.some.injEq,Prod.mk.injEq] at h
      rw [← h.2.1]
      exact Nat.zero_le _
     ·simp only [Option.some.injEq,Prod.mk.injEq] at h
      rw [← h.2.1]
      omega
   ·simp only [Option.some.injEq,Prod.mk.injEq] at h
    rw [← h.2.1]
    exact Nat.zero_le _
 ·rw [Ca s hs k hk (fun n h=>hn ⟨n,h⟩)] at h
  simp only [K7,Option.some.injEq,Prod.mk.injEq] at h
  rw [← h.2.1]
  exact Nat.zero_le _
end Go.Proofs.YtokpnfljjjjikaaGreatDoor.kH
namespace Go.Proofs.YtokpnfljjjjikaaGreatDoor.kH
open Go.RowKit Go.Proofs.YtokpnfljjjjikaaGreatDoor Go.Proofs.YtokpnfljjjjikaaGreatDoor.nX Go.Proofs.aj.bW Go.Proofs.aj.dz
set_option linter.unusedVariables false
set_option linter.unusedSimpArgs false
def iU (x:ByteArray):Bool:=(eW.f (x.size + 3) x).getD false
theorem ur (x:ByteArray) (k:Nat) (hk:x.size + 2 < k):eW.f k x=some (iU x):=by
 obtain ⟨r,hr⟩:=zw x (x.size + 3) aq
 have h1:iU x=r:=by unfold iU;rw [hr];rfl
 rw [h1]
 exact oV (fun k=>eW.mono x k) aq hr
theorem Pk (x:ByteArray) (h:iU x=true):x.size≤255:=by
 have h1:=ur x (x.size + 3) aq
 rw [h] at h1
 unfold eW.f at h1
 split at h1
 ·omega
 ·cases h1
theorem CL {g:ByteArray→Bool} {k0:Nat} {xs:List ByteArray} (hf:∀ y,y∈xs→∀ k,k0≤k→fV.f k y=some (g y)):∀ (k i:Nat),xs.length - i + k0 < k→i≤xs.length→xs.length < 4611686018427387904→
 ∃ r,aG.l0 k xs (xs.length:Int) (i:Int)=some r∧decide (r≥0)=(xs.drop i).any g
 | 0,_,h,_,_ =>absurd h (Nat.not_lt_zero _)
 |k + 1,i,h,hi,hl=>by
  unfold aG.l0
  by_cases hlt:i < xs.length
  ·rw [if_pos aq,if_pos aq,if_pos aq]
   have hrd:kC ByteArray.empty xs (i:Int)=xs[i]:=by simp [kC,hlt]
   have hd:xs.drop i=xs[i] :: xs.drop (i + 1):=List.drop_eq_getElem_cons hlt
   rw [hrd,hf xs[i] (List.getElem_mem hlt) k aq,hd,List.any_cons]
   simp only [Option.bind_some]
   cases hg:g xs[i] with
   |true=>exact ⟨_,if_pos rfl,bn⟩
   |false=>
    rw [if_neg bR,rG i aq]
    obtain ⟨r,h1,h2⟩:=CL hf k (i + 1) aq aq hl
    exact ⟨r,h1,by rw [h2];rfl⟩
  ·rw [if_neg aq,List.drop_of_length_le aq]
   exact ⟨_,rfl,rfl⟩
theorem FY {g:ByteArray→Bool} {k0:Nat} {xs:List ByteArray} (hf:∀ y,y∈xs→∀ k,k0≤k→fV.f k y=some (g y)) (k:Nat) (hk:xs.length + k0 < k) (hl:xs.length < 4611686018427387904):bB.f k xs=some (xs.any g):=by
 obtain ⟨r,h1,h2⟩:=CL hf k 0 aq (Nat.zero_le _) hl
 unfold bB.f aG.f
 rw [show (0:Int)=((0:Nat):Int) from rfl,h1]
 simp only [Option.bind_some]
 rw [show decide (r≥((0:Nat):Int))=decide (r≥0) from rfl,h2,List.drop_zero]
theorem CN {g:ByteArray→Bool} {k0:Nat} {xs:List ByteArray} (hf:∀ y,y∈xs→∀ k,k0≤k→kQ.f k y=some (g y)):∀ (k i:Nat),xs.length - i + k0 < k→i≤xs.length→xs.length < 4611686018427387904→
 ∃ r,bJ.l0 k xs (xs.length:Int) (i:Int)=some r∧decide (r≥0)=(xs.drop i).any g
 | 0,_,h,_,_ =>absurd h (Nat.not_lt_zero _)
 |k + 1,i,h,hi,hl=>by
  unfold bJ.l0
  by_cases hlt:i < xs.length
  ·rw [if_pos aq,if_pos aq,if_pos aq]
   have hrd:kC ByteArray.empty xs (i:Int)=xs[i]:=by simp [kC,hlt]
   have hd:xs.drop i=xs[i] :: xs.drop (i + 1):=List.drop_eq_getElem_cons hlt
   rw [hrd,hf xs[i] (List.getElem_mem hlt) k aq,hd,List.any_cons]
   simp only [Option.bind_some]
   cases hg:g xs[i] with
   |true=>exact ⟨_,if_pos rfl,bn⟩
   |false=>
    rw [if_neg bR,rG i aq]
    obtain ⟨r,h1,h2⟩:=CN hf k (i + 1) aq aq hl
    exact ⟨r,h1,by rw [h2];rfl⟩
  ·rw [if_neg aq,List.drop_of_length_le aq]
   exact ⟨_,rfl,rfl⟩
theorem M8 {g:ByteArray→Bool} {k0:Nat} {xs:List ByteArray} (hf:∀ y,y∈xs→∀ k,k0≤k→kQ.f k y=some (g y)) (k:Nat) (hk:xs.length + k0 < k) (hl:xs.length < 4611686018427387904):b9.f k xs=some (xs.any g):=by
 obtain ⟨r,h1,h2⟩:=CN hf k 0 aq (Nat.zero_le _) hl
 unfold b9.f bJ.f
 rw [show (0:Int)=((0:Nat):Int) from rfl,h1]
 simp only [Option.bind_some]
 rw [show decide (r≥((0:Nat):Int))=decide (r≥0) from rfl,h2,List.drop_zero]
structure Fits (ds:List (List UInt8)) (lo dom:List UInt8) (lit:Bool):Prop where
 los:lo.length≤64
 doms:lit=false→iU (aA dom)=true
 many:ds.length≤20
 each:∀ d,d∈ds→iU (aA d)=true
theorem rW (lo dom:List UInt8) (lit:Bool) (k:Nat) (hk:dom.length + 2 < k):eF.f k (aA lo) (aA dom) lit=some (decide (lo.length≤64) && (lit || iU (aA dom))):=by
 unfold eF.f
 rw [bO]
 by_cases h:lo.length≤64
 ·rw [if_pos aq,decide_eq_true h,Bool.true_and]
  cases lit with
  |true=>rfl
  |false=>
   rw [if_neg bR,ur _ k (by rw [bO];exact hk)]
   rfl
 ·rw [if_neg aq,decide_eq_false h]
  rfl
theorem Hl (y:ByteArray) (k:Nat) (hk:y.size + 2 < k):fV.f k y=some (!iU y):=by
 unfold fV.f
 rw [ur y k hk]
 rfl
theorem ag4 (k:Nat) (s:ByteArray) (q:Int) (ds:List (List UInt8)) (lo dom:List UInt8) (lit:Bool) (M:Nat) (hM:∀ d,d∈ds→d.length≤M) (hd:dom.length≤M) (hk:ds.length + M + 5 < k) (hl:ds.length < 4611686018427387904):
 (Fits ds lo dom lit∧bX.j0 k false s q false (ds.map aA) (aA lo) (aA dom) lit=some (false,ds.map aA,aA lo,aA dom,lit,q,0))∨bX.j0 k false s q false (ds.map aA) (aA lo) (aA dom) lit=some (false,[],⟨#[]⟩,⟨#[]⟩,false,0,3):=by
 obtain ⟨k,rfl⟩:∃ k',k=k' + 1:=⟨k - 1,aq⟩
 rw [bX.j0,if_neg bR,rW lo dom lit k aq]
 simp only [Option.bind_some]
 by_cases hw:(decide (lo.length≤64) && (lit || iU (aA dom)))=true
 ·rw [if_pos hw,List.length_map]
  by_cases h20:ds.length≤20
  ·rw [if_neg aq]
   rw [FY (g:=fun y=>!iU y) (k0:=M + 3) (fun y hy k hk=>by
    obtain ⟨d,hd',rfl⟩:=List.mem_map.mp hy
    have:=hM d hd'
    exact Hl _ k kj) k kY (by rw [List.length_map];exact hl)]
   simp only [Option.bind_some]
   by_cases ha:((ds.map aA).any fun y=>!iU y)=true
   ·rw [if_pos ha]
    exact .inr rfl
   ·rw [if_neg ha]
    simp only [Bool.and_eq_true,decide_eq_true_eq,Bool.or_eq_true] at hw
    refine .inl ⟨⟨hw.1,fun e=>?_,h20,fun d hd'=>?_⟩,rfl⟩
    ·rcases hw.2 with h|h
     ·rw [e] at h;cases h
     ·exact h
    ·cases hs:iU (aA d) with
     |true=>rfl
     |false=>exact absurd (List.any_eq_true.mpr ⟨aA d,List.mem_map_of_mem hd',by rw [hs];rfl⟩) ha
  ·rw [if_pos aq]
   exact .inr rfl
 ·rw [if_neg hw]
  exact .inr rfl
theorem aag (k:Nat) (s:ByteArray) (q:Int) (ds:List (List UInt8)) (lo dom:List UInt8) (lit:Bool) (hf:Fits ds lo dom lit) (M:Nat) (hM:∀ d,d∈ds→d.length≤M) (hd:dom.length≤M) (hk:ds.length + M + 5 < k):
 bX.j0 k false s q false (ds.map aA) (aA lo) (aA dom) lit=some (false,ds.map aA,aA lo,aA dom,lit,q,0):=by
 have hl:=hf.many
 obtain ⟨k,rfl⟩:∃ k',k=k' + 1:=⟨k - 1,aq⟩
 rw [bX.j0,if_neg bR,rW lo dom lit k aq]
 simp only [Option.bind_some]
 have hw:(decide (lo.length≤64) && (lit || iU (aA dom)))=true:=by
  rw [decide_eq_true hf.los,Bool.true_and]
  cases lit with
  |true=>rfl
  |false=>rw [hf.doms rfl];rfl
 rw [if_pos hw,List.length_map,if_neg aq]
 rw [FY (g:=fun y=>!iU y) (k0:=M + 3) (fun y hy k hk=>by
  obtain ⟨d,hd',rfl⟩:=List.mem_map.mp hy
  have:=hM d hd'
  exact Hl _ k kj) k kY kY]
 simp only [Option.bind_some]
 rw [if_neg]
 intro ha
 obtain ⟨y,hy,h1⟩:=List.any_eq_true.mp ha
 obtain ⟨d,hd',rfl⟩:=List.mem_map.mp hy
 rw [hf.each d hd'] at h1
 cases h1
theorem yM (l:List UInt8):rest (aA l) 0=l:=rfl
theorem TC (d:List UInt8) (h:lZ d) (hs:iU (aA d)=true) (hl:d.length < 4294967281) (k:Nat) (hk:d.length + 3 < k):fk.f k (aA d)=some true:=by
 unfold fk.f
 have h1:=domain_eq (aA d) kj k 0 (by rw [yM];omega) (Nat.zero_le _)
 rw [yM] at h1
 have h2:=h.read (t:=[]) (by intro b t' e;cases e) rfl
 rw [List.append_nil] at h2
 rw [h2] at h1
 rw [show (0:Int)=((0:Nat):Int) from rfl,h1]
 simp only [Option.bind_some]
 rw [if_pos trivial,if_pos kj,ur _ k kj,hs]
 rfl
theorem Sw (d:List UInt8) (h:d.map fL=d) (hl:d.length < 4294967281):cC.f (aA d)=some (aA d):=by
 unfold cC.f
 rw [if_pos kj,nH,h]
theorem toList_mk (l:List UInt8):(aA l).toList=l:=ByteArray.toList_eq ..
theorem Sy (d:List UInt8) (h:lZ d) (hs:iU (aA d)=true) (hl:d.length < 4294967281) (k:Nat) (hk:d.length + 3 < k):kG.f k (aA d)=some true:=by
 unfold kG.f
 rw [TC d h hs hl k hk]
 simp only [Option.bind_some]
 rw [if_pos trivial,Sw d h.2 hl]
 simp
theorem aah (l:List UInt8) (i:Nat) (hi:i < l.length) (h:∀ b,b∈l→yR b): ¬ bt (aA l) (i:Int) < 32∧¬ bt (aA l) (i:Int) > 126:=by
 have e:=Sp l i hi
 have hf:yR (l.getD i 0):=h _ (by
  rw [List.getD_eq_getElem?_getD,List.getElem?_eq_getElem hi]
  exact List.getElem_mem hi)
 rw [e]
 refine ⟨fun h1=>hf (.inl (O4.mp h1)),fun h1=>hf (.inr (FA.mp h1))⟩
theorem Ho {ds:List (List UInt8)} {lo dom:List UInt8} {lit:Bool} (h:wC lo dom lit) (hf:Fits ds lo dom lit) (hl:dom.length < 4294967281):∀ (k i:Nat),lo.length - i + dom.length + 6 < k→i≤lo.length→
 dZ.l0 k (lo.length:Int) (i:Int) (aA lo) (aA dom) lit=some true
 | 0,_,h,_ =>absurd h (Nat.not_lt_zero _)
 |k + 1,i,hk,hi=>by
  have h64:=hf.los
  unfold dZ.l0
  by_cases hlt:i < lo.length
  ·obtain ⟨b1,b2⟩:=aah lo i hlt h.los
   rw [if_pos aq,if_pos aq,if_pos kj,if_neg b1,if_neg b2,rG i aq]
   exact Ho h hf hl k (i + 1) aq aq
  ·rw [if_neg aq]
   cases lit with
   |true=>
    obtain ⟨w1,w2,w3⟩:=h.words rfl
    rw [if_pos rfl,rW lo dom true k aq,decide_eq_true h64]
    simp only [Option.bind_some,Bool.true_or,Bool.true_and,if_true]
    rw [vZ dom hl k aq,← EC dom hl,w1]
    simp only [Option.bind_some,if_true]
    rw [Sw dom w3 hl]
    simp
   |false=>
    rw [if_neg bR,rW lo dom false k aq,decide_eq_true h64,hf.doms rfl]
    simp only [Option.bind_some,Bool.or_true,Bool.true_and,if_true,Bool.false_or]
    rw [Sy dom (h.doms rfl) (hf.doms rfl) hl k aq]
    rfl
theorem M9 {ds:List (List UInt8)} {lo dom:List UInt8} {lit:Bool} (h:wC lo dom lit) (hf:Fits ds lo dom lit) (hl:dom.length < 4294967281) (k:Nat) (hk:dom.length + 80 < k):dZ.f k (aA lo) (aA dom) lit=some true:=by
 have h64:=hf.los
 unfold dZ.f
 rw [bO]
 exact Ho h hf hl k 0 aq (Nat.zero_le _)
theorem FZ {ds:List (List UInt8)} {lo dom:List UInt8} {lit:Bool} (hds:∀ d,d∈ds→lZ d) (h:wC lo dom lit) (hf:Fits ds lo dom lit) (hne:dom≠ []) (M:Nat) (hM:∀ d,d∈ds→d.length≤M) (hd:dom.length≤M) (hl:M < 4294967281) (k:Nat) (hk:M + 110 < k):
 fI.f k false (ds.map aA) (aA lo) (aA dom) lit=some true:=by
 have h20:=hf.many
 unfold fI.f
 rw [if_neg bR,toList_mk,toList_mk]
 rw [if_neg (by
  simp only [Bool.and_eq_true,beq_iff_eq]
  rintro ⟨_,e,_⟩
  exact hne e)]
 rw [M9 h hf aq k aq]
 simp only [Option.bind_some,if_true,List.length_map]
 rw [if_pos aq]
 rw [M8 (g:=fun _ =>false) (k0:=M + 4) (fun y hy k hk=>by
  obtain ⟨d,hd',rfl⟩:=List.mem_map.mp hy
  have:=hM d hd'
  unfold kQ.f
  rw [Sy d (hds d hd') (hf.each d hd') aq k aq]
  rfl) k kY kY]
 simp
theorem jY (a b:List UInt8):aA a ++ aA b=aA (a ++ b):=by
 apply ByteArray.ext
 rw [← Array.toList_inj]
 simp [aA]
theorem TD (l:List UInt8):zu (aA l)=aA (qL l):=by
 have e:kW (bytesOf (aA l))=oN (qL l):=by
  rw [FV]
  induction l with
  |nil=>rfl
  |cons b l ih=>
   have e1:qL (b :: l)=qB b ++ qL l:=rfl
   rw [e1,List.map_cons]
   show tW (b.toNat:Int) ++ kW (l.map fun b=>(b.toNat:Int))=oN (qB b ++ qL l)
   rw [ih]
   unfold oN
   rw [List.map_append]
   congr 1
   exact fJ (Q:=fun b=>tW (b.toNat:Int)=(qB b).map fun b=>(b.toNat:Int)) gG b
 unfold zu
 rw [e,MO]
theorem Sz (lo dom:List UInt8) (lit:Bool) (l:List UInt8):WZ (aA l) (aA dom) lit=aA (l ++ (if lit=true then 64 :: 91 :: (dom ++ [93]) else 64 :: dom)):=by
 unfold WZ
 cases lit with
 |true=>
  rw [if_pos rfl,if_pos rfl]
  show ((aA l ++ aA [64,91]) ++ aA dom) ++ aA [93]=_
  rw [jY,jY,jY]
  simp
 |false=>
  rw [if_neg bR,if_neg bR]
  show (aA l ++ aA [64]) ++ aA dom=_
  rw [jY,jY]
  simp
theorem Na {ds:List (List UInt8)} {lo dom:List UInt8} {lit:Bool} (h:wC lo dom lit) (hf:Fits ds lo dom lit) (hl:dom.length < 4294967281) (k:Nat) (hk:dom.length + 80 < k):iC.f k (aA lo) (aA dom) lit=some (aA (iW lo dom lit),0):=by
 have h64:=hf.los
 unfold iC.f
 rw [M9 h hf hl k hk]
 simp only [Option.bind_some,if_true]
 unfold aI.f
 have h1:=BV (aA lo) kj k 0 (by rw [yM];omega) (Nat.zero_le _)
 rw [yM] at h1
 rw [show (0:Int)=((0:Nat):Int) from rfl,h1]
 simp only [Option.bind_some]
 rw [if_pos ⟨kj,kj⟩]
 congr 2
 unfold iW pZ BZ
 by_cases hp:((fK iz 46 lo).1 && (fK iz 46 lo).2 == lo.length)=true
 ·rw [if_pos hp,if_pos (by
   simp only [Bool.and_eq_true,beq_iff_eq] at hp
   exact ⟨hp.1,by rw [bO,hp.2];simp⟩),Sz lo]
 ·rw [if_neg hp,if_neg (by
   intro h2
   apply hp
   simp only [Bool.and_eq_true,beq_iff_eq]
   refine ⟨h2.1,?_⟩
   have:=h2.2
   rw [bO] at this
   omega)]
  have e:Dr (aA lo)=aA (34 :: (qL lo ++ [34])):=by
   unfold Dr
   rw [TD]
   show (aA [34] ++ aA (qL lo)) ++ aA [34]=_
   rw [jY,jY]
   simp
  rw [e,Sz lo]
theorem F5:∀ (d:List UInt8) (ds:List (List UInt8)),64 :: Lib.join (d :: ds) [44,64]=fY (d :: ds)
 |d,[]=>by simp [Lib.join,fY,List.intercalate]
 |d,d2 :: ds=>by
  have ih:=F5 d2 ds
  have e:Lib.join (d :: d2 :: ds) [44,64]=d ++ 44 :: 64 :: Lib.join (d2 :: ds) [44,64]:=by
   unfold Lib.join
   simp [List.intercalate,List.intersperse]
  rw [e,ih]
  rfl
theorem Wy (d:List UInt8) (ds:List (List UInt8)):(⟨#[64]⟩:ByteArray) ++ joinL ((d :: ds).map aA) ⟨#[44,64]⟩=aA (fY (d :: ds)):=by
 have e:joinL ((d :: ds).map aA) ⟨#[44,64]⟩=aA (Lib.join (d :: ds) [44,64]):=by
  unfold joinL
  rw [List.map_map]
  have:((fun x:ByteArray=>x.data.toList) ∘aA)=id:=by
   funext l
   simp [aA]
  rw [this,List.map_id]
  rfl
 rw [e]
 show aA [64] ++ _=_
 rw [jY]
 exact congrArg aA (F5 d ds)
theorem Nb {ds:List (List UInt8)} {lo dom:List UInt8} {lit:Bool} (hds:∀ d,d∈ds→lZ d) (h:wC lo dom lit) (hf:Fits ds lo dom lit) (hne:dom≠ []) (M:Nat) (hM:∀ d,d∈ds→d.length≤M) (hd:dom.length≤M) (hl:M < 4294967281) (hw:(gw ds lo dom lit).length < 4294967281) (k:Nat) (hk:M + 110 < k):
 kX.f k false (ds.map aA) (aA lo) (aA dom) lit=some (aA (60 :: (gw ds lo dom lit ++ [62])),0):=by
 unfold kX.f
 rw [FZ hds h hf hne M hM hd hl k hk]
 simp only [Option.bind_some,if_true]
 rw [if_neg bR,if_neg (by rw [toList_mk];exact hne),Na h hf aq k aq]
 simp only [Option.bind_some]
 cases ds with
 |nil=>
  have hw':(iW lo dom lit).length < 4294967281:=hw
  rw [if_neg bn,if_pos kj]
  have e:(⟨#[60]⟩:ByteArray) ++ aA (iW lo dom lit)=aA (60 :: iW lo dom lit):=jY [60] _
  rw [e,if_pos (by rw [bO,List.length_cons];omega)]
  have e2:aA (60 :: iW lo dom lit) ++ (⟨#[62]⟩:ByteArray)=aA (60 :: (iW lo dom lit ++ [62])):=jY (60 :: iW lo dom lit) [62]
  rw [e2]
  rfl
 |cons d ds=>
  have hw':(fY (d :: ds) ++ 58 :: iW lo dom lit).length < 4294967281:=hw
  rw [List.length_append,List.length_cons] at hw'
  have e0:=Wy d ds
  have es: 1 + (joinL ((d :: ds).map aA) ⟨#[44,64]⟩).size=(fY (d :: ds)).length:=by
   have:=congrArg ByteArray.size e0
   rw [ByteArray.size_append,bO] at this
   exact this
  rw [if_pos bn]
  unfold strings_Join.f
  have h20:=hf.many
  rw [if_pos ⟨bn,kY,aq⟩]
  simp only [Option.bind_some]
  rw [if_pos aq,e0,if_pos kj]
  have e1:aA (fY (d :: ds)) ++ (⟨#[58]⟩:ByteArray)=aA (fY (d :: ds) ++ [58]):=jY _ [58]
  rw [e1,if_pos (by rw [bO,bO,List.length_append];simp;omega),jY]
  have e2:fY (d :: ds) ++ [58] ++ iW lo dom lit=gw (d :: ds) lo dom lit:=by
   show _=fY (d :: ds) ++ 58 :: iW lo dom lit
   simp
  rw [e2,if_pos kj]
  have e3:(⟨#[60]⟩:ByteArray) ++ aA (gw (d :: ds) lo dom lit)=aA (60 :: gw (d :: ds) lo dom lit):=jY [60] _
  rw [e3,if_pos (by rw [bO,List.length_cons];omega)]
  have e4:aA (60 :: gw (d :: ds) lo dom lit) ++ (⟨#[62]⟩:ByteArray)=aA (60 :: (gw (d :: ds) lo dom lit ++ [62])):=jY (60 :: gw (d :: ds) lo dom lit) [62]
  rw [e4]
theorem F6 {ds:List (List UInt8)} {lo dom:List UInt8} {lit:Bool} (hds:∀ d,d∈ds→lZ d) (h:wC lo dom lit) (hf:Fits ds lo dom lit) (M:Nat) (hM:∀ d,d∈ds→d.length≤M) (hd:dom.length≤M) (hw:(gw ds lo dom lit).length < 4294960000) (hne:gw ds lo dom lit≠ []) (k:Nat) (hk:M + 110 < k) (hk2:(gw ds lo dom lit).length + 20 < k) (more:List UInt8) (aqq:more.length + (gw ds lo dom lit).length < 4294960000) (hk3:more.length + (gw ds lo dom lit).length + 20 < k):
 bX.f k (aA (60 :: (gw ds lo dom lit ++ 62 :: more)))=some (false,ds.map aA,aA lo,aA dom,lit,(((gw ds lo dom lit).length + 2:Nat):Int),0):=by
 have h20:=hf.many
 have hi:=Pg hds h more
 have hdata:(aA (60 :: (gw ds lo dom lit ++ 62 :: more))).data.toList=60 :: (gw ds lo dom lit ++ 62 :: more):=rfl
 have hsz:(aA (60 :: (gw ds lo dom lit ++ 62 :: more))).size=(gw ds lo dom lit).length + more.length + 2:=by
  rw [bO,List.length_cons,List.length_append,List.length_cons]
  omega
 have hd1:(60 :: (gw ds lo dom lit ++ 62 :: more)).drop 1=gw ds lo dom lit ++ 62 :: more:=rfl
 have ag5:wB (60 :: (gw ds lo dom lit ++ 62 :: more))=false:=by
  unfold wB
  rw [hd1]
  cases hp:gw ds lo dom lit with
  |nil=>exact absurd hp hne
  |cons b l=>
   cases hb:(b == 62) with
   |false=>
    show ((60:UInt8) == 60 && (b == 62))=false
    rw [hb]
    rfl
   |true=>
    exfalso
    have e:b=62:=by simpa using hb
    rw [hp,e] at hi
    have hx:(gj (62 :: (l ++ 62 :: more))).1=true:=by
     have:=congrArg (·.1) hi
     exact this
    revert hx
    have ha:jU (62 :: (l ++ 62 :: more))=false:=by
     cases ha:jU (62 :: (l ++ 62 :: more)) with
     |false=>rfl
     |true=>
      exfalso
      unfold jU at ha
      simp only [Bool.and_eq_true,decide_eq_true_eq] at ha
      have h2:=ha.1.2
      rw [nH,toList_mk,List.take_succ_cons,List.map_cons] at h2
      have h3:fL 62=112:=(List.cons.inj (by simpa using h2:_=([112,111,115,116,109,97,115,116,101,114]:List UInt8))).1
      revert h3
      decide
    have hb1:(lX (62 :: (l ++ 62 :: more))).1=false:=by
     have hlo:(eX (62 :: (l ++ 62 :: more))).1=false:=by
      unfold eX
      rw [if_neg (show ¬ dh 34 (62 :: (l ++ 62 :: more))=true by simp [dh])]
      show (fK iz 46 _).1=false
      rw [lH]
      have:(iz (62 :: (l ++ 62 :: more))).1=false:=by
       unfold iz
       rw [List.takeWhile_cons_of_neg gG]
       rfl
      rw [this]
      rfl
     unfold lX
     rw [if_neg (by rw [hlo];decide)]
    unfold gj
    rw [if_neg (by rw [ha];decide),if_neg (show ¬ dh 64 (62 :: (l ++ 62 :: more))=true by simp [dh])]
    simp only
    rw [hb1]
    decide
 have aok:GF (60 :: (gw ds lo dom lit ++ 62 :: more))=true:=by
  unfold GF
  rw [hd1,hi]
  simp only
  have e:(60 :: (gw ds lo dom lit ++ 62 :: more)).drop (1 + (gw ds lo dom lit).length)=62 :: more:=by
   rw [Nat.add_comm,List.drop_succ_cons,List.drop_left]
  rw [e]
  rfl
 rw [uq _ aq k aq (by rw [hdata];exact ag5) (by rw [hdata];exact aok)]
 rw [hdata,hd1,hi]
 simp only
 rw [aag k _ _ ds lo dom lit hf M hM hd aq]
 rw [Nat.add_comm 2]
end Go.Proofs.YtokpnfljjjjikaaGreatDoor.kH
namespace Go.Proofs.YtokpnfljjjjikaaGreatDoor.kH
open Go.RowKit Go.Proofs.YtokpnfljjjjikaaGreatDoor Go.Proofs.YtokpnfljjjjikaaGreatDoor.nX Go.Proofs.aj.bW Go.Proofs.aj.dz
set_option linter.unusedVariables false
set_option linter.unusedSimpArgs false
def Bq (b:UInt8):UInt8:=UInt8.ofNat (zM 97 122 (-32) (b.toNat:Int)).toNat
theorem SA (f:UInt8→UInt8) (a b d:Int) (hf:∀ c:UInt8,UInt8.ofNat (zM a b d (c.toNat:Int)).toNat=f c) (l:List UInt8) (hl:l.length≤9223372036854775807):gM.f (aA l) a b d=some (aA (l.map f)):=by
 unfold gM.f
 rw [if_pos zL]
 unfold gM.g strOfNums
 rw [show bytesOf (aA l)=l.map fun b=>(b.toNat:Int) from rfl,List.map_map,List.map_map]
 congr 1
 show aA _=aA _
 congr 1
 exact List.map_congr_left fun c _ =>hf c
theorem uu (l:List UInt8) (hl:l.length≤9223372036854775807):cB.f (aA l)=some (aA (l.map Bq)):=by
 unfold cB.f
 rw [SA Bq 97 122 (-32) (fun _ =>rfl) l hl]
 rfl
theorem Wz (c:UInt8):UInt8.ofNat (zM 65 90 32 (c.toNat:Int)).toNat=fL c:=fJ (Q:=fun c=>UInt8.ofNat (zM 65 90 32 (c.toNat:Int)).toNat=fL c) gG c
theorem Hp (l:List UInt8) (hl:l.length≤9223372036854775807):gU.f (aA l)=some (aA (l.map fL)):=by
 unfold gU.f
 rw [SA fL 65 90 32 Wz l hl]
 rfl
theorem ag6 (b:UInt8):Bq (Bq b)=Bq b:=fJ (Q:=fun b=>Bq (Bq b)=Bq b) gG b
theorem ag7 (b:UInt8):Bq b=61→b=61:=fJ (Q:=fun b=>Bq b=61→b=61) gG b
theorem ag8 (b:UInt8):Bq b=32→b=32:=fJ (Q:=fun b=>Bq b=32→b=32) gG b
theorem Hq (l:List UInt8):(l.map Bq).map Bq=l.map Bq:=by
 rw [List.map_map]
 exact List.map_congr_left fun b _ =>ag6 b
theorem WA {c:UInt8} (hc:∀ b,Bq b=c→b=c) {l:List UInt8} (h:c ∉ l):c ∉ l.map Bq:=by
 intro hm
 obtain ⟨b,hb,e⟩:=List.mem_map.mp hm
 exact h (hc b e ▸ hb)
theorem SB (c:UInt8):Lib.cut [] [c]=([],[],false):=by simp [Lib.cut,Lib.index]
theorem SC (c:UInt8) (l:List UInt8):Lib.cut (c :: l) [c]=([],l,true):=by simp [Lib.cut,Lib.index,List.isPrefixOf]
theorem F7 (c b:UInt8) (l:List UInt8) (h:b≠c):Lib.cut (b :: l) [c]=(b :: (Lib.cut l [c]).1,(Lib.cut l [c]).2.1,(Lib.cut l [c]).2.2):=by
 have hb:(c == b)=false:=beq_eq_false_iff_ne.mpr (Ne.symm h)
 have hi:=Lib.index_ge l [c]
 have e1:Lib.index (b :: l) [c]=if Lib.index l [c] == -1 then -1 else Lib.index l [c] + 1:=by
  show (if ([c]:List UInt8).isPrefixOf (b :: l) then 0 else if Lib.index l [c] == -1 then -1 else Lib.index l [c] + 1)=_
  simp [List.isPrefixOf,hb]
 obtain ⟨i,hii⟩:∃ i,Lib.index l [c]=i:=⟨_,rfl⟩
 rw [hii] at hi e1
 by_cases hm:i= -1
 ·subst hm
  have e3:Lib.index (b :: l) [c]= -1:=e1
  unfold Lib.cut
  rw [e3,hii]
  simp
 ·obtain ⟨j,rfl⟩:∃ j:Nat,i=j:=⟨i.toNat,aq⟩
  have e3:Lib.index (b :: l) [c]=(j:Int) + 1:=by rw [e1,if_neg (by rw [beq_iff_eq];exact hm)]
  unfold Lib.cut
  rw [e3,hii,if_pos aq,if_pos aq,show ((j:Int) + 1).toNat=j + 1 by omega]
  simp
theorem sI (c:UInt8):∀ l:List UInt8,c ∉ (Lib.cut l [c]).1∧l=(Lib.cut l [c]).1 ++ (if (Lib.cut l [c]).2.2=true then c :: (Lib.cut l [c]).2.1 else [])
 | []=>by rw [SB];simp
 |b :: l=>by
  by_cases h:b=c
  ·subst h
   rw [SC]
   simp
  ·obtain ⟨h1,h2⟩:=sI c l
   rw [F7 c b l h]
   refine ⟨fun hm=>?_,?_⟩
   ·rcases List.mem_cons.mp hm with e|e
    ·exact h e.symm
    ·exact h1 e
   ·show b :: l=b :: ((Lib.cut l [c]).1 ++ _)
    rw [← h2]
theorem ED (c:UInt8) (r:List UInt8):∀ w:List UInt8,c ∉ w→Lib.cut (w ++ c :: r) [c]=(w,r,true)
 | [],_ =>SC c r
 |b :: w,h=>by
  have hb:b≠c:=fun e=>h (e ▸ List.mem_cons_self ..)
  rw [List.cons_append,F7 c b _ hb,ED c r w (fun hm=>h (List.mem_cons_of_mem _ hm))]
theorem yN (c:UInt8):∀ w:List UInt8,c ∉ w→Lib.cut w [c]=(w,[],false)
 | [],_ =>SB c
 |b :: w,h=>by
  have hb:b≠c:=fun e=>h (e ▸ List.mem_cons_self ..)
  rw [F7 c b _ hb,yN c w (fun hm=>h (List.mem_cons_of_mem _ hm))]
theorem K9 (l:List UInt8) (c:UInt8) (hl:l.length < 4294967281):strings_Cut.f (aA l) ⟨#[c]⟩=some (aA (Lib.cut l [c]).1,aA (Lib.cut l [c]).2.1,(Lib.cut l [c]).2.2):=by
 unfold strings_Cut.f
 rw [if_pos zL]
 rfl
def EE:List (List UInt8)→List UInt8
 | []=>[]
 |w :: ws=>32 :: (w ++ EE ws)
theorem CO (w:List UInt8) (h:(32:UInt8) ∉ w) (r:List UInt8):∀ ps,pieces 32 r=ps→∃ p ps',pieces 32 r=p :: ps'∧pieces 32 (w ++ r)=(w ++ p) :: ps':=by
 intro ps hps
 obtain ⟨p,ps',hp⟩:∃ p ps',pieces 32 r=p :: ps':=by
  cases hq:pieces 32 r with
  |nil=>exact absurd hq (rS 32 r)
  |cons p ps'=>exact ⟨p,ps',rfl⟩
 refine ⟨p,ps',hp,?_⟩
 clear hps
 induction w with
 |nil=>exact hp
 |cons b w ih=>
  have hb:(b == 32)=false:=beq_eq_false_iff_ne.mpr fun e=>h (e ▸ List.mem_cons_self ..)
  have ih:=ih (fun hm=>h (List.mem_cons_of_mem _ hm))
  rw [List.cons_append]
  unfold pieces
  rw [hb,ih]
  rfl
theorem Nc (ws:List (List UInt8)):∀ w,(32:UInt8) ∉ w→(∀ x,x∈ws→(32:UInt8) ∉ x)→pieces 32 (w ++ EE ws)=w :: ws:=by
 induction ws with
 |nil=>
  intro w h _
  obtain ⟨p,ps,h1,h2⟩:=CO w h [] _ rfl
  have h3:pieces 32 []= [[]]:=rfl
  rw [h3] at h1
  injection h1 with h1 h4
  subst h1
  subst h4
  simpa [EE] using h2
 |cons x ws ih=>
  intro w h hx
  obtain ⟨p,ps,h1,h2⟩:=CO w h (EE (x :: ws)) _ rfl
  have h3:pieces 32 (EE (x :: ws))= [] :: (x :: ws):=by
   show pieces 32 (32 :: (x ++ EE ws))=_
   rw [← ih x (hx x (List.mem_cons_self ..)) (fun y hy=>hx y (List.mem_cons_of_mem _ hy))]
   rfl
  rw [h3] at h1
  injection h1 with h1 h4
  subst h1
  subst h4
  simpa using h2
theorem TE (ws:List (List UInt8)) (h:∀ x,x∈ws→(32:UInt8) ∉ x):pieces 32 (EE ws)= [] :: ws:=by
 have:=Nc ws [] bn h
 simpa using this
theorem F8:∀ (l p:List UInt8) (ps:List (List UInt8)),pieces 32 l=p :: ps→l=p ++ EE ps∧(32:UInt8) ∉ p∧∀ x,x∈ps→(32:UInt8) ∉ x
 | [],p,ps,h=>by
   have h3:pieces 32 []= [[]]:=rfl
   rw [h3] at h
   injection h with h1 h4
   subst h1
   subst h4
   exact ⟨rfl,bn,fun x hx=>by cases hx⟩
 |b :: l,p,ps,h=>by
  obtain ⟨q,qs,hq⟩:∃ q qs,pieces 32 l=q :: qs:=by
   cases hq:pieces 32 l with
   |nil=>exact absurd hq (rS 32 l)
   |cons q qs=>exact ⟨q,qs,rfl⟩
  obtain ⟨h1,h2,h3⟩:=F8 l q qs hq
  unfold pieces at h
  rw [hq] at h
  by_cases hb:b=32
  ·rw [if_pos (by rw [hb];rfl)] at h
   injection h with e1 e2
   subst e1
   subst e2
   refine ⟨?_,bn,fun x hx=>?_⟩
   ·rw [hb,h1]
    rfl
   ·rcases List.mem_cons.mp hx with rfl|hx
    ·exact h2
    ·exact h3 x hx
  ·rw [if_neg (by simpa using hb)] at h
   injection h with e1 e2
   subst e1
   subst e2
   refine ⟨by rw [h1];rfl,fun hm=>?_,h3⟩
   rcases List.mem_cons.mp hm with e|e
   ·exact hb e.symm
   ·exact h2 e
def jr (x:List UInt8):gP:=⟨aA ((Lib.cut x [61]).1.map Bq),aA (Lib.cut x [61]).2.1,(Lib.cut x [61]).2.2⟩
def jZ (p:gP):List UInt8:=p.f0.data.toList ++ (if p.f2=true then 61 :: p.f1.data.toList else [])
theorem F9 (x:List UInt8):jZ (jr x)=(Lib.cut x [61]).1.map Bq ++ (if (Lib.cut x [61]).2.2=true then 61 :: (Lib.cut x [61]).2.1 else []):=rfl
theorem Nf (x:List UInt8):(jZ (jr x)).length=x.length:=by
 rw [F9]
 have h:=congrArg List.length (sI 61 x).2
 rw [List.length_append] at h ⊢
 rw [List.length_map]
 exact h.symm
theorem Ng (x:List UInt8):jr (jZ (jr x))=jr x:=by
 have h1:=WA ag7 (sI 61 x).1
 rw [F9]
 by_cases hb:(Lib.cut x [61]).2.2=true
 ·rw [if_pos hb]
  unfold jr
  rw [ED 61 _ _ h1]
  simp only
  rw [Hq,hb]
 ·rw [if_neg hb,List.append_nil]
  have h2:(Lib.cut x [61]).2.1= []:=by
   unfold Lib.cut at hb ⊢
   split
   ·rename_i h;rw [if_pos h] at hb;exact absurd rfl hb
   ·rfl
  unfold jr
  rw [yN 61 _ h1,h2]
  simp only
  rw [Hq,Bool.eq_false_iff.mpr hb]
theorem TF (x:List UInt8) (h:(32:UInt8) ∉ x):(32:UInt8) ∉ jZ (jr x):=by
 have h1:=(sI 61 x).2
 rw [F9]
 have h2:(32:UInt8) ∉ (Lib.cut x [61]).1∧(32:UInt8) ∉ (if (Lib.cut x [61]).2.2=true then 61 :: (Lib.cut x [61]).2.1 else []):=by
  refine ⟨fun hm=>h ?_,fun hm=>h ?_⟩
  ·rw [h1];exact List.mem_append_left _ hm
  ·rw [h1];exact List.mem_append_right _ hm
 intro hm
 rcases List.mem_append.mp hm with hm|hm
 ·exact WA ag8 h2.1 hm
 ·exact h2.2 hm
def sJ (k:Nat) (p:gP):Prop:=bP.f k p.f0 p.f1 p.f2=some true
theorem TG (x:List UInt8):(Lib.cut x [61]).1.length≤x.length:=by
 have h:=congrArg List.length (sI 61 x).2
 rw [List.length_append] at h
 omega
theorem xB (k:Nat) (x:List UInt8) (hx:x.length < 4294967281) (xs:List ByteArray) (ps:List gP):
 bV.l k (aA x :: xs) ps=(bP.f k (jr x).f0 (jr x).f1 (jr x).f2).bind fun b=>if b=true then bV.l k xs (ps ++ [jr x]) else some none:=by
 show ((strings_Cut.f (aA x) ⟨#[61]⟩).bind fun t=>(cB.f t.1).bind fun g=>(bP.f k g t.2.1 t.2.2).bind fun b=>if b=true then bV.l k xs (ps ++ [⟨g,t.2.1,t.2.2⟩]) else some none)=_
 rw [K9 x 61 hx]
 show ((cB.f (aA (Lib.cut x [61]).1)).bind fun g=>_)=_
 rw [uu _ (by have:=TG x;omega)]
 rfl
theorem Ga (k:Nat):∀ (xs:List (List UInt8)) (ps P:List gP),(∀ x,x∈xs→x.length < 4294967281)→bV.l k (xs.map aA) ps=some (some P)→P=ps ++ xs.map jr∧∀ x,x∈xs→sJ k (jr x)
 | [],ps,P,_,h=>by
   have h1:=Option.some.inj (Option.some.inj h)
   exact ⟨by rw [← h1];simp,fun x hx=>by cases hx⟩
 |x :: xs,ps,P,hx,h=>by
  rw [List.map_cons,xB k x (hx x (List.mem_cons_self ..))] at h
  obtain ⟨b,h1,h2⟩:=Option.bind_eq_some_iff.mp h
  cases b with
  |false=>
   rw [if_neg bR] at h2
   cases h2
  |true=>
   rw [if_pos rfl] at h2
   obtain ⟨h3,h4⟩:=Ga k xs _ P (fun y hy=>hx y (List.mem_cons_of_mem _ hy)) h2
   refine ⟨by rw [h3];simp,fun y hy=>?_⟩
   rcases List.mem_cons.mp hy with rfl|hy
   ·exact h1
   ·exact h4 y hy
theorem Gb (k:Nat):∀ (xs:List (List UInt8)) (ps:List gP),(∀ x,x∈xs→x.length < 4294967281)→(∀ x,x∈xs→sJ k (jr x))→bV.l k (xs.map aA) ps=some (some (ps ++ xs.map jr))
 | [],ps,_,_ =>by simp [bV.l]
 |x :: xs,ps,hx,h=>by
  rw [List.map_cons,xB k x (hx x (List.mem_cons_self ..))]
  have h1:bP.f k (jr x).f0 (jr x).f1 (jr x).f2=some true:=h x (List.mem_cons_self ..)
  rw [h1]
  simp only [Option.bind_some,if_true]
  rw [Gb k xs _ (fun y hy=>hx y (List.mem_cons_of_mem _ hy)) (fun y hy=>h y (List.mem_cons_of_mem _ hy))]
  simp
theorem TH (ws vs:List (List UInt8)) (h:ws.map List.length=vs.map List.length):(EE ws).length=(EE vs).length:=by
 induction ws generalizing vs with
 |nil=>
  cases vs with
  |nil=>rfl
  |cons v vs=>simp at h
 |cons w ws ih=>
  cases vs with
  |nil=>simp at h
  |cons v vs=>
   simp only [List.map_cons,List.cons.injEq] at h
   have:=ih vs h.2
   show (32 :: (w ++ EE ws)).length=(32 :: (v ++ EE vs)).length
   simp only [List.length_cons,List.length_append]
   omega
def j3 (P:List gP):List UInt8:=EE (P.map jZ)
theorem Cb (k:Nat) (l:List UInt8) (hl:l.length < 4294967281) (hne:l≠ []):bV.f k (aA l)=(bV.l k (((pieces 32 l).map aA).drop 1) []).bind fun o=>some (bV.e ((pieces 32 l).map aA) o):=by
 unfold bV.f
 rw [if_neg (by rw [toList_mk];cases l with|nil=>exact absurd rfl hne|cons b l=>simp),qz (aA l) 32 zL]
 rfl
theorem CP (k:Nat) (xs:List (List UInt8)) (h32:∀ x,x∈xs→(32:UInt8) ∉ x) (hl:(EE xs).length < 4294967281) (h:∀ x,x∈xs→sJ k (jr x)):bV.f k (aA (EE xs))=some (xs.map jr,true):=by
 have hxl:∀ (ws:List (List UInt8)) (x:List UInt8),x∈ws→x.length < (EE ws).length:=by
  intro ws
  induction ws with
  |nil=>intro x hx;cases hx
  |cons w ws ih=>
   intro x hx
   show _ < (32 :: (w ++ EE ws)).length
   simp only [List.length_cons,List.length_append]
   rcases List.mem_cons.mp hx with rfl|hx
   ·omega
   ·have:=ih x hx
    omega
 cases xs with
 |nil=>
  unfold bV.f
  rw [if_pos (by rw [toList_mk];rfl)]
  rfl
 |cons x xs=>
  rw [Cb k _ hl (by simp [EE]),TE _ h32]
  show ((bV.l k ((x :: xs).map aA) []).bind fun o=>some (bV.e (aA [] :: (x :: xs).map aA) o))=_
  rw [Gb k (x :: xs) [] (fun y hy=>by have:=hxl _ y hy;omega) h]
  show some (bV.e (aA [] :: (x :: xs).map aA) (some ([] ++ (x :: xs).map jr)))=_
  unfold bV.e
  simp only [List.nil_append,List.getD_cons_zero]
  rw [toList_mk]
  rfl
theorem La (k:Nat) (l:List UInt8) (hl:l.length < 4294967281) (P:List gP) (h:bV.f k (aA l)=some (P,true)):
 (j3 P).length=l.length∧bV.f k (aA (j3 P))=some (P,true)∧(∀ p,p∈P→sJ k p)∧P.length≤l.length:=by
 by_cases hne:l= []
 ·subst hne
  unfold bV.f at h
  rw [if_pos (by rw [toList_mk];rfl)] at h
  simp only [Option.some.injEq,Prod.mk.injEq] at h
  obtain ⟨rfl,_⟩:=h
  refine ⟨rfl,?_,fun p hp=>(by cases hp),bn⟩
  unfold bV.f
  rw [if_pos (by rw [toList_mk];rfl)]
 ·rw [Cb k l hl hne] at h
  obtain ⟨p,ps,hp⟩:∃ p ps,pieces 32 l=p :: ps:=by
   cases hq:pieces 32 l with
   |nil=>exact absurd hq (rS 32 l)
   |cons p ps=>exact ⟨p,ps,rfl⟩
  obtain ⟨e1,e2,e3⟩:=F8 l p ps hp
  rw [hp] at h
  obtain ⟨o,h1,h2⟩:=Option.bind_eq_some_iff.mp h
  have h1':bV.l k (ps.map aA) []=some o:=h1
  have hlen:∀ x,x∈ps→x.length < 4294967281:=fun x hx=>by
   have:=FU 32 l x (by rw [hp];exact List.mem_cons_of_mem _ hx)
   omega
  cases o with
  |none=>
   have h3:=Option.some.inj h2
   unfold bV.e at h3
   simp at h3
  |some Q=>
   obtain ⟨h3,h4⟩:=Ga k ps [] Q hlen h1'
   rw [List.nil_append] at h3
   subst h3
   have h5:=Option.some.inj h2
   unfold bV.e at h5
   simp only [Prod.mk.injEq] at h5
   obtain ⟨h6,h7⟩:=h5
   subst h6
   have hpe:p= []:=by
    rw [List.map_cons,List.getD_cons_zero,toList_mk] at h7
    simpa using h7
   subst hpe
   rw [List.nil_append] at e1
   have hw:j3 (ps.map jr)=EE (ps.map fun x=>jZ (jr x)):=by
    unfold j3
    rw [List.map_map]
    rfl
   have abt:(j3 (ps.map jr)).length=l.length:=by
    rw [hw]
    rw [e1]
    apply TH
    rw [List.map_map]
    exact List.map_congr_left fun x _ =>Nf x
   refine ⟨abt,?_,fun q hq=>?_,?_⟩
   ·have hb:=CP k (ps.map fun x=>jZ (jr x)) (fun y hy=>by
     obtain ⟨x,hx,rfl⟩:=List.mem_map.mp hy
     exact TF x (e3 x hx)) (by rw [← hw,abt];exact hl) (fun y hy=>by
     obtain ⟨x,hx,rfl⟩:=List.mem_map.mp hy
     show sJ k (jr (jZ (jr x)))
     rw [Ng]
     exact h4 x hx)
    rw [hw,hb,List.map_map]
    congr 2
    exact List.map_congr_left fun x _ =>Ng x
   ·obtain ⟨x,hx,rfl⟩:=List.mem_map.mp hq
    exact h4 x hx
   ·rw [List.length_map]
    have:=lK 32 l
    have h8:=List.count_le_length (a:=(32:UInt8)) (l:=l)
    rw [hp,List.length_cons] at this
    omega
end Go.Proofs.YtokpnfljjjjikaaGreatDoor.kH
namespace Go.Proofs.YtokpnfljjjjikaaGreatDoor.kH
open Go.RowKit Go.Proofs.YtokpnfljjjjikaaGreatDoor Go.Proofs.YtokpnfljjjjikaaGreatDoor.nX Go.Proofs.aj.bW Go.Proofs.aj.dz
set_option linter.unusedVariables false
set_option linter.unusedSimpArgs false
theorem zB (k:Nat):fI.f k true [] ⟨#[]⟩ ⟨#[]⟩ false=some true:=by
 unfold fI.f
 rw [if_pos rfl,if_pos (by rfl)]
 decide +kernel
theorem Gc (k:Nat):kX.f k true [] ⟨#[]⟩ ⟨#[]⟩ false=some (aA [60,62],0):=by
 unfold kX.f
 rw [zB]
 rfl
theorem xC (k:Nat):fI.f k false [] lA ⟨#[]⟩ false=some true:=by
 unfold fI.f
 rw [if_neg bR,if_pos gG]
 rfl
def ud:List UInt8:=[60,112,111,115,116,109,97,115,116,101,114,62]
theorem CQ (k:Nat):kX.f k false [] lA ⟨#[]⟩ false=some (aA ud,0):=by
 unfold kX.f
 rw [xC]
 simp only [Option.bind_some,if_true]
 rw [if_neg bR,if_pos gG]
 rfl
theorem Nh (k:Nat) (hk: 20 < k) (s:ByteArray) (q:Int):bX.j0 k false s q false [] lA ⟨#[]⟩ false=some (false,[],lA,⟨#[]⟩,false,q,0):=by
 obtain ⟨k,rfl⟩:∃ k',k=k' + 1:=⟨k - 1,aq⟩
 have hw:eF.f k lA ⟨#[]⟩ false=some true:=by
  unfold eF.f
  rw [if_pos gG,if_neg bR,ur ⟨#[]⟩ k (show 0 + 2 < k by omega),show iU ⟨#[]⟩=true from by decide +kernel]
  rfl
 rw [bX.j0,if_neg bR,hw]
 simp only [Option.bind_some,if_true]
 rw [if_neg bR,FY (g:=fun _ =>false) (k0:=0) (fun y hy=>by cases hy) k sQ bn]
 rfl
theorem Pm (t:List UInt8):jU (112 :: 111 :: 115 :: 116 :: 109 :: 97 :: 115 :: 116 :: 101 :: 114 :: 62 :: t)=true:=by
 have h1:(cC.g (aA ([112,111,115,116,109,97,115,116,101,114]:List UInt8))).toList == ([112,111,115,116,109,97,115,116,101,114]:List UInt8):=by decide +kernel
 unfold jU
 have h2:(112 :: 111 :: 115 :: 116 :: 109 :: 97 :: 115 :: 116 :: 101 :: 114 :: 62 :: t).take 10=([112,111,115,116,109,97,115,116,101,114]:List UInt8):=rfl
 have h3:(112 :: 111 :: 115 :: 116 :: 109 :: 97 :: 115 :: 116 :: 101 :: 114 :: 62 :: t).drop 10=(62 :: t:List UInt8):=rfl
 rw [h2,h3,h1,decide_eq_true zJ]
 rfl
theorem CR (t:List UInt8) (ht:t.length < 4294960000) (k:Nat) (hk:t.length + 40 < k):bX.f k (aA (ud ++ t))=some (false,[],lA,⟨#[]⟩,false,12,0):=by
 have hd:(aA (ud ++ t)).data.toList=60 :: 112 :: 111 :: 115 :: 116 :: 109 :: 97 :: 115 :: 116 :: 101 :: 114 :: 62 :: t:=rfl
 have h:gj (112 :: 111 :: 115 :: 116 :: 109 :: 97 :: 115 :: 116 :: 101 :: 114 :: 62 :: t)=(true,[],lA,⟨#[]⟩,false,10):=by
  unfold gj
  rw [if_pos (Pm t)]
 have hd1:(60 :: 112 :: 111 :: 115 :: 116 :: 109 :: 97 :: 115 :: 116 :: 101 :: 114 :: 62 :: t:List UInt8).drop 1=112 :: 111 :: 115 :: 116 :: 109 :: 97 :: 115 :: 116 :: 101 :: 114 :: 62 :: t:=rfl
 have hsz:(aA (ud ++ t)).size=t.length + 12:=by
  rw [bO,List.length_append,Nat.add_comm]
  rfl
 rw [uq _ aq k aq (by rw [hd];rfl) (by
  rw [hd]
  unfold GF
  rw [hd1,h]
  rfl),hd,hd1,h]
 exact Nh k aq _ _
theorem adi (ds:List (List UInt8)) (d:List UInt8) (h:d∈ds):d.length≤(fY ds).length:=by
 induction ds with
 |nil=>cases h
 |cons e ds ih=>
  cases ds with
  |nil=>
   rw [List.mem_singleton.mp h]
   show _≤(64 :: e).length
   simp
  |cons e2 ds=>
   have e0:(fY (e :: e2 :: ds)).length=e.length + (fY (e2 :: ds)).length + 2:=by
    show (64 :: (e ++ 44 :: fY (e2 :: ds))).length=_
    rw [List.length_cons,List.length_append,List.length_cons]
    omega
   rcases List.mem_cons.mp h with rfl|h
   ·omega
   ·have:=ih h
    omega
theorem Br (ds:List (List UInt8)) (lo dom:List UInt8) (lit:Bool):(∀ d,d∈ds→d.length≤(gw ds lo dom lit).length)∧dom.length + 1≤(gw ds lo dom lit).length:=by
 have hb:dom.length + 1≤(iW lo dom lit).length:=by
  unfold iW
  rw [List.length_append]
  cases lit with
  |true=>rw [if_pos rfl,List.length_cons,List.length_cons,List.length_append];omega
  |false=>rw [if_neg bR,List.length_cons];omega
 cases ds with
 |nil=>exact ⟨fun d hd=>(by cases hd),hb⟩
 |cons e ds=>
  have e0:(gw (e :: ds) lo dom lit).length=(fY (e :: ds)).length + (iW lo dom lit).length + 1:=by
   show (fY (e :: ds) ++ 58 :: iW lo dom lit).length=_
   rw [List.length_append,List.length_cons]
   omega
  refine ⟨fun d hd=>?_,aq⟩
  have:=adi _ d hd
  omega
structure WB (a:Bool) (R:List ByteArray) (lo dom:ByteArray) (lit:Bool) (n:Nat) (t:List UInt8):Prop where
 le:t.length≤n
 rt:∀ k,3000000≤k→fI.f k a R lo dom lit=some true
 pr:∀ k,3000000≤k→kX.f k a R lo dom lit=some (aA t,0)
 rd:∀ k,3000000≤k→∀ more:List UInt8,more.length≤100000→bX.f k (aA (t ++ more))=some (a,R,lo,dom,lit,(t.length:Int),0)
 ne: 2≤t.length
theorem Pn (k:Nat) (hk: 3000000≤k) (s:ByteArray) (hs:s.size≤100000) (a:Bool) (R:List ByteArray) (lo dom:ByteArray) (lit:Bool) (q:Int) (h:bX.f k s=some (a,R,lo,dom,lit,q,0)):
 ∃ (n:Nat) (t:List UInt8),q=(n:Int)∧n≤s.size∧WB a R lo dom lit n t:=by
 have hlen:=dI s
 by_cases hn:∃ n,FJ s.data.toList n
 case neg=>
  rw [Ca s aq k aq (fun n h=>hn ⟨n,h⟩)] at h
  simp only [K7,Option.some.injEq,Prod.mk.injEq] at h
  exact absurd h.2.2.2.2.2.2 bR
 obtain ⟨n,hn⟩:=hn
 have hb:=Tt hn
 rcases hn with ⟨h1,rfl⟩|⟨h0,h1,rfl⟩
 ·rw [sH s aq k h1] at h
  simp only [K8,Option.some.injEq,Prod.mk.injEq] at h
  obtain ⟨rfl,rfl,rfl,rfl,rfl,rfl,_⟩:=h
  exact ⟨2,[60,62],rfl,aq,⟨bn,fun k hk=>zB _,fun k hk=>Gc _,fun k hk more hm=>sH _ (by rw [bO];simp;omega) k (by rfl),bn⟩⟩
 ·rw [uq s aq k aq h0 h1] at h
  have hy:=h1
  unfold GF at hy
  simp only [Bool.and_eq_true] at hy
  obtain ⟨⟨y1,y2⟩,y3⟩:=hy
  have hdl:(s.data.toList.drop 1).length < 4294967281:=by rw [List.length_drop];omega
  by_cases ha:jU (s.data.toList.drop 1)=true
  ·have hi:gj (s.data.toList.drop 1)=(true,[],lA,⟨#[]⟩,false,10):=by
    unfold gj
    rw [if_pos ha]
   rw [hi] at h hb
   simp only at h hb
   rw [Nh _ aq] at h
   simp only [Option.some.injEq,Prod.mk.injEq] at h
   obtain ⟨rfl,rfl,rfl,rfl,rfl,rfl,_⟩:=h
   exact ⟨12,ud,rfl,aq,⟨by simp [ud],fun k hk=>xC _,fun k hk=>CQ _,fun k hk more hm=>CR more aq k aq,by simp [ud]⟩⟩
  ·obtain ⟨ds,lo2,Po,Pp,d1,d2,d3,d4,d5,d6⟩:=Wx _ hdl (Bool.eq_false_iff.mpr ha) y2
   obtain ⟨w1,w2⟩:=Br ds lo2 Po Pp
   obtain ⟨m,hm⟩:∃ m,(gj (s.data.toList.drop 1)).2.2.2.2.2=m:=⟨_,rfl⟩
   rw [hm] at d3 d4 hb
   rw [d3] at h
   simp only at h
   have hds:ds.length≤1048600:=by
    have h1:=(xw (s.data.toList.drop 1)).1
    rw [d3] at h1
    simp only [List.length_map,List.length_drop] at h1
    omega
   rcases ag4 k s ((2 + m:Nat):Int) ds lo2 Po Pp 1048600 (fun d hd=>Nat.le_trans (w1 d hd) aq) aq aq aq with ⟨hf,hj⟩|hj
   ·have h:=hj.symm.trans h
    simp only [Option.some.injEq,Prod.mk.injEq] at h
    obtain ⟨rfl,rfl,rfl,rfl,rfl,rfl,_⟩:=h
    have hne:gw ds lo2 Po Pp≠ []:=by
     intro e
     rw [e] at w2
     simp at w2
    have hlt:(60 :: (gw ds lo2 Po Pp ++ [62])).length=(gw ds lo2 Po Pp).length + 2:=by
     rw [List.length_cons,List.length_append]
     rfl
    refine ⟨2 + m,60 :: (gw ds lo2 Po Pp ++ [62]),rfl,aq,⟨aq,fun k hk=>FZ d1 d2 hf d5 1048600 (fun d hd=>Nat.le_trans (w1 d hd) aq) aq aq _ aq,fun k hk=>Nb d1 d2 hf d5 1048600 (fun d hd=>Nat.le_trans (w1 d hd) aq) aq aq aq _ aq,fun k hk more hm=>?_,aq⟩⟩
    have hpb:=F6 d1 d2 hf 1048600 (fun d hd=>Nat.le_trans (w1 d hd) aq) aq aq hne k aq aq more aq aq
    rw [hlt]
    rw [← hpb]
    congr 2
    simp
   ·have h:=hj.symm.trans h
    simp only [Option.some.injEq,Prod.mk.injEq] at h
    exact absurd h.2.2.2.2.2.2 bR
theorem lM (d:List UInt8) (hl:d.length < 4294967281) (k:Nat) (hk:d.length + 3 < k):fk.f k (aA d)=some (decide (fK fo 46 d=(true,d.length)) && iU (aA d)):=by
 unfold fk.f
 have h1:=domain_eq (aA d) kj k 0 (by rw [yM];omega) (Nat.zero_le _)
 rw [yM] at h1
 rw [show (0:Int)=((0:Nat):Int) from rfl,h1]
 simp only [Option.bind_some,Nat.zero_add]
 have e1:(oM d).1=(fK fo 46 d).1:=rfl
 have e2:(oM d).2.2=(fK fo 46 d).2:=rfl
 rw [e1,e2]
 by_cases h2:(fK fo 46 d).1=true
 ·rw [if_pos h2]
  by_cases h3:(fK fo 46 d).2=d.length
  ·rw [if_pos kj,ur _ k kj,decide_eq_true (Prod.ext h2 h3)]
   rfl
  ·rw [if_neg kj,decide_eq_false (fun e=>h3 (by rw [e]))]
   rfl
 ·rw [if_neg h2,decide_eq_false (fun e=>h2 (by rw [e]))]
  rfl
theorem TI (l:List UInt8) (hl:l.length < 4294967281):iU (aA (l.map fL))=iU (aA l):=by
 have h1:∀ k,eW.f k (aA (l.map fL))=eW.f k (aA l):=by
  intro k
  unfold eW.f
  rw [bO,bO,List.length_map,qz (aA (l.map fL)) 46 (by rw [bO,List.length_map];exact hl),qz (aA l) 46 zL]
  have hp:pieces 46 (aA (l.map fL)).data.toList=(pieces 46 l).map fun p=>p.map fL:=wh Pc l
  have hp2:(aA l).data.toList=l:=rfl
  rw [hp,hp2]
  have hrun:∀ (j:Nat) (xs ys:List ByteArray) (i:Int),xs.map ByteArray.size=ys.map ByteArray.size→aD.l0 j xs (xs.length:Int) i=aD.l0 j ys (ys.length:Int) i:=by
   intro j
   induction j with
   |zero=>intro xs ys i _;rfl
   |succ j ih=>
    intro xs ys i hxy
    have hlen:xs.length=ys.length:=by simpa using congrArg List.length hxy
    unfold aD.l0
    rw [hlen]
    have hrd:(kC ByteArray.empty xs i).size=(kC ByteArray.empty ys i).size:=by
     unfold kC
     have h2:xs[i.toNat]?.map ByteArray.size=ys[i.toNat]?.map ByteArray.size:=by rw [← List.getElem?_map,← List.getElem?_map,hxy]
     rw [List.getD_eq_getElem?_getD,List.getD_eq_getElem?_getD]
     cases hx:xs[i.toNat]? <;>cases hy:ys[i.toNat]? <;>rw [hx,hy] at h2<;>simp_all
    have h1:ke.f (kC ByteArray.empty xs i)=ke.f (kC ByteArray.empty ys i):=by
     unfold ke.f
     rw [hrd]
    rw [h1]
    have hih:=ih xs ys (wrap64 (i + 1)) hxy
    rw [hlen] at hih
    rw [hih]
  have hf:∀ j xs ys,xs.map ByteArray.size=ys.map ByteArray.size→bM.f j xs=bM.f j ys:=by
   intro j xs ys hxy
   unfold bM.f aD.f
   rw [hrun j xs ys 0 hxy]
  simp only [Option.bind_some]
  rw [hf k (((pieces 46 l).map fun p=>p.map fL).map aA) ((pieces 46 l).map aA) (by
   rw [List.map_map,List.map_map,List.map_map]
   exact List.map_congr_left fun p _ =>by
    show (aA (p.map fL)).size=(aA p).size
    rw [bO,bO,List.length_map])]
 unfold iU
 rw [bO,bO,List.length_map,h1]
theorem zC (l:List UInt8) (hl:l.length < 4294967281) (k:Nat) (hk:l.length + 3 < k):fk.f k (aA (l.map fL))=fk.f k (aA l):=by
 rw [lM l hl k hk,lM _ (by rw [List.length_map];exact hl) k (by rw [List.length_map];exact hk),zz _ l (Nat.lt_succ_self _),List.length_map,TI l hl]
theorem adk (b:UInt8):(fL b).toNat=91↔b.toNat=91:=fJ (Q:=fun b=>(fL b).toNat=91↔b.toNat=91) gG b
theorem adl (b:UInt8):(fL b).toNat=93↔b.toNat=93:=fJ (Q:=fun b=>(fL b).toNat=93↔b.toNat=93) gG b
theorem Pq (l:List UInt8) (i:Nat) (hi:i < l.length):bt (aA l) (i:Int)=((l.getD i 0).toNat:Int):=by
 have h:=(pg (s:=aA l) (p:=i) (b:=l.getD i 0) (l:=l.drop (i + 1)) (by
  show l.drop i=_
  rw [List.drop_eq_getElem_cons hi,List.getD_eq_getElem?_getD,List.getElem?_eq_getElem hi]
  rfl)).2.1
 exact h
theorem extract_mk (l:List UInt8) (a b:Nat):(aA l).extract a b=aA ((l.drop a).take (b - a)):=by
 apply ByteArray.ext
 rw [ByteArray.data_extract]
 show l.toArray.extract a b=((l.drop a).take (b - a)).toArray
 simp
def Hr (l:List UInt8):Bool:=decide (2 < l.length) && (decide ((l.getD 0 0).toNat=91) && (decide ((l.getD (l.length - 1) 0).toNat=93) && FR ((l.drop 1).take (l.length - 2))))
theorem Gd (l:List UInt8) (hl:l.length < 4294967281) (k:Nat) (hk:l.length + 4 < k):gD.f k (aA l)=some (Hr l):=by
 unfold gD.f Hr
 rw [bO]
 by_cases h2: 2 < l.length
 ·have hw:wrap64 ((l.length:Int) - 1)=((l.length - 1:Nat):Int):=by unfold wrap64;omega
  rw [hw,if_pos aq,if_pos aq,decide_eq_true h2,Bool.true_and]
  have b0:=Pq l 0 aq
  have b1:=Pq l (l.length - 1) aq
  rw [show bt (aA l) 0=((l.getD 0 0).toNat:Int) from b0,b1]
  by_cases h91:(l.getD 0 0).toNat=91
  ·rw [if_pos aq,if_pos aq,if_pos aq,decide_eq_true h91,Bool.true_and]
   by_cases h93:(l.getD (l.length - 1) 0).toNat=93
   ·rw [if_pos aq,if_pos aq,if_pos aq,decide_eq_true h93,Bool.true_and,extract_mk,show (((l.length - 1:Nat):Int)).toNat - 1=l.length - 2 by omega,vZ _ (by rw [List.length_take,List.length_drop];omega) k (by rw [List.length_take,List.length_drop];omega)]
    rfl
   ·rw [if_neg aq,decide_eq_false h93]
    rfl
  ·rw [if_neg aq,decide_eq_false h91]
   rfl
 ·rw [if_neg aq,decide_eq_false h2]
  rfl
theorem TJ (l:List UInt8):Hr (l.map fL)=Hr l:=by
 unfold Hr
 rw [List.length_map,FM,FM]
 have e1:decide ((fL (l.getD 0 0)).toNat=91)=decide ((l.getD 0 0).toNat=91):=by rw [decide_eq_decide];exact adk _
 have e2:decide ((fL (l.getD (l.length - 1) 0)).toNat=93)=decide ((l.getD (l.length - 1) 0).toNat=93):=by rw [decide_eq_decide];exact adl _
 rw [e1,e2,← List.map_drop,← List.map_take,MX]
end Go.Proofs.YtokpnfljjjjikaaGreatDoor.kH
namespace Go.Proofs.YtokpnfljjjjikaaGreatDoor.kH
open Go.RowKit Go.Proofs.YtokpnfljjjjikaaGreatDoor Go.Proofs.YtokpnfljjjjikaaGreatDoor.nX Go.Proofs.aj.bW Go.Proofs.aj.dz
set_option linter.unusedVariables false
set_option linter.unusedSimpArgs false
theorem mk_data (s:ByteArray):aA s.data.toList=s:=by
 obtain ⟨⟨l⟩⟩:=s
 rfl
theorem Ni {k k':Nat} (h:k≤k') {p:gP} (hp:sJ k p):sJ k' p:=oV (fun k=>bP.mono _ _ _ k) h hp
theorem CS (s v:ByteArray) (b:Bool) (hv:v.size < 4611686018427387904):∀ (k i:Nat),v.size - i < k→i≤v.size→∃ r,bP.l1 k (v.size:Int) (i:Int) s v b=some r
 | 0,i,h,_ =>absurd h (Nat.not_lt_zero _)
 |k + 1,i,h,hi=>by
  unfold bP.l1
  by_cases hlt:i < v.size
  ·have hw:wrap64 ((i:Int) + 1)=((i + 1:Nat):Int):=by unfold wrap64;omega
   rw [if_pos aq,if_pos aq,if_pos aq,hw]
   have ih:=CS s v b hv k (i + 1) aq aq
   repeat' split
   all_goals first|exact ⟨_,rfl⟩|exact ih
  ·rw [if_neg aq]
   split
   ·exact ⟨_,rfl⟩
   ·exact ⟨_,rfl⟩
theorem CT (s v:ByteArray) (b:Bool) (hs:s.size < 4611686018427387904) (hv:v.size < 4611686018427387904):∀ (k i:Nat),s.size - i + v.size + 2 < k→i≤s.size→∃ r,bP.l0 k (s.size:Int) (i:Int) s v b=some r
 | 0,i,h,_ =>absurd h (Nat.not_lt_zero _)
 |k + 1,i,h,hi=>by
  have h1:=CS s v b hv k 0 aq aq
  unfold bP.l0
  by_cases hlt:i < s.size
  ·have hw:wrap64 ((i:Int) + 1)=((i + 1:Nat):Int):=by unfold wrap64;omega
   rw [if_pos aq,if_pos aq,if_pos aq,hw]
   have ih:=CT s v b hs hv k (i + 1) aq aq
   repeat' split
   all_goals first|exact ⟨_,rfl⟩|exact ih
  ·rw [if_neg aq]
   exact h1
theorem Ge (s v:ByteArray) (b:Bool) (hs:s.size < 4611686018427387904) (hv:v.size < 4611686018427387904) (k:Nat) (hk:s.size + v.size + 2 < k):∃ r,bP.f k s v b=some r:=CT s v b hs hv k 0 aq (Nat.zero_le _)
theorem ze (k:Nat):∀ (xs:List (List UInt8)) (ps:List gP),(∀ x,x∈xs→x.length < 100000)→300000≤k→∃ r,bV.l k (xs.map aA) ps=some r
 | [],ps,_,_ =>⟨_,rfl⟩
 |x :: xs,ps,hx,hk=>by
  have hx0:=hx x (List.mem_cons_self ..)
  rw [List.map_cons,xB k x aq]
  have hc:=congrArg List.length (sI 61 x).2
  rw [List.length_append] at hc
  have h1:(jr x).f0.size≤x.length:=by
   show (aA ((Lib.cut x [61]).1.map Bq)).size≤_
   rw [bO,List.length_map]
   omega
  have h2:(jr x).f1.size≤x.length:=by
   show (aA (Lib.cut x [61]).2.1).size≤_
   rw [bO]
   unfold Lib.cut
   split
   ·simp
   ·simp
  obtain ⟨b,hb⟩:=Ge (jr x).f0 (jr x).f1 (jr x).f2 aq aq k aq
  rw [hb]
  simp only [Option.bind_some]
  cases b with
  |true=>exact ze k xs _ (fun y hy=>hx y (List.mem_cons_of_mem _ hy)) hk
  |false=>exact ⟨_,rfl⟩
theorem Nj (k:Nat) (l:List UInt8) (hl:l.length < 100000) (hk: 300000≤k):∃ r,bV.f k (aA l)=some r:=by
 by_cases hne:l= []
 ·subst hne
  unfold bV.f
  rw [if_pos (by rw [toList_mk];rfl)]
  exact ⟨_,rfl⟩
 ·rw [Cb k l aq hne,← List.map_drop]
  obtain ⟨r,hr⟩:=ze k ((pieces 32 l).drop 1) [] (fun x hx=>by
   have:=FU 32 l x (List.mem_of_mem_drop hx)
   omega) hk
  rw [hr]
  exact ⟨_,rfl⟩
theorem yO (P:List gP) (hP:P.length < 4611686018427387904):∀ (k i:Nat) (acc:List UInt8),P.length - i < k→i≤P.length→acc.length + (EE ((P.drop i).map jZ)).length < 4611686018427387904→
 bY.l0 k (aA acc) P (P.length:Int) (i:Int)=some (aA (acc ++ EE ((P.drop i).map jZ)))
 | 0,i,acc,h,_,_ =>absurd h (Nat.not_lt_zero _)
 |k + 1,i,acc,h,hi,hl=>by
  unfold bY.l0
  by_cases hlt:i < P.length
  ·have hw:wrap64 ((i:Int) + 1)=((i + 1:Nat):Int):=by unfold wrap64;omega
   have hd:P.drop i=P[i] :: P.drop (i + 1):=List.drop_eq_getElem_cons hlt
   have hr:dN P (i:Int)=P[i]:=by
    unfold dN
    rw [List.getD_eq_getElem?_getD,show ((i:Int)).toNat=i by omega,List.getElem?_eq_getElem hlt]
    rfl
   rw [hd] at hl ⊢
   rw [hr,hw]
   obtain ⟨q,hq⟩:∃ q,P[i]=q:=⟨_,rfl⟩
   rw [hq] at hl ⊢
   clear hr hd hq
   obtain ⟨f0,f1,f2⟩:=q
   have e0:(⟨#[32]⟩:ByteArray) ++ f0=aA (32 :: f0.data.toList):=by
    rw [← mk_data f0]
    exact jY [32] f0.data.toList
   have e1:(⟨#[61]⟩:ByteArray) ++ f1=aA (61 :: f1.data.toList):=by
    rw [← mk_data f1]
    exact jY [61] f1.data.toList
   have z0:=dI f0
   have z1:=dI f1
   have hwl:(EE ((⟨f0,f1,f2⟩ :: P.drop (i + 1)).map jZ))=32 :: (jZ ⟨f0,f1,f2⟩ ++ EE ((P.drop (i + 1)).map jZ)):=rfl
   rw [hwl] at hl ⊢
   have hwo:jZ ⟨f0,f1,f2⟩=f0.data.toList ++ (if f2=true then 61 :: f1.data.toList else []):=rfl
   rw [hwo] at hl ⊢
   simp only at *
   rw [if_pos aq,if_pos aq,if_pos aq]
   cases f2 with
   |true=>
    simp only [if_true,List.length_cons,List.length_append] at hl
    rw [e0,e1,jY,jY,bO,bO,bO,bO,if_pos aq,if_pos zJ,if_pos rfl,if_pos aq,if_pos Iy]
    rw [yO P hP k (i + 1) _ aq aq Iy]
    simp
   |false=>
    simp only [Bool.false_eq_true,if_false,List.append_nil,List.length_cons,List.length_append] at hl
    rw [e0,jY,bO,bO,if_pos aq,if_pos zJ,if_neg bR]
    rw [yO P hP k (i + 1) _ aq aq Iy]
    simp
  ·have hd:P.drop i= []:=List.drop_of_length_le aq
   rw [if_neg aq,hd]
   simp [EE]
theorem Nk (P:List gP) (hP:P.length < 100000) (k0:Nat) (h:∀ p,p∈P→sJ k0 p):∀ (k i:Nat),P.length - i + k0 < k→i≤P.length→aW.l0 k P (P.length:Int) (i:Int)=some (-1)
 | 0,i,hk,_ =>absurd hk (Nat.not_lt_zero _)
 |k + 1,i,hk,hi=>by
  unfold aW.l0
  by_cases hlt:i < P.length
  ·have hw:wrap64 ((i:Int) + 1)=((i + 1:Nat):Int):=by unfold wrap64;omega
   have hr:dN P (i:Int)=P[i]:=by
    unfold dN
    rw [List.getD_eq_getElem?_getD,show ((i:Int)).toNat=i by omega,List.getElem?_eq_getElem hlt]
    rfl
   have hp:jq.f k P[i].f0 P[i].f1 P[i].f2=some false:=by
    unfold jq.f
    have h1:bP.f k P[i].f0 P[i].f1 P[i].f2=some true:=Ni (show k0≤k by omega) (h _ (List.getElem_mem hlt))
    rw [h1]
    rfl
   rw [if_pos aq,if_pos aq,if_pos aq,hr,hp,hw]
   simp only [Option.bind_some,Bool.false_eq_true,if_false]
   exact Nk P hP k0 h k (i + 1) aq aq
  ·rw [if_neg aq]
theorem TK (P:List gP) (hP:P.length < 100000) (k0:Nat) (h:∀ p,p∈P→sJ k0 p) (k:Nat) (hk:P.length + k0 < k):bK.f k P=some false:=by
 unfold bK.f aW.f
 have h1:=Nk P hP k0 h k 0 aq (Nat.zero_le _)
 rw [show ((0:Nat):Int)=0 from rfl] at h1
 rw [h1]
 rfl
def je (v:Int):List UInt8:=(kU.getD v.toNat ⟨#[]⟩).data.toList
def rD (v:Int):Prop:=v=1∨v=2∨v=3∨v=4∨v=5∨v=6∨v=7∨v=8∨v=9∨v=10∨v=11
theorem oP {v:Int} (hv:rD v):(je v).map Bq=je v∧cE.f (aA (je v))=some v∧(32:UInt8) ∉ je v∧(je v).length≤4∧fy.f v=some (aA (je v))∧je v≠ []:=by
 rcases hv with rfl|rfl|rfl|rfl|rfl|rfl|rfl|rfl|rfl|rfl|rfl<;>decide +kernel
theorem wm {v:Int} (hv:rD v) (r:List UInt8) (k:Nat) (hl:(je v).length + 1 + r.length≤510):ak.f k (aA (je v ++ 32 :: r))=ak.v k v (aA r) true:=by
 obtain ⟨h1,h2,h3,h4,_⟩:=oP hv
 unfold ak.f
 rw [bO,if_neg (by rw [List.length_append,List.length_cons];omega),K9 _ 32 (by rw [List.length_append,List.length_cons];omega),ED 32 r _ h3]
 show ((cB.f (aA (je v))).bind fun g=>(cE.f g).bind fun v2=>ak.v k v2 (aA r) true)=_
 rw [uu _ aq,h1]
 show ((cE.f (aA (je v))).bind fun v2=>ak.v k v2 (aA r) true)=_
 rw [h2]
 rfl
theorem Pr {v:Int} (hv:rD v) (k:Nat):ak.f k (aA (je v))=ak.v k v ⟨#[]⟩ false:=by
 obtain ⟨h1,h2,h3,h4,_⟩:=oP hv
 unfold ak.f
 rw [bO,if_neg aq,K9 _ 32 aq,yN 32 _ h3]
 show ((cB.f (aA (je v))).bind fun g=>(cE.f g).bind fun v2=>ak.v k v2 (aA []) false)=_
 rw [uu _ aq,h1]
 show ((cE.f (aA (je v))).bind fun v2=>ak.v k v2 (aA []) false)=_
 rw [h2]
 rfl
theorem SD (s:ByteArray):∀ (l:List ByteArray) (i:Nat) (v:Int),SS s l i=v→v≠0→∃ j:Nat,v=((i + j:Nat):Int)∧l[j]? =some s
 | [],i,v,h,h0=>absurd h.symm h0
 |x :: l,i,v,h,h0=>by
  unfold SS at h
  by_cases hx: 0 < i∧x=s
  ·rw [if_pos hx] at h
   exact ⟨0,by rw [← h];rfl,by rw [hx.2];rfl⟩
  ·rw [if_neg hx] at h
   obtain ⟨j,h1,h2⟩:=SD s l (i + 1) v h h0
   exact ⟨j + 1,by rw [h1];congr 1;omega,h2⟩
theorem WC {w:List UInt8} {v:Int} (h:cE.f (aA w)=some v) (h0:v≠0):rD v∧w=je v:=by
 have hr:=Fq h
 obtain ⟨j,h1,h2⟩:=SD (aA w) kU 0 v (Option.some.inj h) h0
 refine ⟨by unfold rD;omega,?_⟩
 unfold je
 rw [h1,Nat.zero_add,List.getD_eq_getElem?_getD,show ((j:Int)).toNat=j by omega,h2]
 rfl
end Go.Proofs.YtokpnfljjjjikaaGreatDoor.kH
namespace Go.Proofs.YtokpnfljjjjikaaGreatDoor.kH
open Go.RowKit Go.Proofs.YtokpnfljjjjikaaGreatDoor Go.Proofs.YtokpnfljjjjikaaGreatDoor.nX Go.Proofs.aj.bW Go.Proofs.aj.dz
set_option linter.unusedVariables false
set_option linter.unusedSimpArgs false
theorem rP (l:List UInt8) (n:Nat):(aA l).extract n (aA l).size=aA (l.drop n):=by
 rw [extract_mk,bO]
 congr 1
 exact List.take_of_length_le lI
theorem wo (l:List UInt8) (n:Nat):(aA l).extract 0 n=aA (l.take n):=by
 rw [extract_mk]
 simp
def fZ (v:Int):List UInt8:=if v=3 then [70,82,79,77,58] else [84,79,58]
theorem xD (v:Int):(fZ v).map Bq=fZ v∧(fZ v).length≤5:=by
 unfold fZ
 split<;>decide +kernel
abbrev adm:=Bool×Bool×List ByteArray×ByteArray×ByteArray×Bool×List gP
structure SE (n:Bool) (R:List ByteArray) (lo dom:ByteArray) (lit:Bool) (P:List gP) (m:Nat) (t:List UInt8):Prop where
 ag:WB n R lo dom lit m t
 ps:∀ k,3000000≤k→bV.f k (aA (j3 P))=some (P,true)
 ok:∀ p,p∈P→sJ 3000000 p
 pl:P.length≤1000
 rl:R.length≤1000
 tl:t.length + (j3 P).length≤600
theorem CU {n:Bool} {R:List ByteArray} {lo dom:ByteArray} {lit:Bool} {P:List gP} {m:Nat} {t:List UInt8} (g:SE n R lo dom lit P m t) (v:Int) (k:Nat) (hk: 3000000≤k):
 eJ.f k (aA (fZ v ++ (t ++ j3 P))) (aA (fZ v))=some (true,n,R,lo,dom,lit,P):=by
 obtain ⟨h1,h2⟩:=xD v
 have htl:=g.tl
 have hsz:(aA (fZ v ++ (t ++ j3 P))).size=(fZ v).length + (t.length + (j3 P).length):=by
  rw [bO,List.length_append,List.length_append]
 unfold eJ.f
 rw [hsz,bO,if_neg aq,wo,List.take_left,uu _ aq,h1]
 simp only [Option.bind_some,if_true]
 rw [← hsz,rP,List.drop_left,g.ag.rd k hk _ aq]
 simp only [Option.bind_some,if_true]
 rw [if_pos ⟨aq,aq,aq⟩,rP,show ((((fZ v).length:Int) + (t.length:Int))).toNat=(fZ v ++ t).length by rw [List.length_append];omega,← List.append_assoc,List.drop_left,g.ps k hk]
 rfl
theorem CV (v:Int) (r:List UInt8) (hr:r.length≤510):∃ res:adm,eJ.f 3000000 (aA r) (aA (fZ v))=some res∧
 (res.1=false∨∃ (n:Bool) (R:List ByteArray) (lo dom:ByteArray) (lit:Bool) (P:List gP) (m:Nat) (t:List UInt8),res=(true,n,R,lo,dom,lit,P)∧SE n R lo dom lit P m t∧(fZ v).length + t.length + (j3 P).length≤r.length):=by
 obtain ⟨h1,h2⟩:=xD v
 unfold eJ.f
 rw [bO,bO]
 by_cases hlt:(r.length:Int) < ((fZ v).length:Int)
 ·rw [if_pos hlt]
  exact ⟨_,rfl,.inl rfl⟩
 rw [if_neg hlt,wo,uu _ (by rw [List.length_take];omega)]
 simp only [Option.bind_some]
 by_cases hg:(aA ((r.take (fZ v).length).map Bq)).toList=(aA (fZ v)).toList
 case neg=>rw [if_neg hg];exact ⟨_,rfl,.inl rfl⟩
 rw [if_pos hg]
 have ht:(aA r).extract (fZ v).length r.length=aA (r.drop (fZ v).length):=by
  have:=rP r (fZ v).length
  rwa [bO] at this
 rw [ht]
 have hsz:(aA (r.drop (fZ v).length)).size=r.length - (fZ v).length:=by rw [bO,List.length_drop]
 obtain ⟨⟨p1,p2,p3,p4,p5,p6,p7⟩,hp⟩:=Pj (aA (r.drop (fZ v).length)) aq 3000000 aq
 rw [hp]
 simp only [Option.bind_some]
 by_cases he:p7=0
 case neg=>rw [if_neg he];exact ⟨_,rfl,.inl rfl⟩
 rw [if_pos he]
 subst he
 obtain ⟨n,t,rfl,hn,ag⟩:=Pn 3000000 aq _ aq p1 p2 p3 p4 p5 p6 hp
 have hR:=M7 _ aq 3000000 aq hp
 rw [if_pos ⟨aq,aq,aq⟩]
 have ht2:(aA r).extract (((fZ v).length:Int) + (n:Int)).toNat r.length=aA (r.drop ((fZ v).length + n)):=by
  have:=rP r ((fZ v).length + n)
  rw [bO] at this
  rw [show (((fZ v).length:Int) + (n:Int)).toNat=(fZ v).length + n by omega]
  exact this
 rw [ht2]
 obtain ⟨⟨P,ok⟩,hP⟩:=Nj 3000000 (r.drop ((fZ v).length + n)) lI aq
 rw [hP]
 simp only [Option.bind_some]
 cases ok with
 |false=>exact ⟨_,rfl,.inl rfl⟩
 |true=>
  obtain ⟨q1,q2,q3,q4⟩:=La 3000000 _ lI P hP
  rw [List.length_drop] at q1 q4
  have hle:=ag.le
  exact ⟨_,rfl,.inr ⟨p1,p2,p3,p4,p5,P,n,t,rfl,⟨ag,fun k hk=>oV (fun k=>bV.mono _ k) hk q2,q3,aq,aq,aq⟩,aq⟩⟩
structure Good (v:Int) (a:ByteArray) (n:Bool) (R:List ByteArray) (lo dom:ByteArray) (lit:Bool) (P:List gP) (t:List UInt8):Prop where
 b:∀ k,3001100≤k→fG.f k v a n R lo dom lit P=some true
 w:∀ k,3001100≤k→bY.f k v a n R lo dom lit P=some (aA t)
 r:∀ k,3001100≤k→ak.f k (aA t)=some (v,a,n,R,lo,dom,lit,P,0)
 rl:R.length≤1000
 pl:P.length≤1000
def sK (a:List UInt8):List UInt8:=if a= [] then [] else 32 :: a
theorem zD {v:Int} (h3:v≠3) (h4:v≠4):ez.f v=some false:=by
 unfold ez.f
 rw [if_neg h3]
 simp [h4]
theorem zE {v:Int} (hv:rD v) (h3:v≠3) (h4:v≠4) (a:List UInt8) (ha:a.length≤1000) (hp:∀ k,3001100≤k→ak.f k (aA (je v ++ sK a))=ak.w v (aA a)):Good v (aA a) false [] ⟨#[]⟩ ⟨#[]⟩ false [] (je v ++ sK a):=by
 obtain ⟨_,_,_,f4,f5,_⟩:=oP hv
 refine ⟨fun k hk=>?_,fun k hk=>?_,hp,bn,bn⟩
 ·unfold fG.f
  rw [zD h3 h4]
  simp only [Option.bind_some,Bool.false_eq_true,if_false]
  rw [if_pos (by rfl),if_pos gG]
  rfl
 ·unfold bY.f
  rw [f5,zD h3 h4]
  simp only [Option.bind_some,Bool.false_eq_true,if_false]
  rw [toList_mk]
  unfold sK
  by_cases h0:a= []
  ·rw [if_pos h0,if_pos h0,List.append_nil]
  ·rw [if_neg h0,if_neg h0]
   have e1:(⟨#[32]⟩:ByteArray) ++ aA a=aA (32 :: a):=jY [32] a
   rw [e1,bO,bO,bO,if_pos aq,if_pos zJ,jY]
theorem Hs {v:Int} (hv:v=3∨v=4) {n:Bool} {R:List ByteArray} {lo dom:ByteArray} {lit:Bool} {P:List gP} {m:Nat} {t:List UInt8} (g:SE n R lo dom lit P m t) (hl:(je v).length + 1 + ((fZ v).length + (t.length + (j3 P).length))≤510)
 (hm:v=3→n=true∨dom.toList.isEmpty=false) (hr:v=4→n=false):Good v ⟨#[]⟩ n R lo dom lit P (je v ++ 32 :: (fZ v ++ (t ++ j3 P))):=by
 have hvb:rD v:=by unfold rD;omega
 obtain ⟨_,_,_,f4,f5,_⟩:=oP hvb
 have hpl:=g.pl
 have htl:=g.tl
 have hc:ez.f v=some true:=by rcases hv with rfl|rfl<;>rfl
 refine ⟨fun k hk=>?_,fun k hk=>?_,fun k hk=>?_,g.rl,hpl⟩
 ·unfold fG.f
  rw [hc]
  simp only [Option.bind_some,if_true]
  rw [if_pos gG,g.ag.rt k aq]
  simp only [Option.bind_some,if_true]
  rw [TK P aq 3000000 g.ok k aq]
  rfl
 ·have hj:∀ k,3001050≤k→∀ (x:ByteArray) (a:List UInt8),a.length≤6→∀ z:Int,∀ y:ByteArray,bY.j0 (k + 1) (aA (je v)) (aA a) z y n R lo dom lit P=some (aA (je v ++ (a ++ t) ++ j3 P)):=by
   intro k hk x a ha z y
   rw [bY.j0,g.ag.pr k aq]
   show (if (aA a).size + (aA t).size≤9223372036854775807 then _ else none)=_
   have hrun:=yO P aq k 0 (je v ++ (a ++ t)) aq (Nat.zero_le _) (by
    rw [List.drop_zero]
    show _ + (j3 P).length < _
    rw [List.length_append,List.length_append]
    omega)
   rw [List.drop_zero] at hrun
   rw [bO,bO,if_pos aq,jY,bO,bO,if_pos Dy,jY]
   exact hrun
  obtain ⟨k,rfl⟩:∃ k',k=k' + 1:=⟨k - 1,aq⟩
  unfold bY.f
  rw [f5,hc]
  simp only [Option.bind_some,if_true]
  rcases hv with rfl|rfl
  ·rw [if_pos rfl]
   have:=hj k aq ⟨#[]⟩ [32,70,82,79,77,58] bn 3 ⟨#[]⟩
   refine this.trans ?_
   all_goals (congr 2;try (simp [fZ]))
  ·rw [if_neg bR]
   have:=hj k aq ⟨#[]⟩ [32,84,79,58] bn 4 ⟨#[]⟩
   refine this.trans ?_
   all_goals (congr 2;try (simp [fZ]))
 ·rw [wm hvb _ k (by rw [List.length_append,List.length_append];exact hl)]
  have hpd:=CU g v k aq
  rcases hv with rfl|rfl
  ·rw [show ak.v k 3 (aA (fZ 3 ++ (t ++ j3 P))) true=ak.Gs k (aA (fZ 3 ++ (t ++ j3 P))) from by unfold ak.v;simp]
   unfold ak.Gs
   rw [show (⟨#[70,82,79,77,58]⟩:ByteArray)=aA (fZ 3) from rfl,hpd]
   simp only [Option.bind_some,if_true]
   rcases hm rfl with rfl|hd
   ·rw [if_pos rfl]
    rfl
   ·rw [hd,if_neg (bR: ¬ false=true)]
    split<;>rfl
  ·rw [show ak.v k 4 (aA (fZ 4 ++ (t ++ j3 P))) true=ak.Gt k (aA (fZ 4 ++ (t ++ j3 P))) from by unfold ak.v;simp]
   unfold ak.Gt
   rw [show (⟨#[84,79,58]⟩:ByteArray)=aA (fZ 4) from rfl,hpd]
   simp only [Option.bind_some,if_true]
   rw [hr rfl,if_neg bR]
   rfl
end Go.Proofs.YtokpnfljjjjikaaGreatDoor.kH
namespace Go.Proofs.YtokpnfljjjjikaaGreatDoor.kH
open Go.RowKit Go.Proofs.YtokpnfljjjjikaaGreatDoor Go.Proofs.YtokpnfljjjjikaaGreatDoor.nX Go.Proofs.aj.bW Go.Proofs.aj.dz
set_option linter.unusedVariables false
set_option linter.unusedSimpArgs false
theorem Nl:bL.f 120=some true:=by decide +kernel
theorem CW (k:Nat) (hk: 120≤k):bL.f k=some true:=oV (fun k=>bL.mono k) hk Nl
theorem Ht (v:Int) (a:ByteArray) (n:Bool) (R:List ByteArray) (lo dom:ByteArray) (lit:Bool) (P:List gP) (hP:P.length < 4611686018427387904):∀ (k i:Nat),P.length - i < k→i≤P.length→aZ.l0 k (P.length:Int) (i:Int) v a n R lo dom lit P v a n R lo dom lit P=some true
 | 0,i,h,_ =>absurd h (Nat.not_lt_zero _)
 |k + 1,i,h,hi=>by
  unfold aZ.l0
  by_cases hlt:i < P.length
  ·have hw:wrap64 ((i:Int) + 1)=((i + 1:Nat):Int):=by unfold wrap64;omega
   rw [if_pos aq,if_pos aq,if_pos aq,if_pos aq,if_neg bn,hw]
   exact Ht v a n R lo dom lit P hP k (i + 1) aq aq
  ·rw [if_neg aq]
theorem Pt (v:Int) (a:ByteArray) (n:Bool) (R:List ByteArray) (lo dom:ByteArray) (lit:Bool) (P:List gP) (hR:R.length≤1000) (hP:P.length≤1000) (k:Nat) (hk: 5000≤k):aZ.f k v a n R lo dom lit P v a n R lo dom lit P=some true:=by
 obtain ⟨k,rfl⟩:∃ k',k=k' + 1:=⟨k - 1,aq⟩
 unfold aZ.f
 rw [if_pos rfl,if_pos rfl,TB n R lo dom lit (k + 1) aq aq]
 simp only [Option.bind_some,if_true]
 rw [aZ.j0,if_neg bn]
 exact Ht v a n R lo dom lit P aq k 0 aq (Nat.zero_le _)
def Told (L:List UInt8) (r:BQ):Prop:=
 (∃ e,some r=ak.z e∧((e=160∧L.length≤510)∨(e=161∧L.length≤510)))∨
 ∃ v a n R lo dom lit P t,r=(v,a,n,R,lo,dom,lit,P,0)∧Good v a n R lo dom lit P t∧t.length≤L.length∧(v=3∨v=4∨(n=false∧R= []∧lo=⟨#[]⟩∧dom=⟨#[]⟩∧lit=false∧P= []))
theorem sL (L:List UInt8) (hl:L.length≤510) (e:Int) (he:e=160∨e=161):∃ r,ak.z e=some r∧Told L r:=
 ⟨_,rfl,.inl ⟨e,rfl,by rcases he with rfl|rfl<;>simp [hl]⟩⟩
theorem WD:fK fo 46 []≠(true,0):=by decide
theorem aai (r:List UInt8) (hl:r.length≤510):∃ b,gY.f (aA r)=some b∧(b=true→r≠ []):=by
 unfold gY.f
 rw [if_pos kj,toList_mk]
 refine ⟨_,rfl,fun h e=>?_⟩
 subst e
 simp at h
theorem xE {v:Int} (k:Nat) (r:ByteArray) (m:Bool):(v=1→ak.v k v r m=ak.Mm k r)∧(v=2→ak.v k v r m=ak.J8 k r)∧(v=3→ak.v k v r m=ak.Gs k r)∧(v=4→ak.v k v r m=ak.Gt k r)∧(v=7∨v=8→ak.v k v r m=ak.free v r)∧(v=9∨v=10→ak.v k v r m=if m=true then ak.free v r else ak.w v ⟨#[]⟩)∧(v=5∨v=6∨v=11→ak.v k v r m=if m=true then ak.z 161 else ak.w v ⟨#[]⟩):=by
 refine ⟨?_,?_,?_,?_,?_,?_,?_⟩
 ·rintro rfl;unfold ak.v;simp
 ·rintro rfl;unfold ak.v;simp
 ·rintro rfl;unfold ak.v;simp
 ·rintro rfl;unfold ak.v;simp
 ·rintro (rfl|rfl)<;>(unfold ak.v;simp)
 ·rintro (rfl|rfl)<;>(unfold ak.v;simp)
 ·rintro (rfl|rfl|rfl)<;>(unfold ak.v;simp)
theorem EF {a:List UInt8} (h:a≠ []):sK a=32 :: a:=if_neg h
theorem WE {r:List UInt8} (h:r≠ []):r.map fL≠ []:=by
 intro e
 exact h (List.map_eq_nil_iff.mp e)
theorem adn {v:Int} (hv:rD v) (L w r:List UInt8) (m:Bool) (hL:L.length≤510) (hw:w.length=(je v).length) (h1:m=true→L.length=w.length + 1 + r.length) (h2:m=false→r= []∧L.length=w.length):
 ∃ res,ak.v 3000000 v (aA r) m=some res∧Told L res:=by
 obtain ⟨f1,f2,f3,f4,f5,f6⟩:=oP hv
 have hrl:r.length≤510:=by cases m with|true=>have:=h1 rfl;omega|false=>have:=(h2 rfl).1;rw [this];simp
 have free:∀ (asi:v=7∨v=8∨v=9∨v=10),(v=7∨v=8∨m=true)→∃ res,ak.free v (aA r)=some res∧Told L res:=by
  intro h79 hm
  unfold ak.free
  obtain ⟨b,hb,hbn⟩:=aai r hrl
  rw [hb]
  simp only [Option.bind_some]
  cases b with
  |false=>exact sL L hL 161 (.inr rfl)
  |true=>
   have hne:=hbn rfl
   have hmt:m=true:=by
    cases m with
    |true=>rfl
    |false=>exact absurd (h2 rfl).1 hne
   have hll:=h1 hmt
   refine ⟨_,rfl,.inr ⟨v,aA r,false,[],⟨#[]⟩,⟨#[]⟩,false,[],je v ++ sK r,rfl,zE hv aq aq r aq (fun k hk=>?_),?_⟩⟩
   ·rw [EF hne,wm hv r k aq]
    have hfree:ak.free v (aA r)=ak.w v (aA r):=by
     unfold ak.free
     rw [hb]
     rfl
    obtain ⟨_,_,_,_,v78,Nn,_⟩:=xE (v:=v) k (aA r) true
    rcases h79 with h|h|h|h
    ·rw [v78 (.inl h),hfree]
    ·rw [v78 (.inr h),hfree]
    ·rw [Nn (.inl h),if_pos rfl,hfree]
    ·rw [Nn (.inr h),if_pos rfl,hfree]
   ·refine ⟨?_,.inr (.inr ⟨rfl,rfl,rfl,rfl,rfl,rfl⟩)⟩
    rw [EF hne,List.length_append,List.length_cons]
    omega
 have only:v=5∨v=6∨v=9∨v=10∨v=11→m=false→∃ res,ak.w v ⟨#[]⟩=some res∧Told L res:=by
  intro hvv hm
  obtain ⟨_,hll⟩:=h2 hm
  refine ⟨_,rfl,.inr ⟨v,⟨#[]⟩,false,[],⟨#[]⟩,⟨#[]⟩,false,[],je v ++ sK [],rfl,zE hv aq aq [] bn (fun k hk=>?_),?_⟩⟩
  ·rw [show je v ++ sK []=je v from by simp [sK],Pr hv k]
   obtain ⟨_,_,_,_,_,Nn,v5⟩:=xE (v:=v) k ⟨#[]⟩ false
   rcases hvv with h|h|h|h|h
   ·rw [v5 (.inl h),if_neg bR];rfl
   ·rw [v5 (.inr (.inl h)),if_neg bR];rfl
   ·rw [Nn (.inl h),if_neg bR];rfl
   ·rw [Nn (.inr h),if_neg bR];rfl
   ·rw [v5 (.inr (.inr h)),if_neg bR];rfl
  ·refine ⟨?_,.inr (.inr ⟨rfl,rfl,rfl,rfl,rfl,rfl⟩)⟩
   rw [show je v ++ sK []=je v from by simp [sK]]
   omega
 have aom:∀ (k:Nat),3000000≤k→fk.f k (aA r)=fk.f 3000000 (aA r):=by
  intro k hk
  rw [lM r aq k aq,lM r aq 3000000 aq]
 have named:∀ (aon:v=1∨v=2),r≠ []→m=true→(∀ k,3001100≤k→ak.v k v (aA (r.map fL)) true=ak.w v (aA (r.map fL)))→Told L (v,aA (r.map fL),false,[],⟨#[]⟩,⟨#[]⟩,false,[],0):=by
  intro aon hne hm hk
  have hll:=h1 hm
  refine .inr ⟨v,aA (r.map fL),false,[],⟨#[]⟩,⟨#[]⟩,false,[],je v ++ sK (r.map fL),rfl,zE hv aq aq (r.map fL) kY (fun k hkk=>?_),?_⟩
  ·rw [EF (WE hne),wm hv _ k kY]
   exact hk k hkk
  ·refine ⟨?_,.inr (.inr ⟨rfl,rfl,rfl,rfl,rfl,rfl⟩)⟩
   rw [EF (WE hne),List.length_append,List.length_cons,List.length_map]
   omega
 have Np:r≠ []→m=true:=by
  intro hne
  cases m with
  |true=>rfl
  |false=>exact absurd (h2 rfl).1 hne
 obtain ⟨v1,v2,v3,v4,v78,Nn,v5⟩:=xE (v:=v) 3000000 (aA r) m
 have hsm:gU.f (aA r)=some (aA (r.map fL)):=Hp r aq
 have ado:gU.f (aA (r.map fL))=some (aA (r.map fL)):=by
  rw [Hp _ kY,rz]
 rcases hv with rfl|rfl|rfl|rfl|rfl|rfl|rfl|rfl|rfl|rfl|rfl
 ·rw [v1 rfl]
  unfold ak.Mm
  rw [hsm,lM r aq _ aq]
  simp only [Option.bind_some]
  cases hd:(decide (fK fo 46 r=(true,r.length)) && iU (aA r)) with
  |false=>exact sL L hL 161 (.inr rfl)
  |true=>
   have hne:r≠ []:=by
    rintro rfl
    rw [decide_eq_false (show ¬ fK fo 46 []=(true,([]:List UInt8).length) from WD)] at hd
    cases hd
   refine ⟨_,rfl,named (.inl rfl) hne (Np hne) (fun k hk=>?_)⟩
   rw [(xE k _ true).1 rfl]
   unfold ak.Mm
   rw [ado,zC r aq k aq,lM r aq k aq,hd]
   rfl
 ·rw [v2 rfl]
  unfold ak.J8
  rw [hsm,lM r aq _ aq]
  simp only [Option.bind_some]
  cases hd:(decide (fK fo 46 r=(true,r.length)) && iU (aA r)) with
  |false=>
   rw [if_neg bR,Gd r aq _ aq]
   simp only [Option.bind_some]
   cases hc:Hr r with
   |false=>exact sL L hL 161 (.inr rfl)
   |true=>
    have hne:r≠ []:=by
     rintro rfl
     exact absurd hc bR
    refine ⟨_,rfl,named (.inr rfl) hne (Np hne) (fun k hk=>?_)⟩
    rw [(xE k _ true).2.1 rfl]
    unfold ak.J8
    rw [ado,zC r aq k aq,lM r aq k aq,hd]
    simp only [Option.bind_some]
    rw [if_neg bR,Gd _ kY k kY,TJ,hc]
    rfl
  |true=>
   have hne:r≠ []:=by
    rintro rfl
    rw [decide_eq_false (show ¬ fK fo 46 []=(true,([]:List UInt8).length) from WD)] at hd
    cases hd
   refine ⟨_,rfl,named (.inr rfl) hne (Np hne) (fun k hk=>?_)⟩
   rw [(xE k _ true).2.1 rfl]
   unfold ak.J8
   rw [ado,zC r aq k aq,lM r aq k aq,hd]
   rfl
 ·rw [v3 rfl]
  unfold ak.Gs
  rw [show (⟨#[70,82,79,77,58]⟩:ByteArray)=aA (fZ 3) from rfl]
  obtain ⟨res,h3,h4⟩:=CV 3 r hrl
  rw [h3]
  simp only [Option.bind_some]
  rcases h4 with h4|⟨n,R,lo,dom,lit,P,mm,t,rfl,g,hle⟩
  ·rw [h4]
   exact sL L hL 161 (.inr rfl)
  ·have hne:r≠ []:=by
    rintro rfl
    have:=g.ag.ne
    rw [List.length_nil] at hle
    omega
   have hll:=h1 (Np hne)
   have abu:n=true∨dom.toList.isEmpty=false→Told L (3,⟨#[]⟩,n,R,lo,dom,lit,P,0):=fun hm=> .inr ⟨3,_,_,_,_,_,_,_,_,rfl,Hs (.inl rfl) g aq (fun _ =>hm) (fun h=>by omega),PX,bn⟩
   show ∃ res,(if true=true then (if n=true then ak.p 3 (true,n,R,lo,dom,lit,P) else if dom.toList.isEmpty=true then ak.z 161 else ak.p 3 (true,n,R,lo,dom,lit,P)) else ak.z 161)=some res∧Told L res
   rw [if_pos rfl]
   by_cases hn:n=true
   ·rw [if_pos hn]
    exact ⟨_,rfl,abu (.inl hn)⟩
   ·rw [if_neg hn]
    by_cases hd:dom.toList.isEmpty=true
    ·rw [if_pos hd]
     exact sL L hL 161 (.inr rfl)
    ·rw [if_neg hd]
     exact ⟨_,rfl,abu (.inr (Bool.eq_false_iff.mpr hd))⟩
 ·rw [v4 rfl]
  unfold ak.Gt
  rw [show (⟨#[84,79,58]⟩:ByteArray)=aA (fZ 4) from rfl]
  obtain ⟨res,h3,h4⟩:=CV 4 r hrl
  rw [h3]
  simp only [Option.bind_some]
  rcases h4 with h4|⟨n,R,lo,dom,lit,P,mm,t,rfl,g,hle⟩
  ·rw [h4]
   exact sL L hL 161 (.inr rfl)
  ·have hne:r≠ []:=by
    rintro rfl
    have:=g.ag.ne
    rw [List.length_nil] at hle
    omega
   have hll:=h1 (Np hne)
   show ∃ res,(if true=true then (if n=true then ak.z 161 else ak.p 4 (true,n,R,lo,dom,lit,P)) else ak.z 161)=some res∧Told L res
   rw [if_pos rfl]
   by_cases hn:n=true
   ·rw [if_pos hn]
    exact sL L hL 161 (.inr rfl)
   ·rw [if_neg hn]
    exact ⟨_,rfl,.inr ⟨4,⟨#[]⟩,n,R,lo,dom,lit,P,_,rfl,Hs (.inr rfl) g aq (fun h=>by omega) (fun _ =>Bool.eq_false_iff.mpr hn),PX,bn⟩⟩
 ·rw [v5 (.inl rfl)]
  cases m with
  |true=>exact sL L hL 161 (.inr rfl)
  |false=>exact only aq rfl
 ·rw [v5 (.inr (.inl rfl))]
  cases m with
  |true=>exact sL L hL 161 (.inr rfl)
  |false=>exact only aq rfl
 ·rw [v78 (.inl rfl)]
  exact free aq (.inl rfl)
 ·rw [v78 (.inr rfl)]
  exact free aq (.inr (.inl rfl))
 ·rw [Nn (.inl rfl)]
  cases m with
  |true=>exact free aq (.inr (.inr rfl))
  |false=>exact only aq rfl
 ·rw [Nn (.inr rfl)]
  cases m with
  |true=>exact free aq (.inr (.inr rfl))
  |false=>exact only aq rfl
 ·rw [v5 (.inr (.inr rfl))]
  cases m with
  |true=>exact sL L hL 161 (.inr rfl)
  |false=>exact only aq rfl
theorem Pv (L:List UInt8) (hL:L.length≤510):∃ r,ak.f 3000000 (aA L)=some r∧Told L r:=by
 have hct:=(sI 32 L).2
 have hcl:=congrArg List.length hct
 rw [List.length_append] at hcl
 unfold ak.f
 rw [bO,if_neg aq,K9 L 32 aq]
 simp only [Option.bind_some]
 rw [uu _ aq]
 simp only [Option.bind_some]
 obtain ⟨v,hv⟩:∃ v,cE.f (aA ((Lib.cut L [32]).1.map Bq))=some v:=⟨_,rfl⟩
 rw [hv]
 simp only [Option.bind_some]
 by_cases h0:v=0
 ·subst h0
  have:ak.v 3000000 0 (aA (Lib.cut L [32]).2.1) (Lib.cut L [32]).2.2=ak.z 160:=by unfold ak.v;rw [if_pos rfl]
  rw [this]
  exact sL L hL 160 (.inl rfl)
 ·obtain ⟨hV,hw⟩:=WC hv h0
  have hwl:=congrArg List.length hw
  rw [List.length_map] at hwl
  refine adn hV L (Lib.cut L [32]).1 (Lib.cut L [32]).2.1 (Lib.cut L [32]).2.2 hL hwl (fun hm=>?_) (fun hm=>?_)
  ·rw [hm,if_pos rfl,List.length_cons] at hcl
   omega
  ·rw [hm,if_neg bR,List.length_nil] at hcl
   refine ⟨?_,aq⟩
   unfold Lib.cut at hm ⊢
   split
   ·rename_i h;rw [if_pos h] at hm;cases hm
   ·rfl
end Go.Proofs.YtokpnfljjjjikaaGreatDoor.kH
namespace Go.Proofs.YtokpnfljjjjikaaGreatDoor.kH
open Go.RowKit Go.Proofs.YtokpnfljjjjikaaGreatDoor Go.Proofs.YtokpnfljjjjikaaGreatDoor.nX Go.Proofs.aj.bW Go.Proofs.aj.dz
set_option linter.unusedVariables false
set_option linter.unusedSimpArgs false
theorem Hu (d:List UInt8) (hl:d.length < 4294967281):cC.f (aA d)=some (aA (d.map fL)):=by
 unfold cC.f
 rw [if_pos kj,nH]
instance (d:List UInt8):Decidable (lZ d):=by unfold lZ;infer_instance
theorem Nq (d:List UInt8) (hl:d.length < 4294967281) (k:Nat) (hk:d.length + 3 < k):kG.f k (aA d)=some (decide (lZ d) && iU (aA d)):=by
 unfold kG.f
 rw [lM d hl k hk]
 simp only [Option.bind_some]
 by_cases h1:fK fo 46 d=(true,d.length)
 ·rw [decide_eq_true h1,Bool.true_and]
  cases hs:iU (aA d) with
  |true=>
   rw [if_pos rfl,Hu d hl]
   simp only [Option.bind_some]
   rw [toList_mk,toList_mk,Bool.and_true]
   by_cases h2:d.map fL=d
   ·rw [h2,decide_eq_true ⟨h1,h2⟩]
    simp
   ·rw [decide_eq_false (fun h:lZ d=>h2 h.2)]
    simp [h2]
  |false=>
   rw [if_neg bR,Bool.and_false]
 ·rw [decide_eq_false h1,Bool.false_and,if_neg bR,decide_eq_false (fun h:lZ d=>h1 h.1)]
  rfl
def EG (lo dom:List UInt8) (lit:Bool):Bool:=
 decide (lo.length≤64) && (if lit=true then FR dom && decide (dom.map fL=dom) else iU (aA dom) && decide (lZ dom))
def Nr (b:UInt8):Bool:=decide (yR b)
theorem Hv (lo dom:List UInt8) (lit:Bool) (hlo:lo.length < 4294967281) (hl:dom.length < 4294967281):∀ (k i:Nat),lo.length - i + dom.length + 6 < k→i≤lo.length→
 dZ.l0 k (lo.length:Int) (i:Int) (aA lo) (aA dom) lit=some ((lo.drop i).all Nr && EG lo dom lit)
 | 0,_,h,_ =>absurd h (Nat.not_lt_zero _)
 |k + 1,i,hk,hi=>by
  unfold dZ.l0
  by_cases hlt:i < lo.length
  ·have hd:lo.drop i=lo[i] :: lo.drop (i + 1):=List.drop_eq_getElem_cons hlt
   have hb:bt (aA lo) (i:Int)=(lo[i].toNat:Int):=by
    rw [Sp lo i hlt,List.getD_eq_getElem?_getD,List.getElem?_eq_getElem hlt]
    rfl
   rw [if_pos aq,if_pos aq,if_pos kj,hb,hd,List.all_cons]
   by_cases h1:lo[i] < 32
   ·rw [if_pos (O4.mpr h1)]
    have:Nr lo[i]=false:=decide_eq_false (fun h=>h (.inl h1))
    rw [this]
    rfl
   ·rw [if_neg (fun h=>h1 (O4.mp h))]
    by_cases h2: 126 < lo[i]
    ·rw [if_pos (FA.mpr h2)]
     have:Nr lo[i]=false:=decide_eq_false (fun h=>h (.inr h2))
     rw [this]
     rfl
    ·rw [if_neg (fun h=>h2 (FA.mp h)),rG i aq]
     have:Nr lo[i]=true:=decide_eq_true (fun h=>h.elim h1 h2)
     rw [this,Bool.true_and]
     exact Hv lo dom lit hlo hl k (i + 1) aq aq
  ·rw [if_neg aq,List.drop_of_length_le aq,List.all_nil,Bool.true_and]
   unfold EG
   cases lit with
   |true=>
    rw [if_pos rfl,if_pos rfl,rW lo dom true k aq]
    simp only [Option.bind_some,Bool.true_or,Bool.and_true]
    by_cases h64:lo.length≤64
    ·rw [decide_eq_true h64,if_pos rfl,vZ dom hl k aq,Bool.true_and]
     simp only [Option.bind_some]
     cases hL:FR dom with
     |true=>
      rw [if_pos rfl,Hu dom hl]
      simp only [Option.bind_some,Bool.true_and]
      rw [toList_mk,toList_mk]
      by_cases h2:dom.map fL=dom
      ·rw [decide_eq_true h2,h2];simp
      ·rw [decide_eq_false h2];simp [h2]
     |false=>rw [if_neg bR];rfl
    ·rw [decide_eq_false h64,if_neg bR];rfl
   |false=>
    rw [if_neg bR,if_neg bR,rW lo dom false k aq]
    simp only [Option.bind_some,Bool.false_or]
    by_cases h64:lo.length≤64
    ·rw [decide_eq_true h64,Bool.true_and,Bool.true_and]
     cases hs:iU (aA dom) with
     |true=>
      rw [if_pos rfl,Nq dom hl k aq,hs]
      simp
     |false=>rw [if_neg bR];rfl
    ·rw [decide_eq_false h64,Bool.false_and,if_neg bR];rfl
def boxedB (lo dom:List UInt8) (lit:Bool):Bool:=lo.all Nr && EG lo dom lit
theorem WG (lo dom:List UInt8) (lit:Bool) (hlo:lo.length < 4294967281) (hl:dom.length < 4294967281) (k:Nat) (hk:lo.length + dom.length + 6 < k):dZ.f k (aA lo) (aA dom) lit=some (boxedB lo dom lit):=by
 unfold dZ.f boxedB
 rw [bO]
 have:=Hv lo dom lit hlo hl k 0 aq (Nat.zero_le _)
 rw [List.drop_zero] at this
 exact this
theorem TL {lo dom:List UInt8} {lit:Bool} (hl:dom.length < 4294967281) (h:boxedB lo dom lit=true):wC lo dom lit∧lo.length≤64∧(lit=false→iU (aA dom)=true)∧dom≠ []:=by
 unfold boxedB EG at h
 simp only [Bool.and_eq_true,decide_eq_true_eq,List.all_eq_true] at h
 obtain ⟨h1,h64,h2⟩:=h
 have hf:∀ b,b∈lo→yR b:=fun b hb=>of_decide_eq_true (h1 b hb)
 cases lit with
 |true=>
  simp only [if_true,Bool.and_eq_true,decide_eq_true_eq] at h2
  have hg:=M4 dom h2.1
  refine ⟨⟨hf,fun e=>(by cases e),fun _ =>⟨?_,hg.1,h2.2⟩⟩,h64,fun e=>(by cases e),?_⟩
  ·rw [EC dom hl];exact h2.1
  ·rintro rfl
   exact absurd h2.1 gG
 |false=>
  simp only [Bool.false_eq_true,if_false,Bool.and_eq_true,decide_eq_true_eq] at h2
  refine ⟨⟨hf,fun _ =>h2.2,fun e=>(by cases e)⟩,h64,fun _ =>h2.1,?_⟩
  obtain ⟨b,d',e,_⟩:=h2.2.head
  rw [e]
  simp
def wq (a:Bool) (ds:List (List UInt8)) (lo dom:List UInt8) (lit:Bool):Bool:=
 if a=true then decide (ds= []∧lo= []∧dom= []) && !lit
 else if lo= [112,111,115,116,109,97,115,116,101,114]∧dom= []∧lit=false then decide (ds= [])
 else boxedB lo dom lit && (decide (ds.length≤20) && ds.all fun d=>decide (lZ d) && iU (aA d))
theorem WH (ds:List (List UInt8)) (M:Nat) (hM:∀ d,d∈ds→d.length≤M) (hl:M < 4294967281) (k:Nat) (hk:ds.length + M + 10 < k) (h20:ds.length≤20):
 b9.f k (ds.map aA)=some (!(ds.all fun d=>decide (lZ d) && iU (aA d))):=by
 rw [M8 (g:=fun y=>!(decide (lZ y.data.toList) && iU y)) (k0:=M + 4) (fun y hy k hk=>by
  obtain ⟨d,hd',rfl⟩:=List.mem_map.mp hy
  have:=hM d hd'
  unfold kQ.f
  rw [Nq d aq k aq]
  rfl) k kY kY]
 congr 1
 clear hM hk h20
 induction ds with
 |nil=>rfl
 |cons d ds ih=>
  rw [List.map_cons,List.any_cons,List.all_cons,ih]
  exact (Bool.not_and ..).symm
theorem CX (ds:List (List UInt8)) (lo dom:List UInt8) (lit:Bool):wq true ds lo dom lit=(decide (ds= []∧lo= []∧dom= []) && !lit):=rfl
theorem Bt (ds:List (List UInt8)):wq false ds [112,111,115,116,109,97,115,116,101,114] [] false=decide (ds= []):=rfl
theorem Pw (ds:List (List UInt8)) (lo dom:List UInt8) (lit:Bool) (hp: ¬ (lo= [112,111,115,116,109,97,115,116,101,114]∧dom= []∧lit=false)):
 wq false ds lo dom lit=(boxedB lo dom lit && (decide (ds.length≤20) && ds.all fun d=>decide (lZ d) && iU (aA d))):=by
 unfold wq
 rw [if_neg bR,if_neg hp]
theorem TM (a:Bool) (ds:List (List UInt8)) (lo dom:List UInt8) (lit:Bool) (M:Nat) (hM:∀ d,d∈ds→d.length≤M) (hlo:lo.length≤M) (hd:dom.length≤M) (hl:M < 4294967281) (k:Nat) (hk: 2 * M + 110 < k):
 fI.f k a (ds.map aA) (aA lo) (aA dom) lit=some (wq a ds lo dom lit):=by
 cases a with
 |true=>
  unfold fI.f
  rw [toList_mk,toList_mk,List.length_map,CX,if_pos rfl]
  cases ds with
  |nil=>
   rw [if_pos (by rfl)]
   cases lo<;>cases dom<;>cases lit<;>rfl
  |cons d ds=>
   rw [if_neg (by rw [List.length_cons];omega)]
   simp
 |false=>
  by_cases hp:lo= [112,111,115,116,109,97,115,116,101,114]∧dom= []∧lit=false
  ·obtain ⟨rfl,rfl,rfl⟩:=hp
   unfold fI.f
   rw [toList_mk,toList_mk,List.length_map,Bt,if_neg bR,if_pos bR]
   cases ds with
   |nil=>rfl
   |cons d ds=>
    have e:(((d :: ds).length:Int) == 0)=false:=by
     rw [List.length_cons]
     exact beq_eq_false_iff_ne.mpr aq
    rw [e]
    simp
  ·unfold fI.f
   rw [toList_mk,toList_mk,List.length_map,Pw ds lo dom lit hp,if_neg bR,if_neg (by
    intro h
    apply hp
    simp only [Bool.and_eq_true,beq_iff_eq,Bool.not_eq_true'] at h
    exact h),WG lo dom lit aq aq k aq]
   simp only [Option.bind_some]
   cases hb:boxedB lo dom lit with
   |false=>
    rw [Bool.false_and]
    exact if_neg bR
   |true=>
    rw [if_pos rfl,Bool.true_and]
    by_cases h20:ds.length≤20
    ·rw [if_pos aq,WH ds M hM hl k aq h20,decide_eq_true h20,Bool.true_and]
     simp
    ·rw [if_neg aq,decide_eq_false h20,Bool.false_and]
theorem TN {ds:List (List UInt8)} {lo dom:List UInt8} {lit:Bool} (hl:dom.length < 4294967281) (hp: ¬ (lo= [112,111,115,116,109,97,115,116,101,114]∧dom= []∧lit=false)) (h:wq false ds lo dom lit=true):
 boxedB lo dom lit=true∧(∀ d,d∈ds→lZ d)∧wC lo dom lit∧Fits ds lo dom lit∧dom≠ []:=by
 unfold wq at h
 rw [if_neg bR,if_neg hp] at h
 simp only [Bool.and_eq_true,decide_eq_true_eq,List.all_eq_true] at h
 obtain ⟨h1,h2,h3⟩:=h
 obtain ⟨b1,b2,b3,b4⟩:=TL hl h1
 exact ⟨h1,fun d hd=>(h3 d hd).1,b1,⟨b2,b3,h2,fun d hd=>(h3 d hd).2⟩,b4⟩
end Go.Proofs.YtokpnfljjjjikaaGreatDoor.kH
namespace Go.Proofs.YtokpnfljjjjikaaGreatDoor.kH
open Go.RowKit Go.Proofs.YtokpnfljjjjikaaGreatDoor Go.Proofs.YtokpnfljjjjikaaGreatDoor.nX Go.Proofs.aj.bW Go.Proofs.aj.dz
set_option linter.unusedVariables false
set_option linter.unusedSimpArgs false
theorem Hw (s v:ByteArray) (b:Bool) (hv:v.size < 4611686018427387904):∀ (k i:Nat),i≤v.size→bP.l1 k (v.size:Int) (i:Int) s v b=some true→
 (∀ j:Nat,i≤j→j < v.size→33≤bt v (j:Int)∧bt v (j:Int)≤126∧bt v (j:Int)≠61)∧(b == (v.toList != ([]:List UInt8)))=true
 | 0,i,_,h=>by simp [bP.l1] at h
 |k + 1,i,hi,h=>by
  unfold bP.l1 at h
  by_cases hlt:i < v.size
  ·have hw:wrap64 ((i:Int) + 1)=((i + 1:Nat):Int):=by unfold wrap64;omega
   rw [if_pos aq,if_pos aq,if_pos aq,hw] at h
   split at h
   ·cases h
   ·split at h
    ·cases h
    ·split at h
     ·cases h
     ·obtain ⟨h1,h2⟩:=Hw s v b hv k (i + 1) aq h
      refine ⟨fun j hj hj2=>?_,h2⟩
      by_cases e:j=i
      ·subst e
       omega
      ·exact h1 j aq hj2
  ·rw [if_neg aq] at h
   refine ⟨fun j hj hj2=>by omega,?_⟩
   split at h
   ·cases h
   ·exact Option.some.inj h
def aaj (c:Int):Prop:=(65≤c∧c≤90)∨(48≤c∧c≤57)∨c=45
theorem Hx (s v:ByteArray) (b:Bool) (hs:s.size < 4611686018427387904):∀ (k i:Nat),i≤s.size→bP.l0 k (s.size:Int) (i:Int) s v b=some true→
 (∀ j:Nat,i≤j→j < s.size→aaj (bt s (j:Int)))∧∃ k',bP.l1 k' (v.size:Int) 0 s v b=some true
 | 0,i,_,h=>by simp [bP.l0] at h
 |k + 1,i,hi,h=>by
  unfold bP.l0 at h
  by_cases hlt:i < s.size
  ·have hw:wrap64 ((i:Int) + 1)=((i + 1:Nat):Int):=by unfold wrap64;omega
   rw [if_pos aq,if_pos aq,if_pos aq,hw] at h
   have key:aaj (bt s (i:Int))∧bP.l0 k (s.size:Int) ((i + 1:Nat):Int) s v b=some true:=by
    unfold aaj
    repeat' split at h
    all_goals first|(cases h;done)|exact ⟨aq,h⟩
   obtain ⟨h1,h2⟩:=Hx s v b hs k (i + 1) aq key.2
   refine ⟨fun j hj hj2=>?_,h2⟩
   by_cases e:j=i
   ·subst e
    exact key.1
   ·exact h1 j aq hj2
  ·rw [if_neg aq] at h
   exact ⟨fun j hj hj2=>by omega,k,h⟩
theorem WI (b:UInt8):(65≤(b.toNat:Int)∧(b.toNat:Int)≤90)∨(48≤(b.toNat:Int)∧(b.toNat:Int)≤57)∨(b.toNat:Int)=45→Bq b=b∧b≠61∧b≠32:=
 fJ (Q:=fun b=>(65≤(b.toNat:Int)∧(b.toNat:Int)≤90)∨(48≤(b.toNat:Int)∧(b.toNat:Int)≤57)∨(b.toNat:Int)=45→Bq b=b∧b≠61∧b≠32) gG b
theorem WJ (b:UInt8): 33≤(b.toNat:Int)∧(b.toNat:Int)≤126∧(b.toNat:Int)≠61→b≠32:=
 fJ (Q:=fun b=>33≤(b.toNat:Int)∧(b.toNat:Int)≤126∧(b.toNat:Int)≠61→b≠32) gG b
theorem Ns {l:List UInt8} {Q:Int→Prop} (h:∀ j:Nat,0≤j→j < (aA l).size→Q (bt (aA l) (j:Int))) (b:UInt8) (hb:b∈l):Q (b.toNat:Int):=by
 obtain ⟨j,hj,rfl⟩:=List.mem_iff_getElem.mp hb
 have h1:=h j (Nat.zero_le _) (by rw [bO];exact hj)
 rw [Pq l j hj,List.getD_eq_getElem?_getD,List.getElem?_eq_getElem hj] at h1
 exact h1
theorem xG {k:Nat} {p:gP} (h:sJ k p) (h0:p.f0.size < 4611686018427387904) (h1:p.f1.size < 4611686018427387904):jr (jZ p)=p∧(32:UInt8) ∉ jZ p:=by
 obtain ⟨f0,f1,f2⟩:=p
 obtain ⟨x,rfl⟩:∃ x,f0=aA x:=⟨f0.data.toList,(mk_data f0).symm⟩
 obtain ⟨y,rfl⟩:∃ y,f1=aA y:=⟨f1.data.toList,(mk_data f1).symm⟩
 have hh:bP.f k (aA x) (aA y) f2=some true:=h
 unfold bP.f at hh
 obtain ⟨hk,k',h3⟩:=Hx (aA x) (aA y) f2 h0 k 0 (Nat.zero_le _) hh
 obtain ⟨hv,h4⟩:=Hw (aA x) (aA y) f2 h1 k' 0 (Nat.zero_le _) h3
 have kx:∀ b,b∈x→Bq b=b∧b≠61∧b≠32:=fun b hb=>WI b (Ns (Q:=aaj) hk b hb)
 have vy:∀ b,b∈y→b≠32:=fun b hb=>WJ b (Ns (Q:=fun c=>33≤c∧c≤126∧c≠61) hv b hb)
 have x61:(61:UInt8) ∉ x:=fun hm=>(kx 61 hm).2.1 rfl
 have x32:(32:UInt8) ∉ x:=fun hm=>(kx 32 hm).2.2 rfl
 have y32:(32:UInt8) ∉ y:=fun hm=>vy 32 hm rfl
 have xup:x.map Bq=x:=by
  have:=List.map_congr_left (f:=Bq) (g:=id) fun b hb=>(kx b hb).1
  rw [this,List.map_id]
 have hwo:jZ ⟨aA x,aA y,f2⟩=x ++ (if f2=true then 61 :: y else []):=rfl
 rw [hwo]
 rw [toList_mk] at h4
 cases f2 with
 |true=>
  rw [if_pos rfl]
  refine ⟨?_,fun hm=>?_⟩
  ·unfold jr
   rw [ED 61 y x x61]
   simp only
   rw [xup]
  ·rcases List.mem_append.mp hm with hm|hm
   ·exact x32 hm
   ·rcases List.mem_cons.mp hm with e|hm
    ·exact absurd e bR
    ·exact y32 hm
 |false=>
  rw [if_neg bR,List.append_nil]
  have hy:y= []:=by
   cases y with
   |nil=>rfl
   |cons c y=>simp at h4
  subst hy
  refine ⟨?_,x32⟩
  unfold jr
  rw [yN 61 x x61]
  simp only
  rw [xup]
theorem TP (k:Nat) (P:List gP) (h:∀ p,p∈P→sJ k p) (hs:∀ p,p∈P→p.f0.size < 4611686018427387904∧p.f1.size < 4611686018427387904) (hl:(j3 P).length < 4294967281):bV.f k (aA (j3 P))=some (P,true):=by
 have e:(P.map jZ).map jr=P:=by
  rw [List.map_map]
  have:=List.map_congr_left (f:=jr ∘jZ) (g:=id) fun p hp=>(xG (h p hp) (hs p hp).1 (hs p hp).2).1
  rw [this,List.map_id]
 have hb:=CP k (P.map jZ) (fun x hx=>by
  obtain ⟨p,hp,rfl⟩:=List.mem_map.mp hx
  exact (xG (h p hp) (hs p hp).1 (hs p hp).2).2) hl (fun x hx=>by
  obtain ⟨p,hp,rfl⟩:=List.mem_map.mp hx
  show sJ k (jr (jZ p))
  rw [(xG (h p hp) (hs p hp).1 (hs p hp).2).1]
  exact h p hp)
 rw [e] at hb
 exact hb
theorem Nt (P:List gP) (hP:P.length≤1048576) (hs:∀ p,p∈P→p.f0.size≤1048576∧p.f1.size≤1048576):∀ (k i:Nat),P.length - i + 3000000 < k→i≤P.length→∃ r,aW.l0 k P (P.length:Int) (i:Int)=some r∧(r < 0→∀ j (hj:j < P.length),i≤j→sJ 3000000 P[j])
 | 0,i,hk,_ =>absurd hk (Nat.not_lt_zero _)
 |k + 1,i,hk,hi=>by
  unfold aW.l0
  by_cases hlt:i < P.length
  ·have hw:wrap64 ((i:Int) + 1)=((i + 1:Nat):Int):=by unfold wrap64;omega
   have hr:dN P (i:Int)=P[i]:=by
    unfold dN
    rw [List.getD_eq_getElem?_getD,show ((i:Int)).toNat=i by omega,List.getElem?_eq_getElem hlt]
    rfl
   obtain ⟨z0,z1⟩:=hs _ (List.getElem_mem hlt)
   obtain ⟨b,hb⟩:=Ge P[i].f0 P[i].f1 P[i].f2 aq aq 3000000 aq
   have hp:jq.f k P[i].f0 P[i].f1 P[i].f2=some (!b):=by
    unfold jq.f
    rw [oV (fun k=>bP.mono _ _ _ k) (show 3000000≤k by omega) hb]
    rfl
   rw [if_pos aq,if_pos aq,if_pos aq,hr,hp,hw]
   simp only [Option.bind_some]
   cases b with
   |false=>exact ⟨_,rfl,fun h=>by omega⟩
   |true=>
    obtain ⟨r,h1,h2⟩:=Nt P hP hs k (i + 1) aq aq
    refine ⟨r,h1,fun h j hj hij=>?_⟩
    by_cases e:j=i
    ·subst e
     exact hb
    ·exact h2 h j hj aq
  ·rw [if_neg aq]
   exact ⟨_,rfl,fun h j hj hij=>by omega⟩
theorem TQ (P:List gP) (hP:P.length≤1048576) (hs:∀ p,p∈P→p.f0.size≤1048576∧p.f1.size≤1048576) (k:Nat) (hk: 4100000≤k):∃ b,bK.f k P=some b∧(b=false→∀ p,p∈P→sJ 3000000 p):=by
 obtain ⟨r,h1,h2⟩:=Nt P hP hs k 0 aq (Nat.zero_le _)
 rw [show ((0:Nat):Int)=0 from rfl] at h1
 unfold bK.f aW.f
 rw [h1]
 refine ⟨_,rfl,fun hb p hp=>?_⟩
 obtain ⟨j,hj,rfl⟩:=List.mem_iff_getElem.mp hp
 exact h2 (by have:=of_decide_eq_false hb;omega) j hj (Nat.zero_le _)
end Go.Proofs.YtokpnfljjjjikaaGreatDoor.kH
namespace Go.Proofs.YtokpnfljjjjikaaGreatDoor.kH
open Go.RowKit Go.Proofs.YtokpnfljjjjikaaGreatDoor Go.Proofs.YtokpnfljjjjikaaGreatDoor.nX Go.Proofs.aj.bW Go.Proofs.aj.dz
set_option linter.unusedVariables false
set_option linter.unusedSimpArgs false
theorem abv:∀ l:List UInt8,(qL l).length≤2 * l.length
 | []=>Nat.le_refl _
 |b :: l=>by
  have e:qL (b :: l)=qL [b] ++ qL l:=by
   have:=B0 [b] l
   simpa using this
  rw [e,List.length_append,List.length_cons]
  have:=Wv b
  have:=abv l
  omega
theorem TR (l:List UInt8):(pZ l).length≤2 * l.length + 2:=by
 unfold pZ
 split
 ·omega
 ·have:=abv l
  simp only [List.length_cons,List.length_append,List.length_nil]
  omega
theorem WK (lo dom:List UInt8) (lit:Bool):(iW lo dom lit).length≤2 * lo.length + dom.length + 5:=by
 unfold iW
 have:=TR lo
 rw [List.length_append]
 cases lit with
 |true=>
  rw [if_pos rfl]
  simp only [List.length_cons,List.length_append,List.length_nil]
  omega
 |false=>
  rw [if_neg bR,List.length_cons]
  omega
theorem Hy (M:Nat):∀ ds:List (List UInt8),(∀ d,d∈ds→d.length≤M)→(fY ds).length≤ds.length * (M + 2)
 | [],_ =>Nat.zero_le _
 | [d],h=>by
   have:=h d (List.mem_cons_self ..)
   show (64 :: d).length≤_
   simp
   omega
 |d :: e :: ds,h=>by
  have h1:=h d (List.mem_cons_self ..)
  have h2:=Hy M (e :: ds) (fun x hx=>h x (List.mem_cons_of_mem _ hx))
  show (64 :: (d ++ 44 :: fY (e :: ds))).length≤_
  rw [List.length_cons,List.length_append,List.length_cons,List.length_cons (a:=d),Nat.add_mul]
  omega
theorem TS {ds:List (List UInt8)} {lo dom:List UInt8} {lit:Bool} (hf:Fits ds lo dom lit):(gw ds lo dom lit).length≤dom.length + 6000:=by
 have h1:=WK lo dom lit
 have h2:=hf.los
 cases ds with
 |nil=>show (iW lo dom lit).length≤_;omega
 |cons d ds=>
  have h3:=Hy 255 (d :: ds) (fun x hx=>by have:=Pk _ (hf.each x hx);rwa [bO] at this)
  have h4:=hf.many
  have h5:(d :: ds).length * (255 + 2)≤20 * 257:=Nat.mul_le_mul_right 257 h4
  show (fY (d :: ds) ++ 58 :: iW lo dom lit).length≤_
  rw [List.length_append,List.length_cons]
  omega
theorem WL (R:List ByteArray):(R.map fun y=>y.data.toList).map aA=R:=by
 rw [List.map_map]
 have:=List.map_congr_left (l:=R) (f:=aA ∘fun y=>y.data.toList) (g:=id) fun y _ =>mk_data y
 rw [this,List.map_id]
theorem Nu (a:Bool) (ds:List (List UInt8)) (lo dom:List UInt8) (lit:Bool) (hd:∀ d,d∈ds→d.length≤1048576) (hlo:lo.length≤1048576) (hdom:dom.length≤1048576) (hr:wq a ds lo dom lit=true):
 ∃ t,WB a (ds.map aA) (aA lo) (aA dom) lit t.length t∧ds.length≤20∧t.length≤dom.length + 6100:=by
 cases a with
 |true=>
  rw [CX] at hr
  simp only [Bool.and_eq_true,decide_eq_true_eq,Bool.not_eq_true'] at hr
  obtain ⟨⟨rfl,rfl,rfl⟩,rfl⟩:=hr
  exact ⟨[60,62],⟨bn,fun k hk=>zB _,fun k hk=>Gc _,fun k hk more hm=>sH _ (by rw [bO];simp;omega) k (by rfl),bn⟩,bn,bn⟩
 |false=>
  by_cases hp:lo= [112,111,115,116,109,97,115,116,101,114]∧dom= []∧lit=false
  ·obtain ⟨rfl,rfl,rfl⟩:=hp
   rw [Bt] at hr
   obtain rfl:=of_decide_eq_true hr
   exact ⟨ud,⟨bn,fun k hk=>xC _,fun k hk=>CQ _,fun k hk more hm=>CR more aq k aq,by simp [ud]⟩,bn,by simp [ud]⟩
  ·obtain ⟨hb,d1,d2,d3,d4⟩:=TN aq hp hr
   have hw:=TS d3
   obtain ⟨w1,w2⟩:=Br ds lo dom lit
   have hne:gw ds lo dom lit≠ []:=by
    intro e
    rw [e] at w2
    simp at w2
   have hlt:(60 :: (gw ds lo dom lit ++ [62])).length=(gw ds lo dom lit).length + 2:=by
    rw [List.length_cons,List.length_append]
    rfl
   refine ⟨60 :: (gw ds lo dom lit ++ [62]),⟨Nat.le_refl _,fun k hk=>FZ d1 d2 d3 d4 1048576 hd hdom aq _ aq,fun k hk=>Nb d1 d2 d3 d4 1048576 hd hdom aq aq _ aq,fun k hk more hm=>?_,aq⟩,d3.many,aq⟩
   have hpb:=F6 d1 d2 d3 1048576 hd hdom aq hne k aq aq more aq aq
   rw [hlt,← hpb]
   congr 2
   simp
theorem TT (w u:List UInt8) (hl:(w ++ u).length < 4611686018427387904):strings_HasPrefix.f (aA (w ++ u)) (aA w)=some true:=by
 rw [List.length_append] at hl
 unfold strings_HasPrefix.f stringslite_HasPrefix.f
 rw [bO,bO,if_pos Dy,if_pos aq,if_pos Dy,show ((w.length:Int)).toNat=w.length by omega,wo,List.take_left]
 simp
theorem Bu (k:Nat) (hk: 5000≤k) {v:Int} {a:ByteArray} {n:Bool} {R:List ByteArray} {lo dom:ByteArray} {lit:Bool} {P:List gP} (h:eU.f k v a n R lo dom lit P=some false):fA.f k v a n R lo dom lit P=some true:=by
 have hp:fT.f k v a n R lo dom lit P=some (⟨#[]⟩,2):=by
  unfold fT.f
  rw [h]
  rfl
 unfold fA.f
 rw [hp,h]
 simp only [Option.bind_some,Bool.false_eq_true,if_false,if_true]
 rw [if_pos gG,CW k aq]
 rfl
theorem Hz (k:Nat) (hk: 5000≤k) {v:Int} {a:ByteArray} {n:Bool} {R:List ByteArray} {lo dom:ByteArray} {lit:Bool} {P:List gP} (w u:List UInt8) (r:BQ)
 (hb:fG.f k v a n R lo dom lit P=some true) (hw:bY.f k v a n R lo dom lit P=some (aA (w ++ u))) (hword:fy.f v=some (aA w)) (hp:ak.f k (aA (w ++ u))=some r)
 (hs:r.2.2.2.2.2.2.2.2=0→r.1=v→r.2.1.toList=a.toList→r=(v,a,n,R,lo,dom,lit,P,0)) (hl:r.2.2.2.2.2.2.2.2=0→(w ++ u).length≤510) (hR:R.length≤1000) (hP:r.2.2.2.2.2.2.2.2=0→P.length≤1000):fA.f k v a n R lo dom lit P=some true:=by
 have hright:∀ x,(if r.2.2.2.2.2.2.2.2=0 then (if r.1=v then (some (r.2.1.toList == a.toList)) else (some false)) else (some false))=some x→eU.f k v a n R lo dom lit P=some x:=by
  intro x hx
  unfold eU.f
  rw [hb]
  simp only [Option.bind_some,if_true]
  rw [hw]
  simp only [Option.bind_some]
  rw [hp]
  simp only [Option.bind_some]
  exact hx
 by_cases h1:r.2.2.2.2.2.2.2.2=0
 case neg=>exact Bu k hk (hright false (by rw [if_neg h1]))
 by_cases h2:r.1=v
 case neg=>exact Bu k hk (hright false (by rw [if_pos h1,if_neg h2]))
 by_cases h3:r.2.1.toList=a.toList
 case neg=>exact Bu k hk (hright false (by rw [if_pos h1,if_pos h2,beq_eq_false_iff_ne.mpr h3]))
 have ht:=hright true (by rw [if_pos h1,if_pos h2,beq_iff_eq.mpr h3])
 obtain rfl:=hs h1 h2 h3
 have hlen:=hl rfl
 have hPl:=hP rfl
 have hpr:fT.f k v a n R lo dom lit P=some (aA (w ++ u),0):=by
  unfold fT.f
  rw [ht]
  simp only [Option.bind_some,if_true]
  rw [hw]
  rfl
 unfold fA.f
 rw [hpr,ht]
 simp only [Option.bind_some,if_true]
 rw [hp]
 simp only [Option.bind_some,if_true]
 rw [Pt v a n R lo dom lit P hR hPl k hk]
 simp only [Option.bind_some,if_true]
 rw [bO,if_pos aq,hword]
 simp only [Option.bind_some]
 rw [TT w u aq]
 simp only [Option.bind_some,if_true]
 rw [CW k aq]
 rfl
theorem WM {e:Int} {r:BQ} (h:ak.z e=some r):r.2.2.2.2.2.2.2.2=e:=by
 rw [← Option.some.inj h]
theorem HJ (L:List UInt8) (k:Nat) (hk: 3000000≤k):∃ r,ak.f k (aA L)=some r∧((r.2.2.2.2.2.2.2.2≠0)∨(L.length≤510∧Told L r)):=by
 by_cases hL:L.length≤510
 ·obtain ⟨r,h1,h2⟩:=Pv L hL
  exact ⟨r,oV (fun k=>ak.mono _ k) hk h1,.inr ⟨hL,h2⟩⟩
 ·refine ⟨(0,⟨#[]⟩,false,[],⟨#[]⟩,⟨#[]⟩,false,[],3),?_,.inl bR⟩
  unfold ak.f
  rw [bO,if_pos aq]
  rfl
theorem Cc (v:Int) (hv: 0≤v∧v < 256) (a:ByteArray) (n:Bool) (R:List ByteArray) (lo dom:ByteArray) (lit:Bool) (P:List gP) (ha:a.size≤1048576) (hR:R.length≤1048576) (hRs:∀ y,y∈R→y.size≤1048576) (hlo:lo.size≤1048576) (hdom:dom.size≤1048576) (hP:P.length≤1048576) (hPs:∀ p,p∈P→p.f0.size≤1048576∧p.f1.size≤1048576):
 ∃ k,fA.f k v a n R lo dom lit P=some true:=by
 refine ⟨6000000,?_⟩
 have bad:fG.f 6000000 v a n R lo dom lit P=some false→fA.f 6000000 v a n R lo dom lit P=some true:=by
  intro h
  refine Bu _ aq ?_
  unfold eU.f
  rw [h]
  rfl
 by_cases h34:v=3∨v=4
 ·have hc:ez.f v=some true:=by rcases h34 with rfl|rfl<;>rfl
  have hvb:rD v:=by unfold rD;omega
  obtain ⟨f1,f2,f3,f4,f5,f6⟩:=oP hvb
  obtain ⟨g1,g2⟩:=xD v
  have hrv:=TM n (R.map fun y=>y.data.toList) lo.data.toList dom.data.toList lit 1048576 (fun d hd=>by
   obtain ⟨y,hy,rfl⟩:=List.mem_map.mp hd
   have:=hRs y hy
   rw [dI]
   exact this) (by rw [dI];exact hlo) (by rw [dI];exact hdom) aq 6000000 aq
  rw [WL,mk_data,mk_data] at hrv
  obtain ⟨b,hb1,hb2⟩:=TQ P hP hPs 6000000 aq
  by_cases ha0:a.toList= []
  case neg=>
   refine bad ?_
   unfold fG.f
   rw [hc]
   simp only [Option.bind_some,if_true]
   rw [if_neg ha0]
  cases hr:wq n (R.map fun y=>y.data.toList) lo.data.toList dom.data.toList lit with
  |false=>
   refine bad ?_
   unfold fG.f
   rw [hc]
   simp only [Option.bind_some,if_true]
   rw [if_pos ha0,hrv,hr]
   rfl
  |true=>
   cases b with
   |true=>
    refine bad ?_
    unfold fG.f
    rw [hc]
    simp only [Option.bind_some,if_true]
    rw [if_pos ha0,hrv,hr]
    simp only [Option.bind_some,if_true]
    rw [hb1]
    rfl
   |false=>
    have hok:=hb2 rfl
    obtain ⟨t,ag,h20,htl⟩:=Nu n _ _ _ lit (fun d hd=>by
     obtain ⟨y,hy,rfl⟩:=List.mem_map.mp hd
     have:=hRs y hy
     rw [dI]
     exact this) (by rw [dI];exact hlo) (by rw [dI];exact hdom) hr
    rw [WL,mk_data,mk_data] at ag
    rw [List.length_map] at h20
    have hae:a=⟨#[]⟩:=by
     rw [ByteArray.toList_eq] at ha0
     rw [← mk_data a,ha0]
     rfl
    subst hae
    have WN:fG.f 6000000 v ⟨#[]⟩ n R lo dom lit P=some true:=by
     unfold fG.f
     rw [hc]
     simp only [Option.bind_some,if_true]
     rw [if_pos ha0,hrv,hr]
     simp only [Option.bind_some,if_true]
     rw [hb1]
     rfl
    have aqx:(j3 P).length≤4398046511104:=by
     have:∀ Q:List gP,(∀ p,p∈Q→p.f0.size≤1048576∧p.f1.size≤1048576)→(j3 Q).length≤Q.length * 2097154:=by
      intro Q
      induction Q with
      |nil=>intro _;exact Nat.zero_le _
      |cons p Q ih=>
       intro h
       have h1:=ih (fun q hq=>h q (List.mem_cons_of_mem _ hq))
       obtain ⟨z0,z1⟩:=h p (List.mem_cons_self ..)
       have e:(j3 (p :: Q)).length=(jZ p).length + (j3 Q).length + 1:=by
        show (32 :: (jZ p ++ j3 Q)).length=_
        rw [List.length_cons,List.length_append]
       have e2:(jZ p).length≤2097153:=by
        unfold jZ
        rw [List.length_append,dI]
        split
        ·rw [List.length_cons,dI];omega
        ·rw [List.length_nil];omega
       rw [e,List.length_cons,Nat.add_mul]
       omega
     have h2:=this P hPs
     have h3:P.length * 2097154≤1048576 * 2097154:=Nat.mul_le_mul_right _ hP
     omega
    have hdl:dom.data.toList.length≤1048576:=by rw [dI];exact hdom
    have Px:bY.f 6000000 v ⟨#[]⟩ n R lo dom lit P=some (aA (je v ++ 32 :: (fZ v ++ (t ++ j3 P)))):=by
     have hj:∀ (a:List UInt8),a.length≤6→∀ z:Int,∀ y:ByteArray,bY.j0 6000000 (aA (je v)) (aA a) z y n R lo dom lit P=some (aA (je v ++ (a ++ t) ++ j3 P)):=by
      intro a ha z y
      show bY.j0 (5999999 + 1) _ _ _ _ _ _ _ _ _ _=_
      rw [bY.j0,ag.pr 5999999 aq]
      simp only [Option.bind_some]
      have hrun:=yO P aq 5999999 0 (je v ++ (a ++ t)) aq (Nat.zero_le _) (by
       rw [List.drop_zero]
       show _ + (j3 P).length < _
       rw [List.length_append,List.length_append]
       omega)
      rw [List.drop_zero] at hrun
      rw [bO,bO,if_pos aq,jY,bO,bO,if_pos Dy,jY]
      exact hrun
     unfold bY.f
     rw [f5,hc]
     simp only [Option.bind_some,if_true]
     rcases h34 with rfl|rfl
     ·rw [if_pos rfl]
      refine (hj [32,70,82,79,77,58] bn 3 ⟨#[]⟩).trans ?_
      all_goals (congr 2;try (simp [fZ]))
     ·rw [if_neg bR]
      refine (hj [32,84,79,58] bn 4 ⟨#[]⟩).trans ?_
      all_goals (congr 2;try (simp [fZ]))
    obtain ⟨r,hp1,hp2⟩:=HJ (je v ++ 32 :: (fZ v ++ (t ++ j3 P))) 6000000 aq
    refine Hz 6000000 aq (je v) (32 :: (fZ v ++ (t ++ j3 P))) r WN Px f5 hp1 (fun e0 e1 e2=>?_) (fun e0=>?_) aq (fun e0=>?_)
    ·rcases hp2 with hp2|⟨hL,_⟩
     ·exact absurd e0 hp2
     have hL2:=hL
     rw [List.length_append,List.length_cons,List.length_append,List.length_append] at hL2
     have hPl:P.length≤(j3 P).length:=by
      have:∀ Q:List gP,Q.length≤(j3 Q).length:=by
       intro Q
       induction Q with
       |nil=>exact Nat.zero_le _
       |cons p Q ih=>
        show _≤(32 :: (jZ p ++ j3 Q)).length
        rw [List.length_cons,List.length_cons,List.length_append]
        omega
      exact this P
     have g:SE n R lo dom lit P t.length t:=⟨ag,fun k hk=>TP k P (fun p hp=>Ni hk (hok p hp)) (fun p hp=>by obtain ⟨z0,z1⟩:=hPs p hp;omega) aq,hok,aq,aq,aq⟩
     have hpd:=CU g v 6000000 aq
     rw [wm hvb _ _ (by rw [List.length_append,List.length_append];omega)] at hp1
     rcases h34 with rfl|rfl
     ·rw [(xE 6000000 _ true).2.2.1 rfl] at hp1
      unfold ak.Gs at hp1
      rw [show (⟨#[70,82,79,77,58]⟩:ByteArray)=aA (fZ 3) from rfl,hpd] at hp1
      simp only [Option.bind_some,if_true] at hp1
      split at hp1
      ·exact (Option.some.inj hp1).symm
      ·split at hp1
       ·exact absurd ((WM hp1).symm.trans e0) bR
       ·exact (Option.some.inj hp1).symm
     ·rw [(xE 6000000 _ true).2.2.2.1 rfl] at hp1
      unfold ak.Gt at hp1
      rw [show (⟨#[84,79,58]⟩:ByteArray)=aA (fZ 4) from rfl,hpd] at hp1
      simp only [Option.bind_some,if_true] at hp1
      split at hp1
      ·exact absurd ((WM hp1).symm.trans e0) bR
      ·exact (Option.some.inj hp1).symm
    ·rcases hp2 with hp2|⟨hL,_⟩
     ·exact absurd e0 hp2
     ·exact hL
    ·rcases hp2 with hp2|⟨hL,_⟩
     ·exact absurd e0 hp2
     ·have hPl:∀ Q:List gP,Q.length≤(j3 Q).length:=by
       intro Q
       induction Q with
       |nil=>exact Nat.zero_le _
       |cons p Q ih=>
        show _≤(32 :: (jZ p ++ j3 Q)).length
        rw [List.length_cons,List.length_cons,List.length_append]
        omega
      have:=hPl P
      rw [List.length_append,List.length_cons,List.length_append,List.length_append] at hL
      omega
 ·have hc:=zD (v:=v) aq aq
  by_cases hz:n=false∧R= []∧lo.toList= []∧dom.toList= []∧lit=false∧P= []
  case neg=>
   refine bad ?_
   unfold fG.f
   rw [hc]
   simp only [Option.bind_some,Bool.false_eq_true,if_false]
   by_cases c1:n=true
   ·rw [if_pos c1]
   rw [if_neg c1]
   by_cases c2:(R.length:Int)=0
   case neg=>rw [if_neg c2]
   rw [if_pos c2]
   by_cases c3:(lo.toList == ([]:List UInt8) && (dom.toList == ([]:List UInt8) && (!lit)))=true
   case neg=>rw [if_neg c3]
   rw [if_pos c3]
   simp only [Bool.and_eq_true,beq_iff_eq,Bool.not_eq_true'] at c3
   congr 1
   rw [beq_eq_false_iff_ne]
   intro c4
   exact hz ⟨Bool.eq_false_iff.mpr c1,List.eq_nil_of_length_eq_zero aq,c3.1,c3.2.1,c3.2.2,List.eq_nil_of_length_eq_zero aq⟩
  obtain ⟨rfl,rfl,aop,aha,rfl,rfl⟩:=hz
  have e0:∀ x:ByteArray,x.toList= []→x=⟨#[]⟩:=fun x hx=>by
   rw [ByteArray.toList_eq] at hx
   rw [← mk_data x,hx]
   rfl
  obtain rfl:=e0 lo aop
  obtain rfl:=e0 dom aha
  have WN:fG.f 6000000 v a false [] ⟨#[]⟩ ⟨#[]⟩ false []=some true:=by
   unfold fG.f
   rw [hc]
   simp only [Option.bind_some,Bool.false_eq_true,if_false]
   rw [if_pos (by rfl),if_pos gG]
   rfl
  have hword:fy.f v=some (aA (if v < 12 then je v else [])):=by
   unfold fy.f
   rw [if_pos hv]
   by_cases h12:v < 12
   ·rw [if_pos h12,if_pos h12]
    unfold je
    rw [mk_data]
   ·rw [if_neg h12,if_neg h12]
    rfl
  obtain ⟨w,hw⟩:∃ w,(if v < 12 then je v else [])=w:=⟨_,rfl⟩
  rw [hw] at hword
  have hwl:w.length≤4:=by
   rw [← hw]
   split
   ·rename_i h12
    by_cases hv0:v=0
    ·subst hv0;decide
    ·exact (oP (v:=v) (by unfold rD;omega)).2.2.2.1
   ·simp
  obtain ⟨x,rfl⟩:∃ x,a=aA x:=⟨a.data.toList,(mk_data a).symm⟩
  rw [bO] at ha
  have Px:bY.f 6000000 v (aA x) false [] ⟨#[]⟩ ⟨#[]⟩ false []=some (aA (w ++ sK x)):=by
   unfold bY.f
   rw [hword,hc]
   simp only [Option.bind_some,Bool.false_eq_true,if_false]
   rw [toList_mk]
   unfold sK
   by_cases hx0:x= []
   ·rw [if_pos hx0,if_pos hx0,List.append_nil]
   ·rw [if_neg hx0,if_neg hx0]
    have e1:(⟨#[32]⟩:ByteArray) ++ aA x=aA (32 :: x):=jY [32] x
    rw [e1,bO,bO,bO,if_pos aq,if_pos zJ,jY]
  obtain ⟨r,hp1,hp2⟩:=HJ (w ++ sK x) 6000000 aq
  refine Hz 6000000 aq w (sK x) r WN Px hword hp1 (fun e0 e1 e2=>?_) (fun e0=>?_) bn (fun e0=>by simp)
  ·rcases hp2 with hp2|⟨_,ht⟩
   ·exact absurd e0 hp2
   ·rcases ht with ⟨e,he,hee⟩|⟨v2,a2,n2,R2,lo2,Po,Pp,P2,t2,rfl,_,_,hz⟩
    ·have:=WM he.symm
     omega
    ·simp only at e1 e2
     subst e1
     have ea:a2=aA x:=by
      rw [toList_mk,ByteArray.toList_eq] at e2
      rw [← mk_data a2,e2]
     subst ea
     rcases hz with hz|hz|⟨rfl,rfl,rfl,rfl,rfl,rfl⟩
     ·omega
     ·omega
     ·rfl
  ·rcases hp2 with hp2|⟨hL,_⟩
   ·exact absurd e0 hp2
   ·exact hL
end Go.Proofs.YtokpnfljjjjikaaGreatDoor.kH
