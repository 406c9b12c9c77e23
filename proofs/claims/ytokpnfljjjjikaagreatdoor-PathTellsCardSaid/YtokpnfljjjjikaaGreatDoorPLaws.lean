import Derived.Test.YtokpnfljjjjikaaGreatDoorQPtx26
namespace Go.Proofs.YtokpnfljjjjikaaGreatDoor.jI
open Go.RowKit Go.Proofs.YtokpnfljjjjikaaGreatDoor Go.Proofs.YtokpnfljjjjikaaGreatDoor.mY Go.Proofs.aj.bO Go.Proofs.aj.cK
def rest (s:ByteArray) (p:Nat):List UInt8:=s.data.toList.drop p
theorem fX (s:ByteArray) (p:Nat):(rest s p).length=s.size - p:=by
 unfold rest
 rw [List.length_drop,gw]
theorem jD (s:ByteArray) (p n:Nat):rest s (p + n)=(rest s p).drop n:=by
 unfold rest
 rw [List.drop_drop]
theorem lH {s:ByteArray} {p:Nat} {b:UInt8} {l:List UInt8} (h:rest s p=b :: l):p < s.size∧bt s (p:Int)=(b.toNat:Int)∧rest s (p + 1)=l:=by
 have hlen:=fX s p
 rw [h] at hlen
 have hp:p < s.size:=by simp at hlen;omega
 refine ⟨hp,?_,?_⟩
 ·have h0:(rest s p)[0]? =some b:=by rw [h];rfl
  unfold rest at h0
  rw [List.getElem?_drop] at h0
  unfold bt
  have hp':((p:Int)).toNat < s.size:=by omega
  rw [dif_pos hp']
  have h1:s[((p:Int)).toNat]'hp'=b:=by
   have h2:s.data.toList[p]? =some b:=by simpa using h0
   rw [List.getElem?_eq_getElem (by rw [gw];exact hp)] at h2
   have h3:=Option.some.inj h2
   rw [← h3]
   simp [ByteArray.getElem_eq_getElem_data]
  rw [h1]
 ·rw [jD,h]
  rfl
theorem ng {s:ByteArray} {p:Nat} (h:rest s p= []):s.size≤p:=by
 have hlen:=fX s p
 rw [h] at hlen
 simp at hlen
 omega
theorem lq (s:ByteArray) (p q:Nat) (_h:p≤q):s.extract p q=au ((rest s p).take (q - p)):=by
 apply ByteArray.ext
 rw [← Array.toList_inj]
 simp [au,rest]
theorem kN {α:Type} (P:α→Bool):∀ l:List α,l.take (l.takeWhile P).length=l.takeWhile P
 | []=>rfl
 |b :: l=>by
  by_cases hb:P b=true
  ·simp [hb,kN P l]
  ·simp [hb]
theorem jE (n:Nat) (h:n < 4611686018427387904):wrap64 ((n:Int) + 1)=((n + 1:Nat):Int):=by unfold wrap64;omega
def bX (c:UInt8):List UInt8→Bool
 | []=>false
 |b :: _ =>b == c
theorem nV (s:ByteArray) (p:Nat) (c:UInt8) (ci:Int) (hc:ci=(c.toNat:Int)) (hs:s.size < 4611686018427387904):
 bV.f s (p:Int) ci=some (bX c (rest s p),s,(((if bX c (rest s p)=true then p + 1 else p):Nat):Int)):=by
 subst hc
 unfold bV.f
 cases hr:rest s p with
 |nil=>
  have:=ng hr
  rw [if_neg ak]
  rfl
 |cons b l=>
  obtain ⟨h1,h2,_⟩:=lH hr
  rw [if_pos ak,if_pos ak,h2]
  by_cases hb:b=c
  ·subst hb
   rw [if_pos rfl,jE p ak]
   simp [bX]
  ·rw [if_neg (by intro h;exact hb (UInt8.toNat_inj.mp ak))]
   simp [bX,hb]
def SY:List UInt8→UInt8
 | []=>0
 |b :: _ =>b
theorem SZ (s:ByteArray) (p:Nat):dD.f s (p:Int)=some (((SY (rest s p)).toNat:Int),s,(p:Int)):=by
 unfold dD.f
 cases hr:rest s p with
 |nil=>
  have:=ng hr
  rw [if_neg ak]
  rfl
 |cons b l=>
  obtain ⟨h1,h2,_⟩:=lH hr
  rw [if_pos ak,if_pos ak,h2]
  rfl
theorem fy {Q:UInt8→Prop} (h:∀ n,n < 256→Q (UInt8.ofNat n)) (b:UInt8):Q b:=by
 have:=h b.toNat (UInt8.toNat_lt b)
 rwa [UInt8.ofNat_toNat] at this
def iI (b:UInt8):Bool:=(eU.f (b.toNat:Int)).getD false
theorem aa5 (b:UInt8):eU.f (b.toNat:Int)=some (iI b):=by
 unfold iI
 have h:(eU.f (b.toNat:Int)).isSome=true:=by
  have h2:∀ n,n < 256→(eU.f ((n:Nat):Int)).isSome=true:=by decide +kernel
  exact h2 _ (UInt8.toNat_lt b)
 cases hf:eU.f (b.toNat:Int) with
 |none=>rw [hf] at h;cases h
 |some x=>rfl
def gV (b:UInt8):Bool:=(ji.f (b.toNat:Int)).getD false
theorem XH (b:UInt8):ji.f (b.toNat:Int)=some (gV b):=by
 unfold gV
 have h:(ji.f (b.toNat:Int)).isSome=true:=by
  have h2:∀ n,n < 256→(ji.f ((n:Nat):Int)).isSome=true:=by decide +kernel
  exact h2 _ (UInt8.toNat_lt b)
 cases hf:ji.f (b.toNat:Int) with
 |none=>rw [hf] at h;cases h
 |some x=>rfl
def jt (b:UInt8):Bool:=b != 93
theorem XI (b:UInt8):gG.f (b.toNat:Int)=some (jt b):=by
 unfold gG.f jt
 congr 1
 by_cases hb:b=93
 ·subst hb;rfl
 ·have: ¬ ((b.toNat:Int)=93):=by
   intro h
   exact hb (UInt8.toNat_inj.mp (by simpa using (ak:b.toNat=93)))
  rw [bne_iff_ne.mpr this,bne_iff_ne.mpr hb]
theorem S0 (s:ByteArray) (hs:s.size < 4611686018427387904) (a:Nat):∀ (k p:Nat),(rest s p).length < k→a≤p→p≤s.size→
 aX.l0 k (a:Int) s (p:Int)=some (s.extract a (p + ((rest s p).takeWhile iI).length),decide (a < p + ((rest s p).takeWhile iI).length),s,((p + ((rest s p).takeWhile iI).length:Nat):Int))
 | 0,p,h,_,_ =>absurd h (Nat.not_lt_zero _)
 |k + 1,p,h,ha,hp=>by
  unfold aX.l0
  cases hr:rest s p with
  |nil=>
   have:=ng hr
   rw [if_neg ak,if_pos ak,if_pos ak,if_pos ak]
   simp
   try exact decide_eq_decide.mpr Iff.rfl
  |cons c l=>
   obtain ⟨h1,h2,h3⟩:=lH hr
   rw [if_pos ak,if_pos ak,h2,aa5]
   simp only [Option.bind_some]
   by_cases hb:iI c=true
   ·rw [if_pos hb,jE p ak,S0 s hs a k (p + 1) D3 ak ak,h3]
    have e:p + 1 + (l.takeWhile iI).length=p + ((c :: l).takeWhile iI).length:=by simp [hb];omega
    rw [e]
   ·rw [if_neg hb,if_pos ak,if_pos ak,if_pos ak]
    simp [hb]
theorem aeT (s:ByteArray) (hs:s.size < 4611686018427387904) (k p:Nat) (hk:(rest s p).length < k) (hp:p≤s.size):
 aX.f k s (p:Int)=some (au ((rest s p).takeWhile iI),decide (0 < ((rest s p).takeWhile iI).length),s,((p + ((rest s p).takeWhile iI).length:Nat):Int)):=by
 unfold aX.f
 rw [S0 s hs p k p hk (Nat.le_refl _) hp,lq _ _ _ ak,Nat.add_sub_cancel_left,kN]
 congr 2
 simp
theorem MK (s:ByteArray) (hs:s.size < 4611686018427387904) (a:Nat):∀ (k p:Nat),(rest s p).length < k→a≤p→p≤s.size→
 bA.l0 k (a:Int) s (p:Int)=some (s.extract a (p + ((rest s p).takeWhile gV).length),decide (a < p + ((rest s p).takeWhile gV).length),s,((p + ((rest s p).takeWhile gV).length:Nat):Int))
 | 0,p,h,_,_ =>absurd h (Nat.not_lt_zero _)
 |k + 1,p,h,ha,hp=>by
  unfold bA.l0
  cases hr:rest s p with
  |nil=>
   have:=ng hr
   rw [if_neg ak,if_pos ak,if_pos ak,if_pos ak]
   simp
   try exact decide_eq_decide.mpr Iff.rfl
  |cons c l=>
   obtain ⟨h1,h2,h3⟩:=lH hr
   rw [if_pos ak,if_pos ak,h2,XH]
   simp only [Option.bind_some]
   by_cases hb:gV c=true
   ·rw [if_pos hb,jE p ak,MK s hs a k (p + 1) D3 ak ak,h3]
    have e:p + 1 + (l.takeWhile gV).length=p + ((c :: l).takeWhile gV).length:=by simp [hb];omega
    rw [e]
   ·rw [if_neg hb,if_pos ak,if_pos ak,if_pos ak]
    simp [hb]
theorem aa6 (s:ByteArray) (hs:s.size < 4611686018427387904) (k p:Nat) (hk:(rest s p).length < k) (hp:p≤s.size):
 bA.f k s (p:Int)=some (au ((rest s p).takeWhile gV),decide (0 < ((rest s p).takeWhile gV).length),s,((p + ((rest s p).takeWhile gV).length:Nat):Int)):=by
 unfold bA.f
 rw [MK s hs p k p hk (Nat.le_refl _) hp,lq _ _ _ ak,Nat.add_sub_cancel_left,kN]
 congr 2
 simp
theorem ML (s:ByteArray) (hs:s.size < 4611686018427387904) (a:Nat):∀ (k p:Nat),(rest s p).length < k→a≤p→p≤s.size→
 bg.l0 k (a:Int) s (p:Int)=some (s.extract a (p + ((rest s p).takeWhile jt).length),decide (a < p + ((rest s p).takeWhile jt).length),s,((p + ((rest s p).takeWhile jt).length:Nat):Int))
 | 0,p,h,_,_ =>absurd h (Nat.not_lt_zero _)
 |k + 1,p,h,ha,hp=>by
  unfold bg.l0
  cases hr:rest s p with
  |nil=>
   have:=ng hr
   rw [if_neg ak,if_pos ak,if_pos ak,if_pos ak]
   simp
   try exact decide_eq_decide.mpr Iff.rfl
  |cons c l=>
   obtain ⟨h1,h2,h3⟩:=lH hr
   rw [if_pos ak,if_pos ak,h2,XI]
   simp only [Option.bind_some]
   by_cases hb:jt c=true
   ·rw [if_pos hb,jE p ak,ML s hs a k (p + 1) D3 ak ak,h3]
    have e:p + 1 + (l.takeWhile jt).length=p + ((c :: l).takeWhile jt).length:=by simp [hb];omega
    rw [e]
   ·rw [if_neg hb,if_pos ak,if_pos ak,if_pos ak]
    simp [hb]
theorem aa7 (s:ByteArray) (hs:s.size < 4611686018427387904) (k p:Nat) (hk:(rest s p).length < k) (hp:p≤s.size):
 bg.f k s (p:Int)=some (au ((rest s p).takeWhile jt),decide (0 < ((rest s p).takeWhile jt).length),s,((p + ((rest s p).takeWhile jt).length:Nat):Int)):=by
 unfold bg.f
 rw [ML s hs p k p hk (Nat.le_refl _) hp,lq _ _ _ ak,Nat.add_sub_cancel_left,kN]
 congr 2
 simp
theorem rN (l:List UInt8) (i:Nat) (h:i < l.length):bt (au l) (i:Int)=((l.getD i 0).toNat:Int):=by
 unfold bt
 have h':((i:Int)).toNat < (au l).size:=by show _ < l.length;omega
 rw [dif_pos h']
 have:(au l)[((i:Int)).toNat]'(h')=l.getD i 0:=by
  simp only [Int.toNat_natCast]
  rw [List.getD_eq_getElem?_getD,List.getElem?_eq_getElem h]
  rfl
 rw [this]
theorem bN (l:List UInt8):(au l).size=l.length:=rfl
theorem mW {α:Type} (P:α→Bool) (l:List α):(l.takeWhile P).length≤l.length:=(List.takeWhile_sublist P).length_le
def dS (l:List UInt8):Bool×Nat:=
 (match l.takeWhile iI with
  | []=>false
  |c :: t=>c != 45 && (c :: t).getD t.length 0 != 45,(l.takeWhile iI).length)
theorem toNat_eq {a b:UInt8} (h:(a.toNat:Int)=(b.toNat:Int)):a=b:=UInt8.toNat_inj.mp ak
theorem label_eq (s:ByteArray) (hs:s.size < 4611686018427387904) (k p:Nat) (hk:(rest s p).length < k) (hp:p≤s.size):
 eV.f k s (p:Int)=some ((dS (rest s p)).1,s,((p + (dS (rest s p)).2:Nat):Int)):=by
 unfold eV.f dS
 rw [aeT s hs k p hk hp]
 simp only [Option.bind_some]
 have hle:=mW iI (rest s p)
 have hrl:=fX s p
 generalize (rest s p).takeWhile iI=w at hle ⊢
 cases w with
 |nil=>simp
 |cons c t=>
  have h0:bt (au (c :: t)) 0=(c.toNat:Int):=rN (c :: t) 0 bw
  have e1:wrap64 (((au (c :: t)).size:Int) - 1)=(t.length:Int):=by
   rw [bN]
   unfold wrap64
   simp at hle ⊢
   omega
  have h1:bt (au (c :: t)) (t.length:Int)=(((c :: t).getD t.length 0).toNat:Int):=rN (c :: t) t.length bw
  rw [if_pos bw,if_pos (by rw [bN];first|(simp;done)|(simp;omega)),h0,e1,h1]
  by_cases hc:c=45
  ·subst hc
   rw [if_pos (show ((UInt8.toNat 45:Nat):Int)=45 from rfl)]
   simp
  ·rw [if_neg (show ¬ (c.toNat:Int)=45 from fun h=>hc (toNat_eq (b:=45) h)),if_pos ak,if_pos (by rw [bN];first|(simp;done)|(simp;omega))]
   have:((((c :: t).getD t.length 0).toNat:Int) != 45)=((c :: t).getD t.length 0 != 45):=by
    by_cases hl:(c :: t).getD t.length 0=45
    ·rw [hl];rfl
    ·rw [bne_iff_ne.mpr hl,bne_iff_ne.mpr (show (((c :: t).getD t.length 0).toNat:Int)≠45 from fun h=>hl (toNat_eq (b:=45) h))]
   rw [this]
   simp [hc]
def gJ (l:List UInt8):Bool×Nat:=(decide (0 < (l.takeWhile gV).length),(l.takeWhile gV).length)
theorem XJ (s:ByteArray) (hs:s.size < 4611686018427387904) (k p:Nat) (hk:(rest s p).length < k) (hp:p≤s.size):
 eZ.f k s (p:Int)=some ((gJ (rest s p)).1,s,((p + (gJ (rest s p)).2:Nat):Int)):=by
 unfold eZ.f gJ
 rw [aa6 s hs k p hk hp]
 rfl
theorem uF (l:List UInt8):(dS l).2≤l.length:=mW _ _
theorem xk (l:List UInt8):(gJ l).2≤l.length:=mW _ _
def F7 (part:List UInt8→Bool×Nat) (c:UInt8):Nat→List UInt8→Bool×Nat
 | 0,_ =>(false,0)
 |n + 1,l=>if (part l).1=true then (if bX c (l.drop (part l).2)=true then ((F7 part c n (l.drop ((part l).2 + 1))).1,(part l).2 + 1 + (F7 part c n (l.drop ((part l).2 + 1))).2) else (true,(part l).2)) else (false,(part l).2)
def eJ (part:List UInt8→Bool×Nat) (c:UInt8) (l:List UInt8):Bool×Nat:=F7 part c (l.length + 1) l
theorem fR {c:UInt8} {l:List UInt8} {n:Nat} (h:bX c (l.drop n)=true):n < l.length:=by
 rcases Nat.lt_or_ge n l.length with h1|h1
 ·exact h1
 ·rw [List.drop_of_length_le h1] at h
  cases h
theorem H6 (part:List UInt8→Bool×Nat) (c:UInt8):∀ (n m:Nat) (l:List UInt8),l.length < n→l.length < m→F7 part c n l=F7 part c m l
 | 0,_,_,h,_ =>absurd h (Nat.not_lt_zero _)
 |_,0,_,_,h=>absurd h (Nat.not_lt_zero _)
 |n + 1,m + 1,l,h1,h2=>by
  unfold F7
  by_cases hp:(part l).1=true
  ·rw [if_pos hp,if_pos hp]
   by_cases hn:bX c (l.drop (part l).2)=true
   ·have:=fR hn
    rw [if_pos hn,if_pos hn,H6 part c n m _ kR kR]
   ·rw [if_neg hn,if_neg hn]
  ·rw [if_neg hp,if_neg hp]
theorem jN (part:List UInt8→Bool×Nat) (c:UInt8) (l:List UInt8):
 eJ part c l=if (part l).1=true then (if bX c (l.drop (part l).2)=true then ((eJ part c (l.drop ((part l).2 + 1))).1,(part l).2 + 1 + (eJ part c (l.drop ((part l).2 + 1))).2) else (true,(part l).2)) else (false,(part l).2):=by
 unfold eJ
 rw [F7]
 by_cases hp:(part l).1=true
 ·rw [if_pos hp,if_pos hp]
  by_cases hn:bX c (l.drop (part l).2)=true
  ·have:=fR hn
   rw [if_pos hn,if_pos hn,H6 part c l.length ((l.drop ((part l).2 + 1)).length + 1) _ kR ak]
  ·rw [if_neg hn,if_neg hn]
 ·rw [if_neg hp,if_neg hp]
theorem sZ (part:List UInt8→Bool×Nat) (c:UInt8) (hpart:∀ l,(part l).2≤l.length):∀ (n:Nat) (l:List UInt8),l.length < n→(eJ part c l).2≤l.length
 | 0,_,h=>absurd h (Nat.not_lt_zero _)
 |n + 1,l,h=>by
  rw [jN]
  have hl:=hpart l
  by_cases hp:(part l).1=true
  ·rw [if_pos hp]
   by_cases hn:bX c (l.drop (part l).2)=true
   ·have h1:=fR hn
    have h2:=sZ part c hpart n (l.drop ((part l).2 + 1)) kR
    rw [List.length_drop] at h2
    rw [if_pos hn]
    show _ + 1 + _≤_
    omega
   ·rw [if_neg hn]
    exact hl
  ·rw [if_neg hp]
   exact hl
theorem F8 (s:ByteArray) (hs:s.size < 4611686018427387904):∀ (k p:Nat),(rest s p).length + 1 < k→p≤s.size→
 bn.l0 k 46 s (p:Int)=some ((eJ dS 46 (rest s p)).1,s,((p + (eJ dS 46 (rest s p)).2:Nat):Int))
 | 0,p,h,_ =>absurd h ak
 |k + 1,p,h,hp=>by
  have hle:=uF (rest s p)
  have hrl:=fX s p
  unfold bn.l0
  rw [label_eq s hs k p ak hp,jN]
  simp only [Option.bind_some]
  by_cases h1:(dS (rest s p)).1=true
  ·rw [if_pos h1,if_pos h1,nV s _ 46 46 rfl hs]
   simp only [Option.bind_some,jD]
   by_cases h2:bX 46 ((rest s p).drop (dS (rest s p)).2)=true
   ·have h3:=fR h2
    rw [if_pos h2,if_pos h2,if_pos h2]
    have h4:=F8 s hs k (p + (dS (rest s p)).2 + 1) pN ak
    rw [h4,Nat.add_assoc p,jD]
    congr 3
    omega
   ·rw [if_neg h2,if_neg h2,if_neg h2]
  ·rw [if_neg h1,if_neg h1]
theorem Co (s:ByteArray) (hs:s.size < 4611686018427387904):∀ (k p:Nat),(rest s p).length + 1 < k→p≤s.size→
 aW.l0 k 46 s (p:Int)=some ((eJ gJ 46 (rest s p)).1,s,((p + (eJ gJ 46 (rest s p)).2:Nat):Int))
 | 0,p,h,_ =>absurd h ak
 |k + 1,p,h,hp=>by
  have hle:=xk (rest s p)
  have hrl:=fX s p
  unfold aW.l0
  rw [XJ s hs k p ak hp,jN]
  simp only [Option.bind_some]
  by_cases h1:(gJ (rest s p)).1=true
  ·rw [if_pos h1,if_pos h1,nV s _ 46 46 rfl hs]
   simp only [Option.bind_some,jD]
   by_cases h2:bX 46 ((rest s p).drop (gJ (rest s p)).2)=true
   ·have h3:=fR h2
    rw [if_pos h2,if_pos h2,if_pos h2]
    have h4:=Co s hs k (p + (gJ (rest s p)).2 + 1) pN ak
    rw [h4,Nat.add_assoc p,jD]
    congr 3
    omega
   ·rw [if_neg h2,if_neg h2,if_neg h2]
  ·rw [if_neg h1,if_neg h1]
def mG (l:List UInt8):Bool×ByteArray×Nat:=((eJ dS 46 l).1,cS.g (au (l.take (eJ dS 46 l).2)),(eJ dS 46 l).2)
theorem yO (l:List UInt8):(mG l).2.2≤l.length:=sZ dS 46 uF _ l (Nat.lt_succ_self _)
theorem domain_eq (s:ByteArray) (hs:s.size < 4611686018427387904) (k p:Nat) (hk:(rest s p).length + 1 < k) (hp:p≤s.size):
 cv.f k s (p:Int)=some ((mG (rest s p)).2.1,(mG (rest s p)).1,s,((p + (mG (rest s p)).2.2:Nat):Int)):=by
 have hle:=yO (rest s p)
 have hrl:=fX s p
 unfold mG at hle ⊢
 simp only at hle ⊢
 unfold cv.f bn.f
 rw [F8 s hs k p hk hp]
 simp only [Option.bind_some]
 rw [if_pos ak,if_pos ak,if_pos ak]
 have e:s.extract ((p:Int)).toNat (((p + (eJ dS 46 (rest s p)).2:Nat):Int)).toNat=au ((rest s p).take (eJ dS 46 (rest s p)).2):=by
  rw [Int.toNat_natCast,Int.toNat_natCast,lq _ _ _ ak,Nat.add_sub_cancel_left]
 rw [e]
 have hf:cS.f (au ((rest s p).take (eJ dS 46 (rest s p)).2))=some (cS.g (au ((rest s p).take (eJ dS 46 (rest s p)).2))):=by
  unfold cS.f
  rw [if_pos]
  rw [bN,List.length_take]
  omega
 rw [hf]
 rfl
def gD:List UInt8→List UInt8→Bool×List UInt8×Nat
 | [],_ =>(false,[],0)
 |b :: l,acc=>
  if b=34 then (true,acc,1)
  else if b=92 then
   match l with
   | []=>(false,[],2)
   |c :: l'=>if c < 32∨126 < c then (false,[],2) else ((gD l' (acc ++ [c])).1,(gD l' (acc ++ [c])).2.1,(gD l' (acc ++ [c])).2.2 + 2)
  else if b < 32∨126 < b then (false,[],1)
  else ((gD l (acc ++ [b])).1,(gD l (acc ++ [b])).2.1,(gD l (acc ++ [b])).2.2 + 1)
def jw (l:List UInt8):List Int:=l.map fun b=>(b.toNat:Int)
theorem Bt (l:List UInt8):strOfNums (jw l)=au l:=by
 unfold strOfNums jw au
 congr 1
 rw [List.map_map,← Array.toList_inj]
 show List.map _ l=l
 rw [show ((fun n:Int=>UInt8.ofNat n.toNat) ∘fun b:UInt8=>(b.toNat:Int))=id from by funext b;simp]
 simp
theorem ltI {b c:UInt8}:((b.toNat:Int) < (c.toNat:Int))↔b < c:=by
 rw [UInt8.lt_iff_toNat_lt]
 omega
theorem F9 {b:UInt8}:((b.toNat:Int) < 32)↔b < 32:=ltI (c:=32)
theorem xm {b:UInt8}:((b.toNat:Int) > 126)↔126 < b:=ltI (b:=126)
theorem Ga (s:ByteArray) (hs:s.size < 70368744177664):∀ (k p:Nat) (acc:List UInt8),(rest s p).length + 1 < k→p≤s.size→acc.length + (rest s p).length≤s.size→
 cu.l0 k (jw acc) s (p:Int)=some (au (gD (rest s p) acc).2.1,(gD (rest s p) acc).1,s,((p + (gD (rest s p) acc).2.2:Nat):Int))
 | 0,p,acc,h,_,_ =>absurd h ak
 |k + 1,p,acc,h,hp,ha=>by
  unfold cu.l0
  have hrl:=fX s p
  cases hr:rest s p with
  |nil=>
   have:=ng hr
   rw [if_neg ak]
   rfl
  |cons b l=>
   obtain ⟨h1,h2,h3⟩:=lH hr
   have hlen:l.length + 1=s.size - p:=by rw [hr] at hrl;simpa using hrl
   rw [if_pos ak,if_pos ak,h2]
   unfold gD
   by_cases hq:b=34
   ·subst hq
    rw [if_pos rfl,if_pos (show ((UInt8.toNat 34:Nat):Int)=34 from rfl),Bt,jE p ak]
   ·rw [if_neg hq,if_neg (show ¬ (b.toNat:Int)=34 from fun h=>hq (toNat_eq (b:=34) h))]
    by_cases hb:b=92
    ·subst hb
     rw [if_pos rfl,if_pos (show ((UInt8.toNat 92:Nat):Int)=92 from rfl),jE p ak,SZ,h3]
     simp only [Option.bind_some]
     cases l with
     |nil=>
      have e:wrap64 (((p + 1:Nat):Int) + 1)=((p + 2:Nat):Int):=by unfold wrap64;omega
      rw [if_pos bh,e]
      rfl
     |cons c l'=>
      have e:wrap64 (((p + 1:Nat):Int) + 1)=((p + 2:Nat):Int):=by unfold wrap64;omega
      rw [e]
      show (if ((c.toNat:Int) < 32) then _ else if ((c.toNat:Int) > 126) then _ else _)=_
      by_cases hc:c < 32
      ·rw [if_pos (F9.mpr hc)]
       simp only [if_pos (Or.inl hc:c < 32∨126 < c)]
       rfl
      ·rw [if_neg (fun h=>hc (F9.mp h))]
       by_cases hd: 126 < c
       ·rw [if_pos (xm.mpr hd)]
        simp only [if_pos (Or.inr hd:c < 32∨126 < c)]
        rfl
       ·rw [if_neg (fun h=>hd (xm.mp h)),if_pos (by simp [jw];rw [hr] at ha;simp at ha;omega)]
        have hcd: ¬ (c < 32∨126 < c):=fun h=>h.elim hc hd
        simp only [if_neg hcd]
        have hr2:rest s (p + 2)=l':=by rw [jD,hr];rfl
        have hn:jw acc ++ [(c.toNat:Int)]=jw (acc ++ [c]):=by simp [jw]
        have:=Ga s hs k (p + 2) (acc ++ [c]) (by rw [hr2];simp at hlen;rw [hr] at h;simp at h;omega) (by simp at hlen;omega) (by rw [hr2];rw [hr] at ha;simp at ha ⊢;omega)
        rw [show SY (c :: l')=c from rfl,hn,this,hr2,Nat.add_assoc,Nat.add_comm 2]
    ·rw [if_neg hb,if_neg (show ¬ (b.toNat:Int)=92 from fun h=>hb (toNat_eq (b:=92) h)),jE p ak]
     by_cases hc:b < 32
     ·rw [if_pos (F9.mpr hc),if_pos (Or.inl hc)]
      rfl
     ·rw [if_neg (fun h=>hc (F9.mp h))]
      by_cases hd: 126 < b
      ·rw [if_pos (xm.mpr hd),if_pos (Or.inr hd)]
       rfl
      ·rw [if_neg (fun h=>hd (xm.mp h)),if_pos (by simp [jw];rw [hr] at ha;simp at ha;omega),if_neg (fun h=>h.elim hc hd)]
       have hn:jw acc ++ [(b.toNat:Int)]=jw (acc ++ [b]):=by simp [jw]
       have:=Ga s hs k (p + 1) (acc ++ [b]) D3 ak (by rw [h3];rw [hr] at ha;simp at ha ⊢;omega)
       rw [hn,this,h3,Nat.add_assoc,Nat.add_comm 1]
theorem Gb:∀ (n:Nat) (l acc:List UInt8),l.length < n→(gD l acc).1=true→(gD l acc).2.2≤l.length
 | 0,_,_,h,_ =>absurd h (Nat.not_lt_zero _)
 |n + 1,l,acc,h,ho=>by
  cases l with
  |nil=>unfold gD at ho;cases ho
  |cons b l=>
   unfold gD at ho ⊢
   by_cases hq:b=34
   ·rw [if_pos hq] at ho ⊢
    simp
   ·rw [if_neg hq] at ho ⊢
    by_cases hb:b=92
    ·rw [if_pos hb] at ho ⊢
     cases l with
     |nil=>cases ho
     |cons c l'=>
      by_cases hc:c < 32∨126 < c
      ·simp only [if_pos hc] at ho
       cases ho
      ·simp only [if_neg hc] at ho ⊢
       have:=Gb n l' (acc ++ [c]) xS ho
       simp
       omega
    ·rw [if_neg hb] at ho ⊢
     by_cases hc:b < 32∨126 < b
     ·rw [if_pos hc] at ho
      cases ho
     ·rw [if_neg hc] at ho ⊢
      have:=Gb n l (acc ++ [b]) xS ho
      simp
      omega
def dn (l:List UInt8):Bool×ByteArray×Nat:=
 if bX 34 l=true then ((gD (l.drop 1) []).1,au (gD (l.drop 1) []).2.1,1 + (gD (l.drop 1) []).2.2)
 else ((eJ gJ 46 l).1,au (l.take (eJ gJ 46 l).2),(eJ gJ 46 l).2)
theorem oM {c:UInt8} {l:List UInt8} (h:bX c l=true): 0 < l.length:=by
 cases l with
 |nil=>cases h
 |cons _ _ =>simp
theorem H7 (l:List UInt8) (h:(dn l).1=true):(dn l).2.2≤l.length:=by
 unfold dn at h ⊢
 by_cases hq:bX 34 l=true
 ·rw [if_pos hq] at h ⊢
  have h1:=oM hq
  have h2:=Gb _ (l.drop 1) [] (Nat.lt_succ_self _) h
  rw [List.length_drop] at h2
  show 1 + _≤_
  omega
 ·rw [if_neg hq]
  exact sZ gJ 46 xk _ l (Nat.lt_succ_self _)
theorem XK (s:ByteArray) (hs:s.size < 70368744177664) (k p:Nat) (hk:(rest s p).length + 1 < k) (hp:p≤s.size):
 cu.f k s (p:Int)=some ((dn (rest s p)).2.1,(dn (rest s p)).1,s,((p + (dn (rest s p)).2.2:Nat):Int)):=by
 have hrl:=fX s p
 unfold cu.f dn
 rw [nV s p 34 34 rfl ak]
 simp only [Option.bind_some]
 by_cases hq:bX 34 (rest s p)=true
 ·have h1:=oM hq
  have:=Ga s hs k (p + 1) [] pN ak (by rw [fX];simp)
  rw [if_pos hq,if_pos hq,if_pos hq]
  rw [show ([]:List Int)=jw [] from rfl,this,jD,Nat.add_assoc]
 ·rw [if_neg hq,if_neg hq,if_neg hq]
  have hle:=sZ gJ 46 xk _ (rest s p) (Nat.lt_succ_self _)
  unfold aW.f
  rw [Co s ak k p hk hp]
  simp only [Option.bind_some]
  rw [if_pos ak,if_pos ak,if_pos ak,Int.toNat_natCast,Int.toNat_natCast,lq _ _ _ ak,Nat.add_sub_cancel_left]
theorem more {α:Type} {f:Nat→Option α} (hm:∀ k,bL (f k) (f (k + 1))) {k1 k2:Nat} (h:k1≤k2) {r:α} (hf:f k1=some r):f k2=some r:=by
 induction h with
 |refl=>exact hf
 |step _ ih=>exact hm _ _ ih
theorem Gc (k0:Nat) {xs:List ByteArray} (hf:∀ y,y∈xs→∀ k,k0≤k→∃ r,gF.f y=some r):∀ (k i:Nat),xs.length - i + k0 < k→i≤xs.length→xs.length < 4611686018427387904→∃ r,aI.l0 k xs (xs.length:Int) (i:Int)=some r
 | 0,_,h,_,_ =>absurd h (Nat.not_lt_zero _)
 |k + 1,i,h,hi,hl=>by
  unfold aI.l0
  by_cases hlt:i < xs.length
  ·rw [if_pos ak,if_pos ak,if_pos ak]
   have hrd:cV ByteArray.empty xs (i:Int)=xs[i]:=by simp [cV,hlt]
   obtain ⟨r,hr⟩:=hf xs[i] (List.getElem_mem hlt) k ak
   rw [hrd,hr]
   simp only [Option.bind_some]
   split
   ·exact ⟨_,rfl⟩
   ·rw [jE i ak]
    exact Gc k0 hf k (i + 1) ak ak hl
  ·rw [if_neg ak]
   exact ⟨_,rfl⟩
theorem MM (k0 k:Nat) {xs:List ByteArray} (hf:∀ y,y∈xs→∀ k,k0≤k→∃ r,gF.f y=some r) (hk:xs.length + k0 < k) (hl:xs.length < 4611686018427387904):∃ r,aI.f k xs=some r:=Gc k0 hf k 0 ak (Nat.zero_le _) hl
theorem Bu (k0:Nat) {xs:List ByteArray} (hf:∀ y,y∈xs→∀ k,k0≤k→∃ r,l6.f y=some r):∀ (k i:Nat),xs.length - i + k0 < k→i≤xs.length→xs.length < 4611686018427387904→∃ r,aM.l0 k xs (xs.length:Int) (i:Int)=some r
 | 0,_,h,_,_ =>absurd h (Nat.not_lt_zero _)
 |k + 1,i,h,hi,hl=>by
  unfold aM.l0
  by_cases hlt:i < xs.length
  ·rw [if_pos ak,if_pos ak,if_pos ak]
   have hrd:cV ByteArray.empty xs (i:Int)=xs[i]:=by simp [cV,hlt]
   obtain ⟨r,hr⟩:=hf xs[i] (List.getElem_mem hlt) k ak
   rw [hrd,hr]
   simp only [Option.bind_some]
   split
   ·exact ⟨_,rfl⟩
   ·rw [jE i ak]
    exact Bu k0 hf k (i + 1) ak ak hl
  ·rw [if_neg ak]
   exact ⟨_,rfl⟩
theorem G8 (k0 k:Nat) {xs:List ByteArray} (hf:∀ y,y∈xs→∀ k,k0≤k→∃ r,l6.f y=some r) (hk:xs.length + k0 < k) (hl:xs.length < 4611686018427387904):∃ r,aM.f k xs=some r:=Bu k0 hf k 0 ak (Nat.zero_le _) hl
theorem vG (x:ByteArray) (c:UInt8) (hx:x.size < 4294967281):strings_Split.f x ⟨#[c]⟩=some ((pieces c x.data.toList).map au):=by
 unfold strings_Split.f
 rw [show one? ⟨#[c]⟩=some c from rfl]
 simp only [if_pos hx]
theorem Gd (c:UInt8) (x:ByteArray):((pieces c x.data.toList).map au).length≤x.size + 1:=by
 rw [List.length_map,oz]
 have:=List.count_le_length (a:=c) (l:=x.data.toList)
 rw [gw] at this
 omega
theorem C5 (x:ByteArray) (hx:x.size < 4294967281):∃ r,fI.f x=some r:=by
 unfold fI.f
 rw [if_pos hx]
 exact ⟨_,rfl⟩
theorem XL (x:ByteArray) (hx:x.size < 4294967281):∃ r,qQ.f x=some r:=by
 unfold qQ.f strings_Cut.f
 rw [if_pos hx]
 simp only [Option.bind_some]
 have h1:(au (Lib.cut x.data.toList [58,58]).1).size < 4294967281:=by
  show (Lib.cut x.data.toList [58,58]).1.length < _
  have:=gw x
  unfold Lib.cut
  split
  ·simp only [List.length_take];omega
  ·simp only;omega
 have h2:(au (Lib.cut x.data.toList [58,58]).2.1).size < 4294967281:=by
  show (Lib.cut x.data.toList [58,58]).2.1.length < _
  have:=gw x
  unfold Lib.cut
  split
  ·simp only [List.length_drop];omega
  ·simp only [List.length_nil];omega
 obtain ⟨a,ha⟩:=C5 _ h1
 obtain ⟨b,hb⟩:=C5 _ h2
 show ∃ r,((fI.f (au (Lib.cut x.data.toList [58,58]).1)).bind fun t151=>((fI.f (au (Lib.cut x.data.toList [58,58]).2.1)).bind fun t152=>_))=some r
 rw [ha,hb]
 simp only [Option.bind_some]
 split
 ·split
  ·split<;>exact ⟨_,rfl⟩
  ·exact ⟨_,rfl⟩
 ·exact ⟨_,rfl⟩
theorem T4 (x:ByteArray) (hx:x.size < 4294967281):∃ r,gF.f x=some r:=by
 unfold gF.f
 rw [if_pos ak]
 exact ⟨_,rfl⟩
theorem KZ (x:ByteArray) (hx:x.size < 4294967281) (k:Nat) (hk:x.size + 4 < k):∃ r,cI.f k x=some r:=by
 obtain ⟨k,rfl⟩:∃ k',k=k' + 1:=⟨k - 1,ak⟩
 have hj:∀ b,∃ r,cI.j0 (k + 1) x b=some r∨b=true∧x.size < 5:=by
  intro b
  rw [cI.j0]
  cases b with
  |true=>
   by_cases h5:x.size < 5
   ·exact ⟨true,.inr ⟨rfl,h5⟩⟩
   ·obtain ⟨r,hr⟩:=XL (x.extract 5 x.size) (by rw [ByteArray.size_extract];omega)
    exact ⟨r,.inl (by rw [if_pos rfl,if_pos ak,hr];rfl)⟩
  |false=>
   rw [if_neg bh,vG x 46 hx]
   simp only [Option.bind_some]
   split
   ·have hn:=Gd 46 x
    obtain ⟨r,hr⟩:=MM 0 k (xs:=(pieces 46 x.data.toList).map au) (fun y hy _ _ =>T4 y (by have:=CS 46 x y hy;omega)) ak ak
    unfold bC.f
    rw [hr]
    exact ⟨_,.inl rfl⟩
   ·exact ⟨_,.inl rfl⟩
 unfold cI.f
 split
 ·rename_i h5
  rw [if_pos bh,if_pos ak]
  have hf:cS.f (x.extract 0 5)=some (cS.g (x.extract 0 5)):=by
   unfold cS.f
   rw [if_pos]
   rw [ByteArray.size_extract]
   omega
  rw [hf]
  simp only [Option.bind_some]
  obtain ⟨r,hr|⟨_,hr⟩⟩:=hj ((cS.g (x.extract 0 5)).toList == ([105,112,118,54,58]:List UInt8))
  ·exact ⟨r,hr⟩
  ·omega
 ·obtain ⟨r,hr|⟨hr,_⟩⟩:=hj false
  ·exact ⟨r,hr⟩
  ·cases hr
def Pe (w:ByteArray):Bool:=(cI.f (w.size + 5) w).getD false
theorem Pf (x:ByteArray) (hx:x.size < 4294967281) (k:Nat) (hk:x.size + 4 < k):cI.f k x=some (Pe x):=by
 obtain ⟨r,hr⟩:=KZ x hx (x.size + 5) ak
 have h1:Pe x=r:=by unfold Pe;rw [hr];rfl
 rw [h1]
 exact xV (fun k=>cI.mono x k) ak hr
def jV (l:List UInt8):Bool×ByteArray×ByteArray×Bool×Nat:=
 if (dn l).1=true then
  if bX 64 (l.drop (dn l).2.2)=true then
   if bX 91 (l.drop ((dn l).2.2 + 1))=true then
    if bX 93 (l.drop ((dn l).2.2 + 2 + ((l.drop ((dn l).2.2 + 2)).takeWhile jt).length))=true then
     (Pe (au ((l.drop ((dn l).2.2 + 2)).takeWhile jt)),(dn l).2.1,cS.g (au ((l.drop ((dn l).2.2 + 2)).takeWhile jt)),true,(dn l).2.2 + 2 + ((l.drop ((dn l).2.2 + 2)).takeWhile jt).length + 1)
    else (false,(dn l).2.1,cS.g (au ((l.drop ((dn l).2.2 + 2)).takeWhile jt)),true,(dn l).2.2 + 2 + ((l.drop ((dn l).2.2 + 2)).takeWhile jt).length)
   else ((mG (l.drop ((dn l).2.2 + 1))).1,(dn l).2.1,(mG (l.drop ((dn l).2.2 + 1))).2.1,false,(dn l).2.2 + 1 + (mG (l.drop ((dn l).2.2 + 1))).2.2)
  else (false,⟨#[]⟩,⟨#[]⟩,false,(dn l).2.2)
 else (false,⟨#[]⟩,⟨#[]⟩,false,(dn l).2.2)
theorem Ia {c:UInt8} {s:ByteArray} {p:Nat} (h:bX c (rest s p)=true):p < s.size:=by
 have:=oM h
 rw [fX] at this
 omega
theorem XM (s:ByteArray) (hs:s.size < 4294967281) (k p:Nat) (hk:(rest s p).length + 6 < k) (hp:p≤s.size):
 cA.f k s (p:Int)=some ((jV (rest s p)).2.1,(jV (rest s p)).2.2.1,(jV (rest s p)).2.2.2.1,(jV (rest s p)).1,s,((p + (jV (rest s p)).2.2.2.2:Nat):Int)):=by
 obtain ⟨k,rfl⟩:∃ k',k=k' + 1:=⟨k - 1,ak⟩
 have hrl:=fX s p
 unfold cA.f jV
 rw [XK s ak (k + 1) p ak hp]
 simp only [Option.bind_some]
 by_cases h1:(dn (rest s p)).1=true
 ·have hle:=H7 _ h1
  rw [if_pos h1,if_pos h1,nV s _ 64 64 rfl ak]
  simp only [Option.bind_some,jD]
  by_cases h2:bX 64 ((rest s p).drop (dn (rest s p)).2.2)=true
  ·have hl2:=Ia (by rw [jD];exact h2)
   rw [if_pos h2,if_pos h2,h2,cA.j0,if_neg bh,nV s _ 91 91 rfl ak]
   simp only [Option.bind_some]
   rw [Nat.add_assoc p,jD]
   by_cases h3:bX 91 ((rest s p).drop ((dn (rest s p)).2.2 + 1))=true
   ·have hl3:=Ia (by rw [jD];exact h3)
    rw [if_pos h3,if_pos h3,if_pos h3,Nat.add_assoc p,aa7 s ak k _ pN ak,jD]
    simp only [Option.bind_some]
    have hw:=mW jt ((rest s p).drop ((dn (rest s p)).2.2 + 1 + 1))
    rw [List.length_drop] at hw
    have hf:cS.f (au (((rest s p).drop ((dn (rest s p)).2.2 + 1 + 1)).takeWhile jt))=some (cS.g (au (((rest s p).drop ((dn (rest s p)).2.2 + 1 + 1)).takeWhile jt))):=by
     unfold cS.f
     rw [if_pos]
     rw [bN]
     omega
    rw [hf]
    simp only [Option.bind_some]
    rw [nV s _ 93 93 rfl ak]
    simp only [Option.bind_some]
    rw [Nat.add_assoc p,jD]
    by_cases h4:bX 93 ((rest s p).drop ((dn (rest s p)).2.2 + 1 + 1 + (((rest s p).drop ((dn (rest s p)).2.2 + 1 + 1)).takeWhile jt).length))=true
    ·rw [if_pos h4,if_pos h4,if_pos h4,Pf _ fZ k fZ]
     rfl
    ·rw [if_neg h4,if_neg h4,if_neg h4]
   ·rw [if_neg h3,if_neg h3,if_neg h3,domain_eq s ak k _ pN ak,jD]
    simp only [Option.bind_some]
    rw [Nat.add_assoc p]
  ·rw [if_neg h2,if_neg h2,Bool.eq_false_iff.mpr h2,cA.j0,if_pos (show (!false)=true from rfl)]
 ·rw [if_neg h1,if_neg h1,cA.j0,if_pos rfl]
theorem K2 (l:List UInt8) (h:(jV l).1=true):(jV l).2.2.2.2≤l.length:=by
 unfold jV at h ⊢
 by_cases h1:(dn l).1=true
 ·rw [if_pos h1] at h ⊢
  by_cases h2:bX 64 (l.drop (dn l).2.2)=true
  ·have h2':=fR h2
   rw [if_pos h2] at h ⊢
   by_cases h3:bX 91 (l.drop ((dn l).2.2 + 1))=true
   ·rw [if_pos h3] at h ⊢
    by_cases h4:bX 93 (l.drop ((dn l).2.2 + 2 + ((l.drop ((dn l).2.2 + 2)).takeWhile jt).length))=true
    ·have h4':=fR h4
     rw [if_pos h4]
     exact h4'
    ·rw [if_neg h4] at h
     cases h
   ·rw [if_neg h3]
    have:=yO (l.drop ((dn l).2.2 + 1))
    rw [List.length_drop] at this
    show (dn l).2.2 + 1 + _≤_
    omega
  ·rw [if_neg h2] at h
   cases h
 ·rw [if_neg h1] at h
  cases h
def iY (l:List UInt8):Bool×ByteArray×Nat:=
 if bX 64 l=true then ((mG (l.drop 1)).1,(mG (l.drop 1)).2.1,1 + (mG (l.drop 1)).2.2) else (false,(mG l).2.1,(mG l).2.2)
theorem S3 (l:List UInt8):(iY l).2.2≤l.length:=by
 unfold iY
 split
 ·rename_i h
  have h1:=oM h
  have:=yO (l.drop 1)
  rw [List.length_drop] at this
  show 1 + _≤_
  omega
 ·exact yO l
theorem aeU (s:ByteArray) (hs:s.size < 4294967281) (k p:Nat) (rs:List ByteArray) (hr:rs.length < 8000000000000) (hk:(rest s p).length + 1 < k) (hp:p≤s.size):
 iK.f k s (p:Int) rs=some ((iY (rest s p)).1,s,((p + (iY (rest s p)).2.2:Nat):Int),rs ++ [(iY (rest s p)).2.1]):=by
 have hrl:=fX s p
 unfold iK.f iY
 rw [nV s p 64 64 rfl ak]
 simp only [Option.bind_some]
 by_cases h:bX 64 (rest s p)=true
 ·have h1:=oM h
  rw [if_pos h,if_pos h,h,domain_eq s ak k _ pN ak,jD]
  simp only [Option.bind_some]
  rw [if_pos hr,Bool.true_and,Nat.add_assoc]
 ·rw [if_neg h,if_neg h,Bool.eq_false_iff.mpr h,domain_eq s ak k _ hk hp]
  simp only [Option.bind_some]
  rw [if_pos hr,Bool.false_and]
def xp:Nat→List UInt8→Bool×List ByteArray×Nat
 | 0,_ =>(false,[],0)
 |n + 1,l=>if (iY l).1=true then (if bX 44 (l.drop (iY l).2.2)=true then ((xp n (l.drop ((iY l).2.2 + 1))).1,(iY l).2.1 :: (xp n (l.drop ((iY l).2.2 + 1))).2.1,(iY l).2.2 + 1 + (xp n (l.drop ((iY l).2.2 + 1))).2.2) else (true,[(iY l).2.1],(iY l).2.2)) else (false,[(iY l).2.1],(iY l).2.2)
def fW (l:List UInt8):Bool×List ByteArray×Nat:=xp (l.length + 1) l
theorem Ge:∀ (n m:Nat) (l:List UInt8),l.length < n→l.length < m→xp n l=xp m l
 | 0,_,_,h,_ =>absurd h (Nat.not_lt_zero _)
 |_,0,_,_,h=>absurd h (Nat.not_lt_zero _)
 |n + 1,m + 1,l,h1,h2=>by
  unfold xp
  by_cases hp:(iY l).1=true
  ·rw [if_pos hp,if_pos hp]
   by_cases hn:bX 44 (l.drop (iY l).2.2)=true
   ·have:=fR hn
    rw [if_pos hn,if_pos hn,Ge n m _ kR kR]
   ·rw [if_neg hn,if_neg hn]
  ·rw [if_neg hp,if_neg hp]
theorem nW (l:List UInt8):
 fW l=if (iY l).1=true then (if bX 44 (l.drop (iY l).2.2)=true then ((fW (l.drop ((iY l).2.2 + 1))).1,(iY l).2.1 :: (fW (l.drop ((iY l).2.2 + 1))).2.1,(iY l).2.2 + 1 + (fW (l.drop ((iY l).2.2 + 1))).2.2) else (true,[(iY l).2.1],(iY l).2.2)) else (false,[(iY l).2.1],(iY l).2.2):=by
 unfold fW
 rw [xp]
 by_cases hp:(iY l).1=true
 ·rw [if_pos hp,if_pos hp]
  by_cases hn:bX 44 (l.drop (iY l).2.2)=true
  ·have:=fR hn
   rw [if_pos hn,if_pos hn,Ge l.length ((l.drop ((iY l).2.2 + 1)).length + 1) _ kR ak]
  ·rw [if_neg hn,if_neg hn]
 ·rw [if_neg hp,if_neg hp]
theorem Cq:∀ (n:Nat) (l:List UInt8),l.length < n→(fW l).2.2≤l.length
 | 0,_,h=>absurd h (Nat.not_lt_zero _)
 |n + 1,l,h=>by
  rw [nW]
  have hl:=S3 l
  by_cases hp:(iY l).1=true
  ·rw [if_pos hp]
   by_cases hn:bX 44 (l.drop (iY l).2.2)=true
   ·have h1:=fR hn
    have h2:=Cq n (l.drop ((iY l).2.2 + 1)) kR
    rw [List.length_drop] at h2
    rw [if_pos hn]
    show _ + 1 + _≤_
    omega
   ·rw [if_neg hn]
    exact hl
  ·rw [if_neg hp]
   exact hl
theorem Ib (s:ByteArray) (hs:s.size < 4294967281):∀ (k p:Nat) (rs:List ByteArray),(rest s p).length + 2 < k→p≤s.size→rs.length + (rest s p).length≤s.size→
 dB.l0 k s (p:Int) rs=some ((fW (rest s p)).1,s,((p + (fW (rest s p)).2.2:Nat):Int),rs ++ (fW (rest s p)).2.1)
 | 0,p,_,h,_,_ =>absurd h ak
 |k + 1,p,rs,h,hp,hr=>by
  have hle:=S3 (rest s p)
  have hrl:=fX s p
  unfold dB.l0
  rw [aeU s hs k p rs ak ak hp,nW]
  simp only [Option.bind_some]
  by_cases h1:(iY (rest s p)).1=true
  ·rw [if_pos h1,if_pos h1,nV s _ 44 44 rfl ak]
   simp only [Option.bind_some,jD]
   by_cases h2:bX 44 ((rest s p).drop (iY (rest s p)).2.2)=true
   ·have h3:=fR h2
    rw [if_pos h2,if_pos h2,if_pos h2]
    have h4:=Ib s hs k (p + (iY (rest s p)).2.2 + 1) (rs ++ [(iY (rest s p)).2.1]) pN ak (by rw [fX,List.length_append];simp;omega)
    rw [h4,Nat.add_assoc p,jD,List.append_assoc]
    congr 4
    dsimp only
    omega
   ·rw [if_neg h2,if_neg h2,if_neg h2]
  ·rw [if_neg h1,if_neg h1]
def gu (l:List UInt8):Bool:=decide (10 < l.length) && (cS.g (au (l.take 10))).toList == ([112,111,115,116,109,97,115,116,101,114]:List UInt8) && bX 62 (l.drop 10)
theorem Pg (s:ByteArray) (p:Nat) (_hp:p≤s.size):pS s (p:Int)=gu (rest s p):=by
 have hrl:=fX s p
 unfold pS gu
 by_cases h:p + 10 < s.size
 ·rw [decide_eq_true ak,decide_eq_true ak]
  have e:s.extract ((p:Int)).toNat ((p:Int) + 10).toNat=au ((rest s p).take 10):=by
   rw [show ((p:Int) + 10).toNat=p + 10 from by omega,Int.toNat_natCast,lq _ _ _ ak,Nat.add_sub_cancel_left]
  rw [e]
  congr 1
  rw [← jD]
  cases hr:rest s (p + 10) with
  |nil=>
   have:=ng hr
   omega
  |cons b l=>
   obtain ⟨_,h2,_⟩:=lH hr
   rw [show ((p:Int) + 10)=((p + 10:Nat):Int) from by omega,h2]
   show ((b.toNat:Int) == 62)=(b == 62)
   by_cases hb:b=62
   ·subst hb;rfl
   ·rw [beq_eq_false_iff_ne.mpr hb,beq_eq_false_iff_ne.mpr (show (b.toNat:Int)≠62 from fun h=>hb (toNat_eq (b:=62) h))]
 ·rw [decide_eq_false ak,decide_eq_false ak]
  rfl
def eK (l:List UInt8):Bool×List ByteArray×ByteArray×ByteArray×Bool×Nat:=
 if gu l=true then (true,[],jz,⟨#[]⟩,false,10)
 else if bX 64 l=true then
  (if (fW l).1=true then
    (if bX 58 (l.drop (fW l).2.2)=true then
      ((jV (l.drop ((fW l).2.2 + 1))).1,(fW l).2.1,(jV (l.drop ((fW l).2.2 + 1))).2.1,(jV (l.drop ((fW l).2.2 + 1))).2.2.1,(jV (l.drop ((fW l).2.2 + 1))).2.2.2.1,(fW l).2.2 + 1 + (jV (l.drop ((fW l).2.2 + 1))).2.2.2.2)
    else (false,[],⟨#[]⟩,⟨#[]⟩,false,(fW l).2.2))
  else (false,[],⟨#[]⟩,⟨#[]⟩,false,(fW l).2.2))
 else ((jV l).1,[],(jV l).2.1,(jV l).2.2.1,(jV l).2.2.2.1,(jV l).2.2.2.2)
theorem Ic (s:ByteArray) (hs:s.size < 4294967281) (k p:Nat) (rs:List ByteArray) (hk:(rest s p).length + 6 < k) (hp:p≤s.size):
 cX.f3 k s (p:Int) rs=some (false,rs,(jV (rest s p)).2.1,(jV (rest s p)).2.2.1,(jV (rest s p)).2.2.2.1,(jV (rest s p)).1,s,((p + (jV (rest s p)).2.2.2.2:Nat):Int)):=by
 unfold cX.f3
 rw [XM s hs k p hk hp]
 rfl
theorem S4 (l:List UInt8):((SY l).toNat:Int)=64↔bX 64 l=true:=by
 cases l with
 |nil=>simp [SY,bX]
 |cons b l=>
  show (b.toNat:Int)=64↔(b == 64)=true
  rw [beq_iff_eq]
  exact ⟨fun h=>toNat_eq (b:=64) h,fun h=>by rw [h];rfl⟩
theorem inner_eq (s:ByteArray) (hs:s.size < 4294967281) (k p:Nat) (hk:(rest s p).length + 6 < k) (hp:p≤s.size):
 cX.f k s (p:Int)=some (false,(eK (rest s p)).2.1,(eK (rest s p)).2.2.1,(eK (rest s p)).2.2.2.1,(eK (rest s p)).2.2.2.2.1,(eK (rest s p)).1,s,((p + (eK (rest s p)).2.2.2.2.2:Nat):Int)):=by
 have hrl:=fX s p
 unfold cX.f eK
 rw [if_pos ⟨ak,ak,ak⟩,Pg s p hp]
 by_cases h0:gu (rest s p)=true
 ·rw [if_pos h0,if_pos h0]
  rfl
 ·rw [if_neg h0,if_neg h0]
  unfold cX.f2
  rw [SZ]
  simp only [Option.bind_some]
  by_cases h1:bX 64 (rest s p)=true
  ·have hle:=Cq _ (rest s p) (Nat.lt_succ_self _)
   rw [if_pos ((S4 _).mpr h1),if_pos h1,Ib s hs k p [] ak hp (by simp;omega)]
   simp only [Option.bind_some]
   by_cases h2:(fW (rest s p)).1=true
   ·rw [if_pos h2,if_pos h2,nV s _ 58 58 rfl ak]
    simp only [Option.bind_some,jD]
    by_cases h3:bX 58 ((rest s p).drop (fW (rest s p)).2.2)=true
    ·have h3':=fR h3
     rw [if_pos h3,if_pos h3,if_pos h3,Nat.add_assoc p,Ic s hs k _ _ pN ak,jD,List.nil_append,Nat.add_assoc p]
    ·rw [if_neg h3,if_neg h3,if_neg h3]
   ·rw [if_neg h2,if_neg h2]
  ·rw [if_neg (fun h=>h1 ((S4 _).mp h)),if_neg h1,Ic s hs k p [] hk hp]
theorem Ph (x:ByteArray) (k:Nat) (hk:x.size + 2 < k):∃ r,fJ.f k x=some r:=by
 unfold fJ.f
 split
 ·rename_i h
  have hn:=Gd 46 x
  rw [vG x 46 ak]
  simp only [Option.bind_some]
  obtain ⟨r,hr⟩:=G8 0 k (xs:=(pieces 46 x.data.toList).map au) (fun y _ _ _ =>⟨_,rfl⟩) ak ak
  unfold bT.f
  rw [hr]
  exact ⟨_,rfl⟩
 ·exact ⟨_,rfl⟩
end Go.Proofs.YtokpnfljjjjikaaGreatDoor.jI
namespace Go.Proofs.YtokpnfljjjjikaaGreatDoor.jI
open Go.RowKit Go.Proofs.YtokpnfljjjjikaaGreatDoor Go.Proofs.YtokpnfljjjjikaaGreatDoor.mY Go.Proofs.aj.bO Go.Proofs.aj.cK
def Agree (n:Nat) (l l2:List UInt8):Prop:=l2.take (n + 1)=l.take (n + 1)
theorem Agree.le {n m:Nat} {l l2:List UInt8} (h:Agree n l l2) (hm:m≤n):Agree m l l2:=by
 unfold Agree at h ⊢
 have:=congrArg (List.take (m + 1)) h
 rwa [List.take_take,List.take_take,Nat.min_eq_left ak] at this
theorem Agree.drop {n a:Nat} {l l2:List UInt8} (h:Agree (a + n) l l2):Agree n (l.drop a) (l2.drop a):=by
 unfold Agree at h ⊢
 rw [List.take_drop,List.take_drop,show a + (n + 1)=a + n + 1 from rfl,h]
theorem Agree.take {n m:Nat} {l l2:List UInt8} (h:Agree n l l2) (hm:m≤n + 1):l2.take m=l.take m:=by
 cases m with
 |zero=>simp
 |succ m=>exact h.le ak
end Go.Proofs.YtokpnfljjjjikaaGreatDoor.jI
namespace Go.Proofs.YtokpnfljjjjikaaGreatDoor.jI
open Go.RowKit Go.Proofs.YtokpnfljjjjikaaGreatDoor Go.Proofs.YtokpnfljjjjikaaGreatDoor.mY Go.Proofs.aj.bO Go.Proofs.aj.cK
theorem Gf (x:ByteArray):(cS.g x).size=x.size:=by
 unfold cS.g
 rw [strOfNums_size,List.length_map,bytesOf_length]
theorem Cr (l:List UInt8):(mG l).2.1.size≤l.length:=by
 unfold mG
 show (cS.g _).size≤_
 rw [Gf,bN,List.length_take]
 omega
theorem Ie (l:List UInt8):(jV l).2.2.1.size≤l.length:=by
 have hw:=mW jt (l.drop ((dn l).2.2 + 2))
 have hd:=Cr (l.drop ((dn l).2.2 + 1))
 rw [List.length_drop] at hw hd
 have hs:(cS.g (au ((l.drop ((dn l).2.2 + 2)).takeWhile jt))).size≤l.length:=by
  rw [Gf,bN]
  omega
 unfold jV
 split
 ·split
  ·split
   ·split
    ·exact hs
    ·exact hs
   ·exact Nat.le_trans hd ak
  ·exact Nat.zero_le _
 ·exact Nat.zero_le _
theorem T5 (l:List UInt8):(iY l).2.1.size≤l.length:=by
 unfold iY
 split
 ·exact Nat.le_trans (Cr _) kR
 ·exact Cr l
theorem C6:∀ (n:Nat) (l:List UInt8),l.length < n→(fW l).2.1.length≤l.length + 1∧∀ y,y∈(fW l).2.1→y.size≤l.length
 | 0,_,h=>absurd h (Nat.not_lt_zero _)
 |n + 1,l,h=>by
  have hi:=T5 l
  have h1:∀ y,y∈ [(iY l).2.1]→y.size≤l.length:=by
   intro y hy
   rw [List.mem_singleton.mp hy]
   exact hi
  rw [nW]
  split
  ·split
   ·rename_i h2
    have h3:=fR h2
    obtain ⟨h4,h5⟩:=C6 n (l.drop ((iY l).2.2 + 1)) kR
    rw [List.length_drop] at h4 h5
    refine ⟨?_,?_⟩
    ·show ((iY l).2.1 :: _).length≤_
     rw [List.length_cons]
     omega
    ·intro y hy
     rcases List.mem_cons.mp hy with rfl|hy
     ·exact hi
     ·exact Nat.le_trans (h5 y hy) ak
   ·exact ⟨bw,h1⟩
  ·exact ⟨bw,h1⟩
theorem xq (l:List UInt8):(eK l).2.1.length≤l.length + 1∧(∀ y,y∈(eK l).2.1→y.size≤l.length)∧(eK l).2.2.2.1.size≤l.length:=by
 have hr:=C6 _ l (Nat.lt_succ_self _)
 have hb:=Ie l
 have hb2:=Ie (l.drop ((fW l).2.2 + 1))
 rw [List.length_drop] at hb2
 have hn:([]:List ByteArray).length≤l.length + 1∧∀ y,y∈([]:List ByteArray)→y.size≤l.length:=⟨Nat.zero_le _,fun _ h=>by cases h⟩
 unfold eK
 split
 ·exact ⟨hn.1,hn.2,Nat.zero_le _⟩
 ·split
  ·split
   ·split
    ·exact ⟨hr.1,hr.2,Nat.le_trans hb2 ak⟩
    ·exact ⟨hn.1,hn.2,Nat.zero_le _⟩
   ·exact ⟨hn.1,hn.2,Nat.zero_le _⟩
  ·exact ⟨hn.1,hn.2,hb⟩
theorem T6 (l:List UInt8) (h:(eK l).1=true):(eK l).2.2.2.2.2≤l.length:=by
 have hr:=Cq _ l (Nat.lt_succ_self _)
 unfold eK at h ⊢
 by_cases h0:gu l=true
 ·rw [if_pos h0]
  have h1: 10 < l.length:=by
   unfold gu at h0
   simp only [Bool.and_eq_true,decide_eq_true_eq] at h0
   exact h0.1.1
  show 10≤_
  omega
 ·rw [if_neg h0] at h ⊢
  by_cases h1:bX 64 l=true
  ·rw [if_pos h1] at h ⊢
   by_cases h2:(fW l).1=true
   ·rw [if_pos h2] at h ⊢
    by_cases h3:bX 58 (l.drop (fW l).2.2)=true
    ·have h3':=fR h3
     rw [if_pos h3] at h ⊢
     have:=K2 _ h
     rw [List.length_drop] at this
     show (fW l).2.2 + 1 + _≤_
     omega
    ·rw [if_neg h3] at h
     cases h
   ·rw [if_neg h2] at h
    cases h
  ·rw [if_neg h1] at h ⊢
   exact K2 _ h
def nN (l:List UInt8):Bool:=bX 60 l && bX 62 (l.drop 1)
def xu (l:List UInt8):Bool:=bX 60 l && (eK (l.drop 1)).1 && bX 62 (l.drop (1 + (eK (l.drop 1)).2.2.2.2.2))
def K3 (l:List UInt8) (n:Nat):Prop:=(nN l=true∧n=2)∨(nN l=false∧xu l=true∧n=2 + (eK (l.drop 1)).2.2.2.2.2)
theorem T7 {l:List UInt8} {n:Nat} (h:K3 l n): 2≤n∧n≤l.length:=by
 rcases h with ⟨h,rfl⟩|⟨_,h,rfl⟩
 ·unfold nN at h
  simp only [Bool.and_eq_true] at h
  have:=fR h.2
  omega
 ·unfold xu at h
  simp only [Bool.and_eq_true] at h
  have:=fR h.2
  omega
end Go.Proofs.YtokpnfljjjjikaaGreatDoor.jI
namespace Go.Proofs.YtokpnfljjjjikaaGreatDoor.jI
open Go.RowKit Go.Proofs.YtokpnfljjjjikaaGreatDoor Go.Proofs.YtokpnfljjjjikaaGreatDoor.mY Go.Proofs.aj.bO Go.Proofs.aj.cK
set_option linter.unusedVariables false
set_option linter.unusedSimpArgs false
def mJ (P:UInt8→Bool) (t:List UInt8):Prop:=∀ b t',t=b :: t'→P b=false
theorem EE {P:UInt8→Bool} {t:List UInt8} (h:mJ P t):∀ l:List UInt8,(l ++ t).takeWhile P=l.takeWhile P
 | []=>by
   cases t with
   |nil=>rfl
   |cons b t=>rw [List.nil_append,List.takeWhile_cons_of_neg (by rw [h b t rfl];decide)];rfl
 |b :: l=>by
  by_cases hb:P b=true
  ·rw [List.cons_append,List.takeWhile_cons_of_pos hb,List.takeWhile_cons_of_pos hb,EE h l]
  ·rw [List.cons_append,List.takeWhile_cons_of_neg hb,List.takeWhile_cons_of_neg hb]
theorem EF (P:UInt8→Bool):∀ l:List UInt8,mJ P (l.drop (l.takeWhile P).length)
 | []=>by intro b t' h;simp at h
 |b :: l=>by
  by_cases hb:P b=true
  ·rw [List.takeWhile_cons_of_pos hb]
   exact EF P l
  ·rw [List.takeWhile_cons_of_neg hb]
   intro c t' h
   cases h
   exact Bool.eq_false_iff.mpr hb
theorem T9 {c:UInt8} {l t:List UInt8} {n:Nat} (hn:n≤l.length) (h:bX c t=false):bX c ((l ++ t).drop n)=bX c (l.drop n):=by
 rw [List.drop_append_of_le_length hn]
 cases l.drop n with
 |nil=>rw [List.nil_append,h];rfl
 |cons b l=>rfl
theorem C7 {t:List UInt8} (h:mJ iI t) (l:List UInt8):dS (l ++ t)=dS l:=by
 unfold dS
 rw [EE h l]
theorem Pj {t:List UInt8} (h:mJ gV t) (l:List UInt8):gJ (l ++ t)=gJ l:=by
 unfold gJ
 rw [EE h l]
theorem zM {part:List UInt8→Bool×Nat} {c:UInt8} {t:List UInt8} (hp:∀ l,(part l).2≤l.length) (hpt:∀ l,part (l ++ t)=part l) (hc:bX c t=false):
 ∀ (n:Nat) (l:List UInt8),l.length < n→eJ part c (l ++ t)=eJ part c l
 | 0,_,h=>absurd h (Nat.not_lt_zero _)
 |n + 1,l,h=>by
  rw [jN part c (l ++ t),jN part c l,hpt,T9 (hp l) hc]
  by_cases h1:(part l).1=true
  ·rw [if_pos h1,if_pos h1]
   by_cases h2:bX c (l.drop (part l).2)=true
   ·have h3:=fR h2
    rw [if_pos h2,if_pos h2,List.drop_append_of_le_length ak,zM hp hpt hc n _ kR]
   ·rw [if_neg h2,if_neg h2]
  ·rw [if_neg h1,if_neg h1]
theorem zN {part:List UInt8→Bool×Nat} {P:UInt8→Bool} {c:UInt8} (hp:∀ l:List UInt8,mJ P (l.drop (part l).2)):
 ∀ (n:Nat) (l:List UInt8),l.length < n→(eJ part c l).1=true→mJ P (l.drop (eJ part c l).2)∧bX c (l.drop (eJ part c l).2)=false
 | 0,_,h,_ =>absurd h (Nat.not_lt_zero _)
 |n + 1,l,h,h1=>by
  rw [jN] at h1 ⊢
  by_cases h2:(part l).1=true
  ·rw [if_pos h2] at h1 ⊢
   by_cases h3:bX c (l.drop (part l).2)=true
   ·have h4:=fR h3
    rw [if_pos h3] at h1 ⊢
    have h5:=zN hp n (l.drop ((part l).2 + 1)) kR h1
    rw [List.drop_drop] at h5
    exact h5
   ·rw [if_neg h3]
    exact ⟨hp l,Bool.eq_false_iff.mpr h3⟩
  ·rw [if_neg h2] at h1
   cases h1
theorem MN (l:List UInt8):mJ iI (l.drop (dS l).2):=EF iI l
theorem Pk (l:List UInt8):mJ gV (l.drop (gJ l).2):=EF gV l
theorem rz {t:List UInt8} (h:mJ iI t) (h2:bX 46 t=false) (l:List UInt8):eJ dS 46 (l ++ t)=eJ dS 46 l:=
 zM uF (C7 h) h2 _ l (Nat.lt_succ_self _)
theorem zO {t:List UInt8} (h:mJ gV t) (h2:bX 46 t=false) (l:List UInt8):eJ gJ 46 (l ++ t)=eJ gJ 46 l:=
 zM xk (Pj h) h2 _ l (Nat.lt_succ_self _)
theorem xw (l:List UInt8) (h:(eJ dS 46 l).1=true):eJ dS 46 (l.take (eJ dS 46 l).2)=(true,(eJ dS 46 l).2):=by
 obtain ⟨h1,h2⟩:=zN (P:=iI) MN _ l (Nat.lt_succ_self _) h
 have h3:=rz h1 h2 (l.take (eJ dS 46 l).2)
 rw [List.take_append_drop] at h3
 rw [← h3,← h]
theorem Gg (l:List UInt8) (h:(eJ gJ 46 l).1=true):eJ gJ 46 (l.take (eJ gJ 46 l).2)=(true,(eJ gJ 46 l).2):=by
 obtain ⟨h1,h2⟩:=zN (P:=gV) Pk _ l (Nat.lt_succ_self _) h
 have h3:=zO h1 h2 (l.take (eJ gJ 46 l).2)
 rw [List.take_append_drop] at h3
 rw [← h3,← h]
def eX (b:UInt8):UInt8:=UInt8.ofNat (Ji (b.toNat:Int)).toNat
theorem lN (l:List UInt8):cS.g (au l)=au (l.map eX):=by
 unfold cS.g strOfNums bytesOf au
 congr 1
 simp only [List.map_map]
 rfl
theorem aa8 (b:UInt8):iI (eX b)=iI b:=fy (Q:=fun b=>iI (eX b)=iI b) fk b
theorem aa9 (b:UInt8):eX (eX b)=eX b:=fy (Q:=fun b=>eX (eX b)=eX b) fk b
theorem XN (b:UInt8):(eX b != 45)=(b != 45):=fy (Q:=fun b=>(eX b != 45)=(b != 45)) fk b
theorem Pm (b:UInt8):(eX b == 46)=(b == 46):=fy (Q:=fun b=>(eX b == 46)=(b == 46)) fk b
theorem tT (l:List UInt8):(l.map eX).map eX=l.map eX:=by
 rw [List.map_map]
 congr 1
 funext b
 exact aa9 b
theorem aeV (l:List UInt8):(l.map eX).takeWhile iI=(l.takeWhile iI).map eX:=by
 rw [List.takeWhile_map]
 congr 2
 funext b
 exact aa8 b
theorem XO (l:List UInt8) (n:Nat):(l.map eX).getD n 0=eX (l.getD n 0):=by
 rw [List.getD_eq_getElem?_getD,List.getD_eq_getElem?_getD,List.getElem?_map]
 cases l[n]? with
 |none=>rfl
 |some b=>rfl
theorem Pn (l:List UInt8):dS (l.map eX)=dS l:=by
 unfold dS
 rw [aeV,List.length_map]
 cases l.takeWhile iI with
 |nil=>rfl
 |cons c t=>
  show (eX c != 45 && ((c :: t).map eX).getD (t.map eX).length 0 != 45,_)=(c != 45 && (c :: t).getD t.length 0 != 45,_)
  rw [XO,XN,XN,List.length_map]
theorem XP (l:List UInt8):bX 46 (l.map eX)=bX 46 l:=by
 cases l with
 |nil=>rfl
 |cons b l=>exact Pm b
theorem Gh:∀ (n:Nat) (l:List UInt8),l.length < n→eJ dS 46 (l.map eX)=eJ dS 46 l
 | 0,_,h=>absurd h (Nat.not_lt_zero _)
 |n + 1,l,h=>by
  rw [jN dS 46 (l.map eX),jN dS 46 l,Pn,← List.map_drop,XP]
  by_cases h1:(dS l).1=true
  ·rw [if_pos h1,if_pos h1]
   by_cases h2:bX 46 (l.drop (dS l).2)=true
   ·have h3:=fR h2
    rw [if_pos h2,if_pos h2,← List.map_drop,Gh n _ kR]
   ·rw [if_neg h2,if_neg h2]
  ·rw [if_neg h1,if_neg h1]
def td (l:List UInt8):List UInt8:=(l.take (eJ dS 46 l).2).map eX
theorem qq (l:List UInt8):(mG l).2.1=au (td l):=lN _
theorem xx (l:List UInt8):(td l).length=(mG l).2.2:=by
 have h:=yO l
 unfold td
 rw [List.length_map,List.length_take]
 exact Nat.min_eq_left h
theorem XQ (l t:List UInt8) (h:(mG l).1=true) (ht:mJ iI t) (h2:bX 46 t=false):mG (td l ++ t)=(true,au (td l),(td l).length):=by
 have h1:eJ dS 46 (td l ++ t)=(true,(td l).length):=by
  rw [rz ht h2]
  unfold td
  rw [Gh _ _ (Nat.lt_succ_self _),xw l h,List.length_map,List.length_take,Nat.min_eq_left (show (eJ dS 46 l).2≤l.length from yO l)]
 unfold mG
 rw [h1]
 simp only
 rw [List.take_left',lN]
 ·unfold td
  rw [tT]
 ·rfl
theorem C8 {part:List UInt8→Bool×Nat} {R:UInt8→Prop} {c:UInt8} (hc:R c) (hp:∀ (l:List UInt8) (b:UInt8),b∈l.take (part l).2→R b):
 ∀ (n:Nat) (l:List UInt8),l.length < n→∀ b,b∈l.take (eJ part c l).2→R b
 | 0,_,h=>absurd h (Nat.not_lt_zero _)
 |n + 1,l,h=>by
  intro b hb
  rw [jN] at hb
  by_cases h1:(part l).1=true
  ·rw [if_pos h1] at hb
   by_cases h2:bX c (l.drop (part l).2)=true
   ·have h3:=fR h2
    rw [if_pos h2] at hb
    simp only at hb
    rw [List.take_add,List.mem_append,List.take_add,List.mem_append] at hb
    rcases hb with (hb|hb)|hb
    ·exact hp l b hb
    ·cases hl:l.drop (part l).2 with
     |nil=>rw [hl] at hb;simp at hb
     |cons d l'=>
      rw [hl] at hb h2
      simp at hb
      have:d=c:=by simpa [bX] using h2
      rw [hb,this]
      exact hc
    ·exact C8 hc hp n _ kR b hb
   ·rw [if_neg h2] at hb
    exact hp l b hb
  ·rw [if_neg h1] at hb
   exact hp l b hb
def yV (b:UInt8):Prop:=¬ (b < 32∨126 < b)
instance (b:UInt8):Decidable (yV b):=by unfold yV;infer_instance
theorem Ua (b:UInt8):gV b=true→yV b:=fy (Q:=fun b=>gV b=true→yV b) fk b
theorem Gi (b:UInt8):gV b=true→b≠34:=fy (Q:=fun b=>gV b=true→b≠34) fk b
theorem XR {P:UInt8→Bool}:∀ (l:List UInt8) (b:UInt8),b∈l.takeWhile P→P b=true
 | [],_,h=>by cases h
 |c :: l,b,h=>by
  by_cases hc:P c=true
  ·rw [List.takeWhile_cons_of_pos hc] at h
   rcases List.mem_cons.mp h with rfl|h
   ·exact hc
   ·exact XR l b h
  ·rw [List.takeWhile_cons_of_neg hc] at h
   cases h
theorem Po (l:List UInt8) (b:UInt8) (hb:b∈l.take (eJ gJ 46 l).2):yV b:=
 C8 (R:=yV) bh (fun l b hb=>Ua b (XR l b (by
  have e:l.take (gJ l).2=l.takeWhile gV:=kN gV l
  rwa [e] at hb))) _ l (Nat.lt_succ_self _) b hb
theorem zP:∀ (n:Nat) (l acc:List UInt8),l.length < n→(∀ b,b∈acc→yV b)→∀ b,b∈(gD l acc).2.1→yV b
 | 0,_,_,h,_ =>absurd h (Nat.not_lt_zero _)
 |n + 1,l,acc,h,ha=>by
  intro d hd
  cases l with
  |nil=>unfold gD at hd;cases hd
  |cons b l=>
   unfold gD at hd
   by_cases hq:b=34
   ·rw [if_pos hq] at hd
    exact ha d hd
   ·rw [if_neg hq] at hd
    by_cases hb:b=92
    ·rw [if_pos hb] at hd
     cases l with
     |nil=>cases hd
     |cons c l'=>
      by_cases hc:c < 32∨126 < c
      ·simp only [if_pos hc] at hd
       cases hd
      ·simp only [if_neg hc] at hd
       refine zP n l' (acc ++ [c]) xS (fun x hx=>?_) d hd
       rcases List.mem_append.mp hx with hx|hx
       ·exact ha x hx
       ·rw [List.mem_singleton.mp hx];exact hc
    ·rw [if_neg hb] at hd
     by_cases hc:b < 32∨126 < b
     ·rw [if_pos hc] at hd
      cases hd
     ·rw [if_neg hc] at hd
      refine zP n l (acc ++ [b]) xS (fun x hx=>?_) d hd
      rcases List.mem_append.mp hx with hx|hx
      ·exact ha x hx
      ·rw [List.mem_singleton.mp hx];exact hc
def uu (l:List UInt8):List UInt8:=if bX 34 l=true then (gD (l.drop 1) []).2.1 else l.take (eJ gJ 46 l).2
theorem rA (l:List UInt8):(dn l).2.1=au (uu l):=by
 unfold dn uu
 split<;>rfl
theorem C9 (l:List UInt8) (b:UInt8) (hb:b∈uu l):yV b:=by
 unfold uu at hb
 split at hb
 ·exact zP _ _ [] (Nat.lt_succ_self _) (fun _ h=>by cases h) b hb
 ·exact Po l b hb
def qB (b:UInt8):List UInt8:=if b=34∨b=92 then [92,b] else [b]
def qL (l:List UInt8):List UInt8:=l.flatMap qB
theorem Gj (t:List UInt8):∀ (l acc:List UInt8),(∀ b,b∈l→yV b)→gD (qL l ++ 34 :: t) acc=(true,acc ++ l,(qL l).length + 1)
 | [],acc,_ =>by
   show gD (34 :: t) acc=_
   unfold gD
   simp [qL]
 |b :: l,acc,h=>by
  have hf:=h b (List.mem_cons_self ..)
  have ih:=Gj t l (acc ++ [b]) (fun x hx=>h x (List.mem_cons_of_mem _ hx))
  have e:qL (b :: l)=qB b ++ qL l:=rfl
  rw [e,List.append_assoc]
  unfold qB
  by_cases hb:b=34∨b=92
  ·rw [if_pos hb]
   show gD (92 :: b :: (qL l ++ 34 :: t)) acc=_
   unfold gD
   rw [if_neg bh,if_pos rfl]
   simp only
   rw [if_neg hf,ih]
   simp
  ·rw [if_neg hb]
   show gD (b :: (qL l ++ 34 :: t)) acc=_
   unfold gD
   rw [if_neg (fun h=>hb (.inl h)),if_neg (fun h=>hb (.inr h)),if_neg hf,ih]
   simp
def xy (l:List UInt8):Bool:=(eJ gJ 46 l).1 && (eJ gJ 46 l).2 == l.length
def oN (l:List UInt8):List UInt8:=if xy l=true then l else 34 :: (qL l ++ [34])
theorem Gk (l t:List UInt8) (h:∀ b,b∈l→yV b) (ht:mJ gV t) (h2:bX 46 t=false):dn (oN l ++ t)=(true,au l,(oN l).length):=by
 unfold oN
 by_cases hp:xy l=true
 ·rw [if_pos hp]
  unfold xy at hp
  simp only [Bool.and_eq_true,beq_iff_eq] at hp
  have hn:bX 34 (l ++ t)=false:=by
   have h1:(eJ gJ 46 l).1=true:=hp.1
   rw [jN] at h1
   cases l with
   |nil=>simp [gJ] at h1
   |cons b l=>
    have hb:gV b=true:=by
     by_cases hb:gV b=true
     ·exact hb
     ·exfalso
      have:(gJ (b :: l)).1=false:=by
       unfold gJ
       rw [List.takeWhile_cons_of_neg hb]
       rfl
      rw [this] at h1
      simp at h1
    have:=Gi b hb
    show (b == 34)=false
    simpa using this
  unfold dn
  rw [if_neg (by rw [hn];decide),zO ht h2,hp.1,hp.2,List.take_left']
  rfl
 ·rw [if_neg hp]
  unfold dn
  rw [if_pos (show bX 34 (34 :: (qL l ++ [34]) ++ t)=true from rfl)]
  have e:((34:UInt8) :: (qL l ++ [34]) ++ t).drop 1=qL l ++ 34 :: t:=by simp
  rw [e,Gj t l [] h]
  simp
  omega
end Go.Proofs.YtokpnfljjjjikaaGreatDoor.jI
namespace Go.Proofs.YtokpnfljjjjikaaGreatDoor.jI
open Go.RowKit Go.Proofs.YtokpnfljjjjikaaGreatDoor Go.Proofs.YtokpnfljjjjikaaGreatDoor.mY Go.Proofs.aj.bO Go.Proofs.aj.cK
set_option linter.unusedVariables false
set_option linter.unusedSimpArgs false
def mK (d:List UInt8):Prop:=eJ dS 46 d=(true,d.length)∧d.map eX=d
theorem S5 (l:List UInt8) (h:(mG l).1=true):mK (td l):=by
 refine ⟨?_,?_⟩
 ·have h1:=XQ l [] h (by intro b t' e;cases e) rfl
  rw [List.append_nil] at h1
  have h2:(eJ dS 46 (td l)).1=true:=congrArg (·.1) h1
  have h3:(eJ dS 46 (td l)).2=(td l).length:=congrArg (·.2.2) h1
  exact Prod.ext h2 h3
 ·unfold td
  rw [tT]
theorem mK.read {d:List UInt8} (h:mK d) {t:List UInt8} (ht:mJ iI t) (h2:bX 46 t=false):mG (d ++ t)=(true,au d,d.length):=by
 unfold mG
 rw [rz ht h2,h.1]
 simp only
 rw [List.take_left',lN,h.2]
 rfl
theorem mK.head {d:List UInt8} (h:mK d):∃ b d',d=b :: d'∧iI b=true:=by
 have h1:(eJ dS 46 d).1=true:=by rw [h.1]
 rw [jN] at h1
 cases d with
 |nil=>simp [dS] at h1
 |cons b d'=>
  refine ⟨b,d',rfl,?_⟩
  by_cases hb:iI b=true
  ·exact hb
  ·exfalso
   have:(dS (b :: d')).1=false:=by
    unfold dS
    rw [List.takeWhile_cons_of_neg hb]
   rw [this] at h1
   simp at h1
theorem Ub (b:UInt8):iI b=true→(b == 91)=false:=fy (Q:=fun b=>iI b=true→(b == 91)=false) fk b
structure vX (lo dom:List UInt8) (lit:Bool):Prop where
 los:∀ b,b∈lo→yV b
 doms:lit=false→mK dom
 words:lit=true→Pe (au dom)=true∧(∀ b,b∈dom→jt b=true)∧dom.map eX=dom
def gL (lo dom:List UInt8) (lit:Bool):List UInt8:=oN lo ++ (if lit=true then 64 :: 91 :: (dom ++ [93]) else 64 :: dom)
theorem S6 (t:List UInt8):mJ gV (64 :: t):=by
 intro b t' e
 cases e
 decide +kernel
theorem Pp {P:UInt8→Bool} {t:List UInt8} (ht:mJ P t):∀ l:List UInt8,(∀ b,b∈l→P b=true)→(l ++ t).takeWhile P=l
 | [],_ =>by
   cases t with
   |nil=>rfl
   |cons b t=>rw [List.nil_append,List.takeWhile_cons_of_neg (by rw [ht b t rfl];decide)]
 |b :: l,h=>by rw [List.cons_append,List.takeWhile_cons_of_pos (h b (List.mem_cons_self ..)),Pp ht l (fun x hx=>h x (List.mem_cons_of_mem _ hx))]
theorem drop_left (l t:List UInt8) (n:Nat):(l ++ t).drop (l.length + n)=t.drop n:=by
 rw [← List.drop_drop,List.drop_left]
theorem XS {lo dom:List UInt8} {lit:Bool} (h:vX lo dom lit) {t:List UInt8} (ht:mJ iI t) (h2:bX 46 t=false):
 jV (gL lo dom lit ++ t)=(true,au lo,au dom,lit,(gL lo dom lit).length):=by
 unfold gL
 cases lit with
 |true=>
  obtain ⟨hl,hw,hs⟩:=h.words rfl
  simp only [if_true]
  rw [List.append_assoc]
  have e0:((64:UInt8) :: 91 :: (dom ++ [93])) ++ t=64 :: 91 :: (dom ++ 93 :: t):=by simp
  rw [e0]
  have e1:=Gk lo (64 :: 91 :: (dom ++ 93 :: t)) h.los (S6 _) rfl
  unfold jV
  rw [e1]
  simp only
  rw [if_pos trivial,show ((oN lo ++ 64 :: 91 :: (dom ++ 93 :: t)).drop (oN lo).length)=64 :: 91 :: (dom ++ 93 :: t) from List.drop_left]
  rw [if_pos (show bX 64 (64 :: 91 :: (dom ++ 93 :: t))=true from rfl),drop_left _ _ 1]
  rw [if_pos (show bX 91 ((64 :: 91 :: (dom ++ 93 :: t)).drop 1)=true from rfl),drop_left _ _ 2]
  have e2:((64:UInt8) :: 91 :: (dom ++ 93 :: t)).drop 2=dom ++ 93 :: t:=rfl
  rw [e2,Pp (P:=jt) (t:=93 :: t) (by intro b t' e;cases e;rfl) dom hw,Nat.add_assoc,drop_left _ _ (2 + dom.length)]
  have e3:((64:UInt8) :: 91 :: (dom ++ 93 :: t)).drop (2 + dom.length)=93 :: t:=by
   rw [← List.drop_drop,e2,List.drop_left]
  rw [e3,if_pos (show bX 93 (93 :: t)=true from rfl),hl,lN,hs]
  simp
  omega
 |false=>
  have hd:=h.doms rfl
  obtain ⟨b,d',hb,hlb⟩:=hd.head
  simp only [Bool.false_eq_true,if_false]
  rw [List.append_assoc]
  have e1:=Gk lo ((64 :: dom) ++ t) h.los (by rw [List.cons_append];exact S6 _) rfl
  unfold jV
  rw [e1]
  simp only
  rw [if_pos trivial,show ((oN lo ++ ((64 :: dom) ++ t)).drop (oN lo).length)=(64 :: dom) ++ t from List.drop_left]
  rw [if_pos (show bX 64 ((64 :: dom) ++ t)=true from rfl),drop_left _ _ 1]
  have e2:(((64:UInt8) :: dom) ++ t).drop 1=dom ++ t:=rfl
  rw [e2,if_neg (by rw [hb];show ¬ (b == 91)=true;rw [Ub b hlb];decide),hd.read ht h2]
  simp
  omega
def dG:List (List UInt8)→List UInt8
 | []=>[]
 | [d]=>64 :: d
 |d :: ds=>64 :: (d ++ 44 :: dG ds)
theorem pH (c:UInt8) (h:iI c=false) (t:List UInt8):mJ iI (c :: t):=by
 intro b t' e
 cases e
 exact h
theorem Gl (t:List UInt8):∀ ds:List (List UInt8),ds≠ []→(∀ d,d∈ds→mK d)→fW (dG ds ++ 58 :: t)=(true,ds.map au,(dG ds).length)
 | [],h,_ =>absurd rfl h
 | [d],_,h=>by
   have hd:=h d (List.mem_cons_self ..)
   rw [nW]
   have e:iY (dG [d] ++ 58 :: t)=(true,au d,1 + d.length):=by
    unfold iY
    rw [if_pos (show bX 64 (dG [d] ++ 58 :: t)=true from rfl)]
    have e2:(dG [d] ++ 58 :: t).drop 1=d ++ 58 :: t:=rfl
    rw [e2,hd.read (pH 58 fk t) rfl]
   rw [e]
   have e3:(dG [d] ++ 58 :: t).drop (1 + d.length)=58 :: t:=by
    show ((64:UInt8) :: (d ++ 58 :: t)).drop (1 + d.length)=_
    rw [Nat.add_comm,List.drop_succ_cons,List.drop_left]
   simp only [if_true]
   rw [e3,if_neg (show ¬ bX 44 (58 :: t)=true by simp [bX])]
   simp [dG]
   omega
 |d :: d2 :: ds,_,h=>by
  have hd:=h d (List.mem_cons_self ..)
  have ih:=Gl t (d2 :: ds) bw (fun x hx=>h x (List.mem_cons_of_mem _ hx))
  have e0:dG (d :: d2 :: ds) ++ 58 :: t=64 :: (d ++ 44 :: (dG (d2 :: ds) ++ 58 :: t)):=by
   show (64 :: (d ++ 44 :: dG (d2 :: ds))) ++ 58 :: t=_
   simp
  rw [nW,e0]
  have e:iY (64 :: (d ++ 44 :: (dG (d2 :: ds) ++ 58 :: t)))=(true,au d,1 + d.length):=by
   unfold iY
   rw [if_pos (show bX 64 (64 :: (d ++ 44 :: (dG (d2 :: ds) ++ 58 :: t)))=true from rfl)]
   have e2:((64:UInt8) :: (d ++ 44 :: (dG (d2 :: ds) ++ 58 :: t))).drop 1=d ++ 44 :: (dG (d2 :: ds) ++ 58 :: t):=rfl
   rw [e2,hd.read (pH 44 fk _) rfl]
  rw [e]
  have e3:((64:UInt8) :: (d ++ 44 :: (dG (d2 :: ds) ++ 58 :: t))).drop (1 + d.length)=44 :: (dG (d2 :: ds) ++ 58 :: t):=by
   rw [Nat.add_comm,List.drop_succ_cons,List.drop_left]
  have e4:((64:UInt8) :: (d ++ 44 :: (dG (d2 :: ds) ++ 58 :: t))).drop (1 + d.length + 1)=dG (d2 :: ds) ++ 58 :: t:=by
   rw [← List.drop_drop,e3]
   rfl
  simp only [if_true]
  rw [e3,if_pos (show bX 44 (44 :: (dG (d2 :: ds) ++ 58 :: t))=true from rfl),e4,ih]
  simp [dG]
  omega
theorem XT (b:UInt8):eX b∈([112,111,115,116,109,97,115,116,101,114]:List UInt8)→gV b=true:=fy (Q:=fun b=>eX b∈([112,111,115,116,109,97,115,116,101,114]:List UInt8)→gV b=true) fk b
theorem Ig (l:List UInt8) (h:gu l=true):(jV l).1=false:=by
 unfold gu at h
 simp only [Bool.and_eq_true,decide_eq_true_eq] at h
 obtain ⟨⟨h1,h2⟩,h3⟩:=h
 rw [lN,ByteArray.toList_eq] at h2
 have h2':(l.take 10).map eX= [112,111,115,116,109,97,115,116,101,114]:=by simpa [au] using h2
 have ha:∀ b,b∈l.take 10→gV b=true:=fun b hb=>XT b (by rw [← h2'];exact List.mem_map_of_mem hb)
 obtain ⟨c,t,hc⟩:∃ c t,l.drop 10=c :: t:=by
  cases hd:l.drop 10 with
  |nil=>rw [hd] at h3;cases h3
  |cons c t=>exact ⟨c,t,rfl⟩
 have ark:c=62:=by rw [hc] at h3;simpa [bX] using h3
 subst ark
 have e:l=l.take 10 ++ 62 :: t:=by rw [← hc,List.take_append_drop]
 have hlen:(l.take 10).length=10:=by rw [List.length_take];omega
 have hst:mJ gV (62 :: t):=by
  intro b t' e
  cases e
  decide +kernel
 have htw:l.takeWhile gV=l.take 10:=by
  conv=>lhs;rw [e]
  exact Pp hst _ ha
 have hat:gJ l=(true,10):=by
  unfold gJ
  rw [htw,hlen]
  rfl
 have hli:eJ gJ 46 l=(true,10):=by
  rw [jN,hat]
  simp only [if_true]
  rw [hc,if_neg (show ¬ bX 46 (62 :: t)=true by simp [bX])]
 have hn:bX 34 l=false:=by
  cases hl:l with
  |nil=>rfl
  |cons b l'=>
   have hb:gV b=true:=ha b (by rw [hl];simp)
   show (b == 34)=false
   simpa using Gi b hb
 have hlo:dn l=(true,au (l.take 10),10):=by
  unfold dn
  rw [if_neg (by rw [hn];decide),hli]
 unfold jV
 rw [hlo]
 simp only [if_true]
 rw [hc,if_neg (show ¬ bX 64 (62 :: t)=true by simp [bX])]
theorem MO (l:List UInt8):gu (64 :: l)=false:=by
 cases h:gu (64 :: l) with
 |false=>rfl
 |true=>
  exfalso
  unfold gu at h
  simp only [Bool.and_eq_true,decide_eq_true_eq] at h
  obtain ⟨⟨h1,h2⟩,h3⟩:=h
  rw [lN,ByteArray.toList_eq] at h2
  have h2':((64 :: l).take 10).map eX= [112,111,115,116,109,97,115,116,101,114]:=by simpa [au] using h2
  rw [List.take_succ_cons,List.map_cons] at h2'
  have:=(List.cons.inj h2').1
  revert this
  decide
def gv (ds:List (List UInt8)) (lo dom:List UInt8) (lit:Bool):List UInt8:=match ds with
 | []=>gL lo dom lit
 |_ =>dG ds ++ 58 :: gL lo dom lit
theorem tU (ds:List (List UInt8)) (h:ds≠ []):∃ l,dG ds=64 :: l:=by
 match ds,h with
 | [d],_ =>exact ⟨_,rfl⟩
 |d :: d2 :: ds,_ =>exact ⟨_,rfl⟩
theorem Pq {ds:List (List UInt8)} {lo dom:List UInt8} {lit:Bool} (hds:∀ d,d∈ds→mK d) (h:vX lo dom lit) (t:List UInt8):
 eK (gv ds lo dom lit ++ 62 :: t)=(true,ds.map au,au lo,au dom,lit,(gv ds lo dom lit).length):=by
 have hb:=XS h (t:=62 :: t) (pH 62 fk t) rfl
 cases ds with
 |nil=>
  show eK (gL lo dom lit ++ 62 :: t)=_
  unfold eK
  have ha:gu (gL lo dom lit ++ 62 :: t)=false:=by
   cases ha:gu (gL lo dom lit ++ 62 :: t) with
   |false=>rfl
   |true=>
    have:=Ig _ ha
    rw [hb] at this
    cases this
  have hn:bX 64 (gL lo dom lit ++ 62 :: t)=false:=by
   cases hn:bX 64 (gL lo dom lit ++ 62 :: t) with
   |false=>rfl
   |true=>
    exfalso
    have h1:(jV (gL lo dom lit ++ 62 :: t)).1=true:=by rw [hb]
    generalize gL lo dom lit ++ 62 :: t=l at hn h1
    cases l with
    |nil=>cases hn
    |cons b l=>
     have arn:b=64:=by simpa [bX] using hn
     subst arn
     have hlo:(dn (64 :: l)).1=false:=by
      unfold dn
      rw [if_neg (show ¬ bX 34 (64 :: l)=true by simp [bX])]
      show (eJ gJ 46 (64 :: l)).1=false
      rw [jN]
      have:(gJ (64 :: l)).1=false:=by
       unfold gJ
       rw [List.takeWhile_cons_of_neg fk]
       rfl
      rw [this]
      rfl
     unfold jV at h1
     rw [hlo] at h1
     simp at h1
  rw [if_neg (by rw [ha];decide),if_neg (by rw [hn];decide),hb]
  rfl
 |cons d ds=>
  show eK ((dG (d :: ds) ++ 58 :: gL lo dom lit) ++ 62 :: t)=_
  rw [List.append_assoc,List.cons_append]
  have hr:=Gl (gL lo dom lit ++ 62 :: t) (d :: ds) bw hds
  obtain ⟨l,hl⟩:=tU (d :: ds) bw
  have hh:dG (d :: ds) ++ 58 :: (gL lo dom lit ++ 62 :: t)=64 :: (l ++ 58 :: (gL lo dom lit ++ 62 :: t)):=by rw [hl];rfl
  unfold eK
  rw [if_neg (by rw [hh,MO];decide),if_pos (by rw [hh];rfl),hr]
  simp only [if_true]
  rw [List.drop_left,if_pos (show bX 58 (58 :: (gL lo dom lit ++ 62 :: t))=true from rfl),drop_left _ _ 1]
  have e:((58:UInt8) :: (gL lo dom lit ++ 62 :: t)).drop 1=gL lo dom lit ++ 62 :: t:=rfl
  rw [e,hb]
  simp [gv]
  omega
end Go.Proofs.YtokpnfljjjjikaaGreatDoor.jI
namespace Go.Proofs.YtokpnfljjjjikaaGreatDoor.jI
open Go.RowKit Go.Proofs.YtokpnfljjjjikaaGreatDoor Go.Proofs.YtokpnfljjjjikaaGreatDoor.mY Go.Proofs.aj.bO Go.Proofs.aj.cK
set_option linter.unusedVariables false
set_option linter.unusedSimpArgs false
theorem Ih {g:ByteArray→Bool} {xs:List ByteArray} (hf:∀ y,y∈xs→gF.f y=some (g y)):∀ (k i:Nat),xs.length - i < k→i≤xs.length→xs.length < 4611686018427387904→
 ∃ r,aI.l0 k xs (xs.length:Int) (i:Int)=some r∧decide (r≥0)=(xs.drop i).any g
 | 0,_,h,_,_ =>absurd h (Nat.not_lt_zero _)
 |k + 1,i,h,hi,hl=>by
  unfold aI.l0
  by_cases hlt:i < xs.length
  ·rw [if_pos ak,if_pos ak,if_pos ak]
   have hrd:cV ByteArray.empty xs (i:Int)=xs[i]:=by simp [cV,hlt]
   have hd:xs.drop i=xs[i] :: xs.drop (i + 1):=List.drop_eq_getElem_cons hlt
   rw [hrd,hf xs[i] (List.getElem_mem hlt),hd,List.any_cons]
   simp only [Option.bind_some]
   cases hg:g xs[i] with
   |true=>exact ⟨_,if_pos rfl,bw⟩
   |false=>
    rw [if_neg bh,jE i ak]
    obtain ⟨r,h1,h2⟩:=Ih hf k (i + 1) ak ak hl
    exact ⟨r,h1,by rw [h2];rfl⟩
  ·rw [if_neg ak,List.drop_of_length_le ak]
   exact ⟨_,rfl,rfl⟩
theorem aeW {g:ByteArray→Bool} {xs:List ByteArray} (hf:∀ y,y∈xs→gF.f y=some (g y)) (k:Nat) (hk:xs.length < k) (hl:xs.length < 4611686018427387904):bC.f k xs=some (xs.any g):=by
 obtain ⟨r,h1,h2⟩:=Ih hf k 0 ak (Nat.zero_le _) hl
 unfold bC.f aI.f
 rw [show (0:Int)=((0:Nat):Int) from rfl,h1]
 simp only [Option.bind_some]
 rw [show decide (r≥((0:Nat):Int))=decide (r≥0) from rfl,h2,List.drop_zero]
def lO (l:List UInt8):Bool:=(pu 10 255 (au l)).isNone || decide (3 < l.length)
def nO (l:List UInt8):Int:=if l.length=0 then 0 else if (pieces 58 l).any (fun p=>iw (au p)) then -1 else ((pieces 58 l).length:Int)
def DI (l:List UInt8):Bool:=
 if (Lib.cut l [58,58]).2.2=true then (decide (0≤nO (Lib.cut l [58,58]).1) && (decide (0≤nO (Lib.cut l [58,58]).2.1) && decide (nO (Lib.cut l [58,58]).1 + nO (Lib.cut l [58,58]).2.1≤6)))
 else nO (Lib.cut l [58,58]).1 == 8
def vY (l:List UInt8):Bool:=decide ((pieces 46 l).length=4) && !((pieces 46 l).any lO)
def qu (l:List UInt8):Bool:=decide (5 < l.length) && ((l.take 5).map eX == [105,112,118,54,58])
def tE (l:List UInt8):Bool:=if qu l=true then DI (l.drop 5) else vY l
theorem Ii (l:List UInt8) (hl:l.length < 4294967281):fI.f (au l)=some (nO l):=by
 unfold fI.f nO
 rw [if_pos (by exact hl)]
 congr 1
 rw [bN]
 by_cases h0:l.length=0
 ·rw [if_pos h0,if_pos h0]
 ·rw [if_neg h0,if_neg h0]
  rw [List.any_map]
  rfl
theorem nP (c:UInt8) (l:List UInt8):(pieces c l).length≤l.length + 1:=by
 rw [oz]
 have:=List.count_le_length (a:=c) (l:=l)
 omega
theorem xz (l:List UInt8): -1≤nO l∧nO l≤l.length + 1:=by
 have h:=nP 58 l
 unfold nO
 split
 ·omega
 ·split
  ·omega
  ·omega
theorem aba (l:List UInt8):(Lib.cut l [58,58]).1.length≤l.length∧(Lib.cut l [58,58]).2.1.length≤l.length:=by
 unfold Lib.cut
 split
 ·refine ⟨?_,?_⟩
  ·rw [List.length_take];omega
  ·rw [List.length_drop];omega
 ·exact ⟨Nat.le_refl _,Nat.zero_le _⟩
theorem aeX (l:List UInt8) (hl:l.length < 4294967281):qQ.f (au l)=some (DI l):=by
 obtain ⟨h1,h2⟩:=aba l
 have g1:=xz (Lib.cut l [58,58]).1
 have g2:=xz (Lib.cut l [58,58]).2.1
 unfold qQ.f strings_Cut.f
 rw [if_pos (by exact hl)]
 simp only [Option.bind_some]
 show ((fI.f (au (Lib.cut l [58,58]).1)).bind fun t151=>((fI.f (au (Lib.cut l [58,58]).2.1)).bind fun t152=>_))=some (DI l)
 rw [Ii _ ak,Ii _ ak]
 simp only [Option.bind_some]
 show (if (Lib.cut l [58,58]).2.2=true then _ else _)=_
 unfold DI
 by_cases hg:(Lib.cut l [58,58]).2.2=true
 ·rw [if_pos hg,if_pos hg]
  by_cases ha: 0≤nO (Lib.cut l [58,58]).1
  ·rw [if_pos ak,decide_eq_true ha,Bool.true_and]
   by_cases hb: 0≤nO (Lib.cut l [58,58]).2.1
   ·rw [if_pos ak,decide_eq_true hb,Bool.true_and]
    have e:wrap64 (nO (Lib.cut l [58,58]).1 + nO (Lib.cut l [58,58]).2.1)=nO (Lib.cut l [58,58]).1 + nO (Lib.cut l [58,58]).2.1:=by unfold wrap64;omega
    rw [e]
   ·rw [if_neg ak,decide_eq_false hb,Bool.false_and]
  ·rw [if_neg ak,decide_eq_false ha,Bool.false_and]
 ·rw [if_neg hg,if_neg hg]
theorem XU (l:List UInt8) (hl:l.length < 4294967281):gF.f (au l)=some (lO l):=by
 unfold gF.f lO
 rw [if_pos fZ]
 rfl
theorem Gm (c:UInt8) (l x:List UInt8) (h:x∈pieces c l):x.length≤l.length:=pP c l x h
theorem vH (l:List UInt8) (hl:l.length < 4294967281) (k:Nat) (hk:l.length + 4 < k):cI.f k (au l)=some (tE l):=by
 obtain ⟨k,rfl⟩:∃ k',k=k' + 1:=⟨k - 1,ak⟩
 have ac2:cI.j0 (k + 1) (au l) false=some (vY l):=by
  rw [cI.j0,if_neg bh,vG _ 46 uT]
  simp only [Option.bind_some]
  show (if (((pieces 46 l).map au).length:Int)=4 then _ else _)=_
  unfold vY
  have hp:=nP 46 l
  by_cases h4:(pieces 46 l).length=4
  ·rw [if_pos jX,decide_eq_true h4,Bool.true_and]
   have ha:=aeW (g:=fun y=>lO y.data.toList) (xs:=(pieces 46 l).map au) (fun y hy=>by
    obtain ⟨p,hp,rfl⟩:=List.mem_map.mp hy
    have:=Gm 46 l p hp
    exact XU p ak) k jX jX
   show ((bC.f k ((pieces 46 l).map au)).bind _)=_
   rw [ha]
   simp only [Option.bind_some]
   rw [List.any_map]
   rfl
  ·rw [if_neg jX,decide_eq_false h4,Bool.false_and]
 unfold cI.f tE
 rw [bN]
 by_cases h5: 5 < l.length
 ·rw [if_pos ak,if_pos bh,if_pos ak]
  have e1:(au l).extract 0 5=au (l.take 5):=by
   have:=lq (au l) 0 5 ak
   exact this
  have hf:cS.f (au (l.take 5))=some (au ((l.take 5).map eX)):=by
   unfold cS.f
   rw [if_pos (by rw [bN,List.length_take];omega),lN]
  rw [e1,hf]
  simp only [Option.bind_some]
  rw [show (au ((l.take 5).map eX)).toList=(l.take 5).map eX from ByteArray.toList_eq ..]
  have hi:qu l=((l.take 5).map eX == [105,112,118,54,58]):=by unfold qu;rw [decide_eq_true h5,Bool.true_and]
  rw [← hi]
  cases hs:qu l with
  |true=>
   rw [if_pos rfl,cI.j0,if_pos rfl,if_pos fZ]
   have e2:(au l).extract 5 (au l).size=au (l.drop 5):=by
    rw [lq (au l) 5 (au l).size fZ,bN]
    congr 1
    show (l.drop 5).take (l.length - 5)=l.drop 5
    exact List.take_of_length_le kR
   rw [e2,aeX _ kR]
   rfl
  |false=>
   rw [if_neg bh]
   exact ac2
 ·rw [if_neg ak,ac2,if_neg (by unfold qu;rw [decide_eq_false h5];simp)]
theorem yP (l:List UInt8) (hl:l.length < 4294967281):Pe (au l)=tE l:=by
 unfold Pe
 rw [vH l hl _ fZ]
 rfl
theorem aeY (b:UInt8):(eX b == 58)=(b == 58):=fy (Q:=fun b=>(eX b == 58)=(b == 58)) fk b
theorem abb (b:UInt8):((58:UInt8) == eX b)=((58:UInt8) == b):=fy (Q:=fun b=>((58:UInt8) == eX b)=((58:UInt8) == b)) fk b
theorem abc (b:UInt8):mD ((eX b).toNat:Int)=mD (b.toNat:Int):=fy (Q:=fun b=>mD ((eX b).toNat:Int)=mD (b.toNat:Int)) fk b
theorem vI {c:UInt8} (hc:∀ b,(eX b == c)=(b == c)):∀ l:List UInt8,pieces c (l.map eX)=(pieces c l).map (fun p=>p.map eX)
 | []=>rfl
 |b :: l=>by
  have ih:=vI hc l
  rw [List.map_cons]
  unfold pieces
  rw [hc b,ih]
  by_cases hb:(b == c)=true
  ·rw [if_pos hb,if_pos hb]
   rfl
  ·rw [if_neg hb,if_neg hb]
   cases pieces c l with
   |nil=>rfl
   |cons p ps=>rfl
theorem xA (l:List UInt8):bytesOf (au l)=l.map fun b=>(b.toNat:Int):=rfl
theorem MP (base most:Int):∀ (l:List UInt8) (n:Int),pO base most ((l.map eX).map fun b=>(b.toNat:Int)) n=pO base most (l.map fun b=>(b.toNat:Int)) n
 | [],_ =>rfl
 |b :: l,n=>by
  rw [List.map_cons,List.map_cons,List.map_cons]
  unfold pO
  rw [abc,MP base most l]
theorem XV (base most:Int) (l:List UInt8):pu base most (au (l.map eX))=pu base most (au l):=by
 unfold pu
 rw [bN,bN,List.length_map,xA,xA,MP]
theorem MQ (l:List UInt8):nO (l.map eX)=nO l:=by
 unfold nO
 rw [List.length_map,vI aeY,List.any_map,List.length_map]
 have e:((fun p=>iw (au p)) ∘fun p=>List.map eX p)=fun p=>iw (au p):=by
  funext p
  show iw (au (p.map eX))=iw (au p)
  unfold iw
  rw [XV,bN,bN,List.length_map]
 rw [e]
theorem Ij:∀ l:List UInt8,Lib.index (l.map eX) [58,58]=Lib.index l [58,58]
 | []=>rfl
 |b :: l=>by
  rw [List.map_cons]
  unfold Lib.index
  rw [Ij l]
  have e:List.isPrefixOf [58,58] (eX b :: l.map eX)=List.isPrefixOf [58,58] (b :: l):=by
   cases l with
   |nil=>simp [List.isPrefixOf]
   |cons c l=>simp only [List.map_cons,List.isPrefixOf,abb]
  rw [e]
theorem abd (l:List UInt8):Lib.cut (l.map eX) [58,58]=((Lib.cut l [58,58]).1.map eX,(Lib.cut l [58,58]).2.1.map eX,(Lib.cut l [58,58]).2.2):=by
 unfold Lib.cut
 rw [Ij]
 split
 ·rw [List.map_take,List.map_drop]
 ·rfl
theorem XW (l:List UInt8):DI (l.map eX)=DI l:=by
 unfold DI
 rw [abd,MQ,MQ]
theorem Uc (l:List UInt8):vY (l.map eX)=vY l:=by
 unfold vY
 rw [vI Pm,List.length_map,List.any_map]
 have e:(lO ∘fun p=>List.map eX p)=lO:=by
  funext p
  show lO (p.map eX)=lO p
  unfold lO
  rw [XV,List.length_map]
 rw [e]
theorem XX (l:List UInt8):tE (l.map eX)=tE l:=by
 have h:qu (l.map eX)=qu l:=by
  unfold qu
  rw [List.length_map,← List.map_take,tT]
 unfold tE
 rw [h,← List.map_drop,XW,Uc]
theorem oO (c:UInt8):∀ (l:List UInt8) (b:UInt8),b∈l→b=c∨∃ p,p∈pieces c l∧b∈p
 | [],_,h=>by cases h
 |d :: l,b,h=>by
  unfold pieces
  by_cases hd:(d == c)=true
  ·rw [if_pos hd]
   rcases List.mem_cons.mp h with rfl|h
   ·exact .inl (by simpa using hd)
   ·rcases oO c l b h with h1|⟨p,hp,hb⟩
    ·exact .inl h1
    ·exact .inr ⟨p,List.mem_cons_of_mem _ hp,hb⟩
  ·rw [if_neg hd]
   have ih:=oO c l b
   cases hq:pieces c l with
   |nil=>exact absurd hq (uy c l)
   |cons p ps=>
    rw [hq] at ih
    rcases List.mem_cons.mp h with rfl|h
    ·exact .inr ⟨_,List.mem_cons_self ..,List.mem_cons_self ..⟩
    ·rcases ih h with h1|⟨p',hp,hb⟩
     ·exact .inl h1
     ·rcases List.mem_cons.mp hp with rfl|hp
      ·exact .inr ⟨_,List.mem_cons_self ..,List.mem_cons_of_mem _ hb⟩
      ·exact .inr ⟨p',List.mem_cons_of_mem _ hp,hb⟩
theorem zQ (c:UInt8):∀ l:List UInt8,((pieces c l).map fun p=>p.length + 1).sum=l.length + 1
 | []=>rfl
 |d :: l=>by
  have ih:=zQ c l
  unfold pieces
  by_cases hd:(d == c)=true
  ·rw [if_pos hd,List.map_cons,List.sum_cons,ih,List.length_cons,List.length_nil]
   omega
  ·rw [if_neg hd]
   cases hq:pieces c l with
   |nil=>exact absurd hq (uy c l)
   |cons p ps=>
    rw [hq,List.map_cons,List.sum_cons] at ih
    simp only [List.map_cons,List.sum_cons,List.length_cons]
    omega
theorem XY (m:Nat):∀ L:List (List UInt8),(∀ p,p∈L→p.length≤m)→(L.map fun p=>p.length + 1).sum≤L.length * (m + 1)
 | [],_ =>Nat.zero_le _
 |p :: L,h=>by
  have ih:=XY m L (fun q hq=>h q (List.mem_cons_of_mem _ hq))
  have h1:=h p (List.mem_cons_self ..)
  rw [List.map_cons,List.sum_cons,List.length_cons,Nat.add_mul]
  omega
theorem Bv (c:UInt8) (m:Nat) (l:List UInt8) (h:∀ p,p∈pieces c l→p.length≤m):l.length + 1≤(pieces c l).length * (m + 1):=by
 rw [← zQ c l]
 exact XY m _ h
theorem MR (base most:Int):∀ (l:List Int) (n r:Int),pO base most l n=some r→∀ c,c∈l→mD c < base
 | [],_,_,_ =>fun c h=>by cases h
 |d :: l,n,r,h=>by
  intro c hc
  unfold pO at h
  split at h
  ·cases h
  ·rename_i h1
   split at h
   ·cases h
   ·rcases List.mem_cons.mp hc with rfl|hc
    ·omega
    ·exact MR base most l _ r h c hc
theorem Cs (base most:Int) (l:List UInt8) (h:(pu base most (au l)).isNone=false) (b:UInt8) (hb:b∈l):mD (b.toNat:Int) < base:=by
 unfold pu at h
 split at h
 ·cases h
 ·cases hr:pO base most (bytesOf (au l)) 0 with
  |none=>rw [hr] at h;cases h
  |some r=>exact MR base most _ 0 r hr _ (List.mem_map_of_mem hb)
theorem MS (b:UInt8):mD (b.toNat:Int) < 16→jt b=true:=fy (Q:=fun b=>mD (b.toNat:Int) < 16→jt b=true) fk b
theorem Gn (l:List UInt8) (h: 0≤nO l):(∀ b,b∈l→jt b=true)∧(l.length:Int)≤5 * nO l:=by
 unfold nO at h ⊢
 by_cases h0:l.length=0
 ·rw [if_pos h0]
  have:l= []:=List.eq_nil_of_length_eq_zero h0
  subst this
  exact ⟨fun b hb=>(by cases hb),bw⟩
 ·rw [if_neg h0] at h ⊢
  by_cases ha:((pieces 58 l).any fun p=>iw (au p))=true
  ·rw [if_pos ha] at h
   omega
  ·rw [if_neg ha]
   have hg:∀ p,p∈pieces 58 l→iw (au p)=false:=fun p hp=>by
    cases hb:iw (au p) with
    |false=>rfl
    |true=>exact absurd (List.any_eq_true.mpr ⟨p,hp,hb⟩) ha
   refine ⟨fun b hb=>?_,?_⟩
   ·rcases oO 58 l b hb with rfl|⟨p,hp,hb⟩
    ·decide
    ·have h1:=hg p hp
     unfold iw at h1
     rw [Bool.or_eq_false_iff] at h1
     exact MS b (Cs 16 65535 p h1.1 b hb)
   ·have h2:=Bv 58 4 l (fun p hp=>by
     have h1:=hg p hp
     unfold iw at h1
     rw [Bool.or_eq_false_iff,bN] at h1
     have:=of_decide_eq_false h1.2
     omega)
    omega
theorem xB:∀ l:List UInt8,0≤Lib.index l [58,58]→l=l.take (Lib.index l [58,58]).toNat ++ 58 :: 58 :: l.drop ((Lib.index l [58,58]).toNat + 2)
 | [],h=>by simp [Lib.index] at h
 |b :: l,h=>by
  unfold Lib.index at h ⊢
  by_cases hp:List.isPrefixOf [58,58] (b :: l)=true
  ·rw [if_pos hp]
   cases l with
   |nil=>simp [List.isPrefixOf] at hp
   |cons c l=>
    simp [List.isPrefixOf] at hp
    obtain ⟨rfl,rfl⟩:=hp
    rfl
  ·rw [if_neg hp] at h ⊢
   by_cases h1:(Lib.index l [58,58] == -1)=true
   ·rw [if_pos h1] at h
    omega
   ·rw [if_neg h1] at h ⊢
    have h2: 0≤Lib.index l [58,58]:=by
     have: ¬ Lib.index l [58,58]= -1:=by simpa using h1
     omega
    have ih:=xB l h2
    obtain ⟨n,hn⟩:∃ n:Nat,Lib.index l [58,58]=n:=⟨_,(Int.toNat_of_nonneg h2).symm⟩
    rw [hn] at ih ⊢
    rw [show ((n:Int) + 1).toNat=n + 1 from by omega]
    rw [Int.toNat_natCast] at ih
    rw [List.take_succ_cons,List.cons_append,show n + 1 + 2=(n + 2) + 1 from by omega,List.drop_succ_cons,← ih]
theorem XZ (l:List UInt8) (h:DI l=true):(∀ b,b∈l→jt b=true)∧l.length≤100:=by
 unfold DI at h
 unfold Lib.cut at h
 by_cases hi: 0≤Lib.index l [58,58]
 ·simp only [if_pos hi,if_true,Bool.and_eq_true,decide_eq_true_eq] at h
  obtain ⟨h1,h2,h3⟩:=h
  obtain ⟨w1,n1⟩:=Gn _ h1
  obtain ⟨w2,n2⟩:=Gn _ h2
  have e:=xB l hi
  have e2:(Lib.index l [58,58]).toNat + [58,58].length=(Lib.index l [58,58]).toNat + 2:=rfl
  rw [show ([58,58]:List UInt8).length=2 from rfl] at w2 n2 h3
  refine ⟨fun b hb=>?_,?_⟩
  ·rw [e] at hb
   rcases List.mem_append.mp hb with hb|hb
   ·exact w1 b hb
   ·rcases List.mem_cons.mp hb with rfl|hb
    ·decide
    ·rcases List.mem_cons.mp hb with rfl|hb
     ·decide
     ·exact w2 b hb
  ·rw [e,List.length_append,List.length_cons,List.length_cons]
   omega
 ·simp only [if_neg hi,Bool.false_eq_true,if_false,beq_iff_eq] at h
  obtain ⟨w1,n1⟩:=Gn l ak
  exact ⟨w1,ak⟩
theorem Ud (l:List UInt8) (h:vY l=true):(∀ b,b∈l→jt b=true)∧l.length≤100:=by
 unfold vY at h
 simp only [Bool.and_eq_true,decide_eq_true_eq,Bool.not_eq_true'] at h
 obtain ⟨h1,h2⟩:=h
 have hg:∀ p,p∈pieces 46 l→lO p=false:=fun p hp=>by
  cases hb:lO p with
  |false=>rfl
  |true=>rw [List.any_eq_true.mpr ⟨p,hp,hb⟩] at h2;cases h2
 refine ⟨fun b hb=>?_,?_⟩
 ·rcases oO 46 l b hb with rfl|⟨p,hp,hb⟩
  ·decide
  ·have h3:=hg p hp
   unfold lO at h3
   rw [Bool.or_eq_false_iff] at h3
   have:=Cs 10 255 p h3.1 b hb
   exact MS b ak
 ·have h4:=Bv 46 3 l (fun p hp=>by
   have h3:=hg p hp
   unfold lO at h3
   rw [Bool.or_eq_false_iff] at h3
   have:=of_decide_eq_false h3.2
   omega)
  rw [h1] at h4
  omega
theorem X0 (b:UInt8):eX b∈([105,112,118,54,58]:List UInt8)→jt b=true:=fy (Q:=fun b=>eX b∈([105,112,118,54,58]:List UInt8)→jt b=true) fk b
theorem Gp (l:List UInt8) (h:tE l=true):(∀ b,b∈l→jt b=true)∧l.length≤255:=by
 unfold tE at h
 by_cases hs:qu l=true
 ·rw [if_pos hs] at h
  obtain ⟨w,n⟩:=XZ _ h
  unfold qu at hs
  simp only [Bool.and_eq_true,beq_iff_eq] at hs
  refine ⟨fun b hb=>?_,by rw [List.length_drop] at n;omega⟩
  have e:l=l.take 5 ++ l.drop 5:=(List.take_append_drop 5 l).symm
  rw [e] at hb
  rcases List.mem_append.mp hb with hb|hb
  ·exact X0 b (by rw [← hs.2];exact List.mem_map_of_mem hb)
  ·exact w b hb
 ·rw [if_neg hs] at h
  obtain ⟨w,n⟩:=Ud _ h
  exact ⟨w,ak⟩
theorem Ue (b:UInt8):jt (eX b)=jt b:=fy (Q:=fun b=>jt (eX b)=jt b) fk b
end Go.Proofs.YtokpnfljjjjikaaGreatDoor.jI
namespace Go.Proofs.YtokpnfljjjjikaaGreatDoor.jI
open Go.RowKit Go.Proofs.YtokpnfljjjjikaaGreatDoor Go.Proofs.YtokpnfljjjjikaaGreatDoor.mY Go.Proofs.aj.bO Go.Proofs.aj.cK
set_option linter.unusedVariables false
set_option linter.unusedSimpArgs false
theorem Ct (a b:List UInt8):qL (a ++ b)=qL a ++ qL b:=List.flatMap_append
theorem X3 (b:UInt8):(qL [b]).length≤2:=by
 show (qB b ++ []).length≤2
 unfold qB
 split<;>simp
theorem abe (b:UInt8) (h1: ¬ b=34) (h2: ¬ b=92):(qL [b]).length=1:=by
 show (qB b ++ []).length=1
 unfold qB
 rw [if_neg (fun h=>h.elim h1 h2)]
 rfl
theorem ac3:∀ l:List UInt8,l.length≤(qL l).length
 | []=>Nat.le_refl _
 |b :: l=>by
  have ih:=ac3 l
  have e:qL (b :: l)=qB b ++ qL l:=rfl
  rw [e,List.length_append]
  unfold qB
  split<;>simp<;>omega
theorem vJ:∀ (n:Nat) (l acc:List UInt8),l.length < n→(gD l acc).1=true→∃ x,(gD l acc).2.1=acc ++ x∧(qL x).length + 1≤(gD l acc).2.2
 | 0,_,_,h,_ =>absurd h (Nat.not_lt_zero _)
 |n + 1,l,acc,h,ho=>by
  cases l with
  |nil=>unfold gD at ho;cases ho
  |cons b l=>
   unfold gD at ho ⊢
   by_cases hq:b=34
   ·rw [if_pos hq] at ho ⊢
    exact ⟨[],bw,by simp [qL]⟩
   ·rw [if_neg hq] at ho ⊢
    by_cases hb:b=92
    ·rw [if_pos hb] at ho ⊢
     cases l with
     |nil=>cases ho
     |cons c l'=>
      by_cases hc:c < 32∨126 < c
      ·simp only [if_pos hc] at ho
       cases ho
      ·simp only [if_neg hc] at ho ⊢
       obtain ⟨x,h1,h2⟩:=vJ n l' (acc ++ [c]) xS ho
       refine ⟨c :: x,by rw [h1];simp,?_⟩
       have e:qL (c :: x)=qL [c] ++ qL x:=Ct [c] x
       rw [e,List.length_append]
       have:=X3 c
       omega
    ·rw [if_neg hb] at ho ⊢
     by_cases hc:b < 32∨126 < b
     ·rw [if_pos hc] at ho
      cases ho
     ·rw [if_neg hc] at ho ⊢
      obtain ⟨x,h1,h2⟩:=vJ n l (acc ++ [b]) xS ho
      refine ⟨b :: x,by rw [h1];simp,?_⟩
      have e:qL (b :: x)=qL [b] ++ qL x:=Ct [b] x
      rw [e,List.length_append,abe b hq hb]
      show _≤_ + 1
      omega
theorem G9 (l:List UInt8) (h:(dn l).1=true):(oN (uu l)).length≤(dn l).2.2:=by
 unfold dn at h ⊢
 unfold uu
 by_cases hq:bX 34 l=true
 ·rw [if_pos hq] at h ⊢
  rw [if_pos hq]
  obtain ⟨x,h1,h2⟩:=vJ _ (l.drop 1) [] (Nat.lt_succ_self _) h
  rw [List.nil_append] at h1
  rw [h1]
  have h3:=ac3 x
  unfold oN
  split
  ·show x.length≤1 + _
   omega
  ·show (34 :: (qL x ++ [34])).length≤1 + _
   rw [List.length_cons,List.length_append,List.length_cons,List.length_nil]
   omega
 ·rw [if_neg hq] at h ⊢
  rw [if_neg hq]
  have h1:=Gg l h
  have hle:(eJ gJ 46 l).2≤l.length:=sZ gJ 46 xk _ l (Nat.lt_succ_self _)
  have hp:xy (l.take (eJ gJ 46 l).2)=true:=by
   unfold xy
   rw [h1,List.length_take,Nat.min_eq_left hle]
   simp
  unfold oN
  rw [if_pos hp,List.length_take]
  exact Nat.min_le_left _ _
theorem X4 (l:List UInt8) (hl:l.length < 4294967281) (h:(jV l).1=true):∃ (lo dom:List UInt8) (lit:Bool),vX lo dom lit∧(jV l).2.1=au lo∧(jV l).2.2.1=au dom∧(jV l).2.2.2.1=lit∧(gL lo dom lit).length≤(jV l).2.2.2.2∧dom≠ []∧(lit=true→dom.length≤255):=by
 have hlo:(dn l).1=true:=by
  unfold jV at h
  by_cases h1:(dn l).1=true
  ·exact h1
  ·rw [if_neg h1] at h
   cases h
 have hs:=G9 l hlo
 unfold jV at h ⊢
 rw [if_pos hlo] at h ⊢
 by_cases h2:bX 64 (l.drop (dn l).2.2)=true
 ·rw [if_pos h2] at h ⊢
  by_cases h3:bX 91 (l.drop ((dn l).2.2 + 1))=true
  ·rw [if_pos h3] at h ⊢
   generalize hw:(l.drop ((dn l).2.2 + 2)).takeWhile jt=w at h ⊢
   have hwl:w.length≤l.length:=by
    rw [← hw]
    refine Nat.le_trans (mW _ _) ?_
    rw [List.length_drop];omega
   by_cases h4:bX 93 (l.drop ((dn l).2.2 + 2 + w.length))=true
   ·rw [if_pos h4] at h ⊢
    simp only at h
    rw [yP w ak] at h
    have hg:=Gp _ h
    refine ⟨uu l,w.map eX,true,⟨C9 l,fun e=>(by cases e),fun _ =>⟨?_,?_,tT w⟩⟩,rA l,lN w,rfl,?_,?_,fun _ =>by rw [List.length_map];exact hg.2⟩
    ·rw [yP _ jX,XX]
     exact h
    ·intro b hb
     obtain ⟨c,hc,rfl⟩:=List.mem_map.mp hb
     rw [Ue]
     exact hg.1 c hc
    ·unfold gL
     rw [if_pos rfl,List.length_append]
     simp
     omega
    ·intro e
     have e2:w= []:=List.map_eq_nil_iff.mp e
     rw [e2] at h
     exact absurd h fk
   ·rw [if_neg h4] at h
    cases h
  ·rw [if_neg h3] at h ⊢
   have hd:=S5 _ h
   refine ⟨uu l,td (l.drop ((dn l).2.2 + 1)),false,⟨C9 l,fun _ =>hd,fun e=>(by cases e)⟩,rA l,qq _,rfl,?_,?_,fun e=>(by cases e)⟩
   ·unfold gL
    rw [if_neg bh,List.length_append,List.length_cons,xx]
    show _≤(dn l).2.2 + 1 + _
    omega
   ·obtain ⟨b,d',e,_⟩:=hd.head
    rw [e]
    simp
 ·rw [if_neg h2] at h
  cases h
theorem MT:∀ (n:Nat) (l:List UInt8),l.length < n→(fW l).1=true→∃ ds:List (List UInt8),ds≠ []∧(∀ d,d∈ds→mK d)∧(fW l).2.1=ds.map au∧(dG ds).length≤(fW l).2.2
 | 0,_,h,_ =>absurd h (Nat.not_lt_zero _)
 |n + 1,l,h,ho=>by
  rw [nW] at ho ⊢
  by_cases h1:(iY l).1=true
  ·rw [if_pos h1] at ho ⊢
   have h64:bX 64 l=true:=by
    unfold iY at h1
    by_cases h64:bX 64 l=true
    ·exact h64
    ·rw [if_neg h64] at h1
     cases h1
   have e:iY l=((mG (l.drop 1)).1,(mG (l.drop 1)).2.1,1 + (mG (l.drop 1)).2.2):=by
    unfold iY
    rw [if_pos h64]
   have hd1:(mG (l.drop 1)).1=true:=by rw [e] at h1;exact h1
   have hd:=S5 _ hd1
   by_cases h2:bX 44 (l.drop (iY l).2.2)=true
   ·have h3:=fR h2
    rw [if_pos h2] at ho ⊢
    obtain ⟨ds,h4,h5,h6,h7⟩:=MT n (l.drop ((iY l).2.2 + 1)) kR ho
    refine ⟨td (l.drop 1) :: ds,bw,fun d hd'=>?_,?_,?_⟩
    ·rcases List.mem_cons.mp hd' with rfl|hd'
     ·exact hd
     ·exact h5 d hd'
    ·show (iY l).2.1 :: _=_
     rw [h6,e,List.map_cons]
     show (mG (l.drop 1)).2.1 :: _=_
     rw [qq]
    ·obtain ⟨d2,ds',rfl⟩:∃ d2 ds',ds=d2 :: ds':=by
      cases ds with
      |nil=>exact absurd rfl h4
      |cons d2 ds'=>exact ⟨d2,ds',rfl⟩
     show (64 :: (td (l.drop 1) ++ 44 :: dG (d2 :: ds'))).length≤(iY l).2.2 + 1 + _
     rw [List.length_cons,List.length_append,List.length_cons,xx,e]
     simp only
     rw [e] at h7
     simp only at h7
     omega
   ·rw [if_neg h2] at ho ⊢
    refine ⟨[td (l.drop 1)],bw,fun d hd'=>?_,?_,?_⟩
    ·rw [List.mem_singleton.mp hd']
     exact hd
    ·rw [e]
     show [(mG (l.drop 1)).2.1]= [au _]
     rw [qq]
    ·show (64 :: td (l.drop 1)).length≤_
     rw [List.length_cons,xx,e]
     simp only
     omega
  ·rw [if_neg h1] at ho
   cases ho
theorem X5 (l:List UInt8) (hl:l.length < 4294967281) (h0:gu l=false) (h:(eK l).1=true):∃ (ds:List (List UInt8)) (lo dom:List UInt8) (lit:Bool),(∀ d,d∈ds→mK d)∧vX lo dom lit∧eK l=(true,ds.map au,au lo,au dom,lit,(eK l).2.2.2.2.2)∧(gv ds lo dom lit).length≤(eK l).2.2.2.2.2∧dom≠ []∧(lit=true→dom.length≤255):=by
 unfold eK at h ⊢
 rw [if_neg (by rw [h0];decide)] at h ⊢
 by_cases h1:bX 64 l=true
 ·rw [if_pos h1] at h ⊢
  by_cases h2:(fW l).1=true
  ·rw [if_pos h2] at h ⊢
   obtain ⟨ds,r1,r2,r3,r4⟩:=MT _ l (Nat.lt_succ_self _) h2
   by_cases h3:bX 58 (l.drop (fW l).2.2)=true
   ·rw [if_pos h3] at h ⊢
    obtain ⟨lo,dom,lit,b1,b2,b3,b4,b5,b6,b7⟩:=X4 (l.drop ((fW l).2.2 + 1)) kR h
    refine ⟨ds,lo,dom,lit,r2,b1,?_,?_,b6,b7⟩
    ·rw [r3,b2,b3,b4]
     rw [show (jV (l.drop ((fW l).2.2 + 1))).1=true from h]
    ·cases ds with
     |nil=>exact absurd rfl r1
     |cons d ds=>
      show (dG (d :: ds) ++ 58 :: gL lo dom lit).length≤(fW l).2.2 + 1 + _
      rw [List.length_append,List.length_cons]
      omega
   ·rw [if_neg h3] at h
    cases h
  ·rw [if_neg h2] at h
   cases h
 ·rw [if_neg h1] at h ⊢
  obtain ⟨lo,dom,lit,b1,b2,b3,b4,b5,b6,b7⟩:=X4 l hl h
  refine ⟨[],lo,dom,lit,fun d hd=>(by cases hd),b1,?_,b5,b6,b7⟩
  rw [b2,b3,b4]
  rw [show (jV l).1=true from h]
  rfl
end Go.Proofs.YtokpnfljjjjikaaGreatDoor.jI
namespace Go.Proofs.YtokpnfljjjjikaaGreatDoor.jI
open Go.RowKit Go.Proofs.YtokpnfljjjjikaaGreatDoor Go.Proofs.YtokpnfljjjjikaaGreatDoor.mY Go.Proofs.aj.bO Go.Proofs.aj.cK
set_option linter.unusedVariables false
set_option linter.unusedSimpArgs false
theorem uG (c:UInt8):∀ l:List UInt8,c ∉ l∨∃ w r,l=w ++ c :: r∧c ∉ w
 | []=> .inl bw
 |b :: l=>by
  by_cases h:b=c
  ·exact .inr ⟨[],l,by rw [h];rfl,bw⟩
  ·rcases uG c l with h2|⟨w,r,rfl,h2⟩
   ·refine .inl fun hm=>?_
    rcases List.mem_cons.mp hm with e|e
    ·exact h e.symm
    ·exact h2 e
   ·refine .inr ⟨b :: w,r,rfl,fun hm=>?_⟩
    rcases List.mem_cons.mp hm with e|e
    ·exact h e.symm
    ·exact h2 e
theorem K4 (c:UInt8):∀ l:List UInt8,c ∉ l∨∃ w r,l=w ++ c :: r∧c ∉ r
 | []=> .inl bw
 |b :: l=>by
  rcases K4 c l with h2|⟨w,r,rfl,h2⟩
  ·by_cases h:b=c
   ·exact .inr ⟨[],l,by rw [h];rfl,h2⟩
   ·refine .inl fun hm=>?_
    rcases List.mem_cons.mp hm with e|e
    ·exact h e.symm
    ·exact h2 e
  ·exact .inr ⟨b :: w,r,rfl,h2⟩
theorem pI (c:UInt8):∀ w:List UInt8,c ∉ w→pieces c w= [w]
 | [],_ =>rfl
 |b :: w,h=>by
  have hb:(b == c)=false:=beq_eq_false_iff_ne.mpr fun e=>h (e ▸ List.mem_cons_self ..)
  unfold pieces
  rw [hb,pI c w (fun hm=>h (List.mem_cons_of_mem _ hm))]
  rfl
theorem qw (c:UInt8) (r:List UInt8):∀ w:List UInt8,c ∉ w→pieces c (w ++ c :: r)=w :: pieces c r
 | [],_ =>by
   show pieces c (c :: r)=_
   rw [pieces]
   simp
 |b :: w,h=>by
  have hb:(b == c)=false:=beq_eq_false_iff_ne.mpr fun e=>h (e ▸ List.mem_cons_self ..)
  have e:pieces c (b :: (w ++ c :: r))=if (b == c)=true then [] :: pieces c (w ++ c :: r) else match pieces c (w ++ c :: r) with| []=>[[b]]|p :: ps=>(b :: p) :: ps:=rfl
  rw [List.cons_append,e,hb,qw c r w (fun hm=>h (List.mem_cons_of_mem _ hm))]
  rfl
def zk:List UInt8→Bool
 | []=>false
 |c :: t=>c != 45 && (c :: t).getD t.length 0 != 45 && (c :: t).all iI
def kC (l:List UInt8):Bool:=(pieces 46 l).all zk
theorem X6:iI 46=false:=by decide +kernel
theorem Pr {P:UInt8→Bool} {l:List UInt8} {b:UInt8} (h:b∈l.takeWhile P):P b=true:=by
 induction l with
 |nil=>cases h
 |cons c l ih=>
  by_cases hc:P c=true
  ·rw [List.takeWhile_cons_of_pos hc] at h
   rcases List.mem_cons.mp h with rfl|h
   ·exact hc
   ·exact ih h
  ·rw [List.takeWhile_cons_of_neg hc] at h
   cases h
theorem K5 {P:UInt8→Bool}:∀ l:List UInt8,(∀ b,b∈l→P b=true)→l.takeWhile P=l
 | [],_ =>rfl
 |b :: l,h=>by
  rw [List.takeWhile_cons_of_pos (h b (List.mem_cons_self ..)),K5 l (fun c hc=>h c (List.mem_cons_of_mem _ hc))]
theorem Cu {p:List UInt8} (h:zk p=true):∀ b,b∈p→iI b=true:=by
 cases p with
 |nil=>cases h
 |cons c t=>
  unfold zk at h
  simp only [Bool.and_eq_true,List.all_eq_true] at h
  exact h.2
theorem Ik {p t:List UInt8} (hp:∀ b,b∈p→iI b=true) (ht:mJ iI t):dS (p ++ t)=(zk p,p.length):=by
 rw [C7 ht]
 unfold dS
 rw [K5 p hp]
 cases p with
 |nil=>rfl
 |cons c s=>
  have e:(c :: s).all iI=true:=List.all_eq_true.mpr hp
  show (c != 45 && (c :: s).getD s.length 0 != 45,(c :: s).length)=(c != 45 && (c :: s).getD s.length 0 != 45 && (c :: s).all iI,(c :: s).length)
  rw [e,Bool.and_true]
theorem Uf (l:List UInt8):(dS l).1=zk (l.takeWhile iI):=by
 unfold dS
 show (match l.takeWhile iI with| []=>false|c :: t=>c != 45 && (c :: t).getD t.length 0 != 45)=_
 have h:∀ b,b∈l.takeWhile iI→iI b=true:=fun b hb=>Pr hb
 generalize l.takeWhile iI=w at h ⊢
 cases w with
 |nil=>rfl
 |cons c t=>
  have e:(c :: t).all iI=true:=List.all_eq_true.mpr h
  show _=(c != 45 && (c :: t).getD t.length 0 != 45 && (c :: t).all iI)
  rw [e,Bool.and_true]
theorem aeZ (r:List UInt8):mJ iI (46 :: r):=by
 intro b t' e
 rw [← (List.cons.inj e).1]
 exact X6
theorem S7 (P:UInt8→Bool):mJ P []:=by
 intro b t' e
 cases e
theorem MU:∀ (n:Nat) (l:List UInt8),l.length < n→eJ dS 46 l=(true,l.length)→kC l=true
 | 0,_,h,_ =>absurd h (Nat.not_lt_zero _)
 |n + 1,l,hn,h=>by
  obtain ⟨w,hw⟩:∃ w,l.takeWhile iI=w:=⟨_,rfl⟩
  have hl:l=w ++ l.drop w.length:=by
   have e1:=kN iI l
   rw [hw] at e1
   have e2:=List.take_append_drop w.length l
   rw [e1] at e2
   exact e2.symm
  have h46:(46:UInt8) ∉ w:=by
   intro hm
   rw [← hw] at hm
   have:=Pr hm
   rw [X6] at this
   cases this
  have h1:=Uf l
  have h2:(dS l).2=w.length:=by rw [← hw];rfl
  rw [hw] at h1
  rw [jN,h1,h2] at h
  by_cases hp:zk w=true
  case neg=>rw [if_neg hp] at h;cases h
  rw [if_pos hp] at h
  by_cases hx:bX 46 (l.drop w.length)=true
  ·rw [if_pos hx] at h
   obtain ⟨r,hr⟩:∃ r,l.drop w.length=46 :: r:=by
    cases hd:l.drop w.length with
    |nil=>rw [hd] at hx;cases hx
    |cons b r=>
     rw [hd] at hx
     exact ⟨r,by rw [beq_iff_eq.mp (show (b == 46)=true from hx)]⟩
   rw [hr] at hl
   have hr2:l.drop (w.length + 1)=r:=by
    rw [← List.drop_drop,hr]
    rfl
   rw [hr2] at h
   have hlen:=congrArg List.length hl
   rw [List.length_append,List.length_cons] at hlen
   have e3:eJ dS 46 r=(true,r.length):=by
    have e4:=(Prod.mk.inj h).1
    have e5:=(Prod.mk.inj h).2
    exact Prod.ext e4 (by show _=r.length;omega)
   have ih:=MU n r ak e3
   unfold kC at ih ⊢
   rw [hl,qw 46 r w h46,List.all_cons,hp,ih]
   rfl
  ·rw [if_neg hx] at h
   have e5:w.length=l.length:=(Prod.mk.inj h).2
   have hlw:l=w:=by
    rw [e5,List.drop_length,List.append_nil] at hl
    exact hl
   unfold kC
   rw [hlw,pI 46 w h46,List.all_cons,hp]
   rfl
theorem MV:∀ (n:Nat) (l:List UInt8),l.length < n→kC l=true→eJ dS 46 l=(true,l.length)
 | 0,_,h,_ =>absurd h (Nat.not_lt_zero _)
 |n + 1,l,hn,h=>by
  unfold kC at h
  rcases uG 46 l with h46|⟨w,r,rfl,h46⟩
  ·rw [pI 46 l h46,List.all_cons,List.all_nil,Bool.and_true] at h
   have e:=Ik (Cu h) (S7 iI)
   rw [List.append_nil] at e
   rw [jN,e]
   simp only
   rw [if_pos h,List.drop_length]
   rfl
  ·rw [qw 46 r w h46,List.all_cons,Bool.and_eq_true] at h
   have e:=Ik (Cu h.1) (aeZ r)
   have ih:=MV n r (by rw [List.length_append,List.length_cons] at hn;omega) (by unfold kC;exact h.2)
   rw [jN,e]
   simp only
   have ed:(w ++ 46 :: r).drop w.length=46 :: r:=List.drop_left
   have ed2:(w ++ 46 :: r).drop (w.length + 1)=r:=by rw [← List.drop_drop,ed];rfl
   rw [if_pos h.1,ed,if_pos (show bX 46 (46 :: r)=true from rfl),ed2,ih]
   simp only
   congr 1
   rw [List.length_append,List.length_cons]
   omega
theorem uH (l:List UInt8):eJ dS 46 l=(true,l.length)↔kC l=true:=⟨MU _ l (Nat.lt_succ_self _),MV _ l (Nat.lt_succ_self _)⟩
theorem vK {l:List UInt8} (h:kC l=true) (c:UInt8) (h1:iI c=false) (h2:c≠46):c ∉ l:=by
 intro hm
 rcases oO 46 l c hm with e|⟨p,hp,hc⟩
 ·exact h2 e
 ·unfold kC at h
  have:=Cu (List.all_eq_true.mp h p hp) c hc
  rw [h1] at this
  cases this
theorem abf {l:List UInt8} (h:kC l=true):l≠ []:=by
 rintro rfl
 exact absurd h bh
theorem Il {b:UInt8} {l:List UInt8} (h:kC (b :: l)=true):iI b=true:=by
 cases hb:iI b with
 |true=>rfl
 |false=>
  by_cases e:b=46
  ·subst e
   unfold kC at h
   rw [show (46:UInt8) :: l= [] ++ 46 :: l from rfl,qw 46 l [] bw,List.all_cons] at h
   cases h
  ·exact absurd (List.mem_cons_self ..) (vK h b hb e)
def lu:Bool→List UInt8→Bool
 |dot,[]=>!dot
 |dot,b :: l=>if b=46 then (if dot=true then false else lu true l) else if gV b=true then lu false l else false
theorem S8:gV 46=false:=by decide +kernel
theorem Gq:∀ (w t:List UInt8) (d:Bool),(∀ b,b∈w→gV b=true)→w≠ []→lu d (w ++ t)=lu false t
 | [],_,_,_,h=>absurd rfl h
 | [b],t,d,h,_ =>by
   have hb:=h b (List.mem_cons_self ..)
   have h46:b≠46:=by
    rintro rfl
    rw [S8] at hb
    cases hb
   show lu d (b :: t)=_
   rw [lu,if_neg h46,if_pos hb]
 |b :: c :: w,t,d,h,_ =>by
  have hb:=h b (List.mem_cons_self ..)
  have h46:b≠46:=by
   rintro rfl
   rw [S8] at hb
   cases hb
  show lu d (b :: ((c :: w) ++ t))=_
  rw [lu,if_neg h46,if_pos hb]
  exact Gq (c :: w) t false (fun x hx=>h x (List.mem_cons_of_mem _ hx)) bw
theorem Bw:∀ (n:Nat) (l:List UInt8),l.length < n→lu true l=decide (eJ gJ 46 l=(true,l.length))
 | 0,_,h=>absurd h (Nat.not_lt_zero _)
 |n + 1,l,hn=>by
  obtain ⟨w,hw⟩:∃ w,l.takeWhile gV=w:=⟨_,rfl⟩
  have hl:l=w ++ l.drop w.length:=by
   have e1:=kN gV l
   rw [hw] at e1
   have e2:=List.take_append_drop w.length l
   rw [e1] at e2
   exact e2.symm
  have hall:∀ b,b∈w→gV b=true:=fun b hb=>by rw [← hw] at hb;exact Pr hb
  have hstop:=EF gV l
  rw [hw] at hstop
  have hat:gJ l=(decide (0 < w.length),w.length):=by unfold gJ;rw [hw]
  rw [jN,hat]
  simp only
  by_cases h0:w= []
  ·subst h0
   rw [if_neg bw]
   rw [List.nil_append,List.length_nil,List.drop_zero] at hl
   rw [decide_eq_false (fun e=>by cases (Prod.mk.inj e).1)]
   cases l with
   |nil=>rfl
   |cons b l=>
    rw [lu]
    by_cases h46:b=46
    ·rw [if_pos h46,if_pos rfl]
    ·rw [if_neg h46,if_neg]
     have:=hstop b l (by rw [List.length_nil,List.drop_zero])
     rw [this]
     decide
  ·have hpos: 0 < w.length:=List.length_pos_iff.mpr h0
   rw [if_pos (decide_eq_true hpos)]
   have hrun:=Gq w (l.drop w.length) true hall h0
   rw [← hl] at hrun
   rw [hrun]
   have hlen:=congrArg List.length hl
   rw [List.length_append] at hlen
   cases hd:l.drop w.length with
   |nil=>
    rw [hd] at hlen
    rw [if_neg bh]
    rw [lu,decide_eq_true (by rw [List.length_nil] at hlen;rw [hlen];rfl)]
    rfl
   |cons b r=>
    rw [hd,List.length_cons] at hlen
    rw [lu]
    by_cases h46:b=46
    ·subst h46
     have hr2:l.drop (w.length + 1)=r:=by
      rw [← List.drop_drop,hd]
      rfl
     rw [if_pos rfl,if_neg bh,if_pos (show bX 46 (46 :: r)=true from rfl),hr2,Bw n r ak]
     apply decide_eq_decide.mpr
     constructor
     ·intro e
      rw [e]
      exact Prod.ext rfl (by show w.length + 1 + r.length=_;omega)
     ·intro e
      exact Prod.ext (Prod.mk.inj e).1 (by have:=(Prod.mk.inj e).2;show _=r.length;omega)
    ·have:=hstop b r hd
     rw [if_neg h46,if_neg (by rw [this];decide)]
     rw [if_neg (by show ¬ (b == 46)=true;rw [beq_iff_eq];exact h46),decide_eq_false]
     intro e
     have:=(Prod.mk.inj e).2
     omega
def zR:List UInt8→List UInt8→Bool×List UInt8
 | [],_ =>(false,[])
 | [b],acc=>(b == 34,acc)
 |b :: c :: l,acc=>
  if b=34 then (false,[])
  else if b=92 then (if l= [] then (false,[]) else if c < 32∨126 < c then (false,[]) else zR l (acc ++ [c]))
  else if b < 32∨126 < b then (false,[]) else zR (c :: l) (acc ++ [b])
theorem Gr:∀ (n:Nat) (l acc x:List UInt8),l.length < n→(zR l acc=(true,x)↔gD l acc=(true,x,l.length))
 | 0,_,_,_,h=>absurd h (Nat.not_lt_zero _)
 |n + 1,l,acc,x,hn=>by
  cases l with
  |nil=>unfold zR gD;simp
  |cons b l=>
   cases l with
   |nil=>
    unfold zR gD
    by_cases hq:b=34
    ·subst hq
     simp
    ·rw [if_neg hq,beq_eq_false_iff_ne.mpr hq]
     by_cases hb:b=92
     ·rw [if_pos hb];simp
     ·rw [if_neg hb]
      by_cases hc:b < 32∨126 < b
      ·rw [if_pos hc];simp
      ·rw [if_neg hc]
       simp [gD]
   |cons c l=>
    unfold zR gD
    by_cases hq:b=34
    ·rw [if_pos hq,if_pos hq]
     simp
    ·rw [if_neg hq,if_neg hq]
     by_cases hb:b=92
     ·rw [if_pos hb,if_pos hb]
      by_cases hc:c < 32∨126 < c
      ·simp only [if_pos hc]
       by_cases hl:l= []
       ·rw [if_pos hl];simp
       ·rw [if_neg hl];simp
      ·simp only [if_neg hc]
       by_cases hl:l= []
       ·subst hl
        rw [if_pos rfl]
        simp [gD]
       ·rw [if_neg hl,Gr n l (acc ++ [c]) x Jf]
        constructor
        ·intro e
         rw [e]
         simp
        ·intro e
         simp only [Prod.mk.injEq,List.length_cons] at e
         exact Prod.ext e.1 (Prod.ext e.2.1 (by show _=l.length;omega))
     ·rw [if_neg hb,if_neg hb]
      by_cases hc:b < 32∨126 < b
      ·rw [if_pos hc,if_pos hc];simp
      ·rw [if_neg hc,if_neg hc,Gr n (c :: l) (acc ++ [b]) x (by simp only [List.length_cons] at hn ⊢;omega)]
       constructor
       ·intro e
        rw [e]
        simp
       ·intro e
        simp only [Prod.mk.injEq,List.length_cons] at e
        exact Prod.ext e.1 (Prod.ext e.2.1 (by show _=(c :: l).length;rw [List.length_cons];omega))
theorem vL:∀ (n:Nat) (l acc x:List UInt8) (m:Nat),l.length < n→gD l acc=(true,x,m)→∀ u,gD (l.take m ++ u) acc=(true,x,m)
 | 0,_,_,_,_,h,_,_ =>absurd h (Nat.not_lt_zero _)
 |n + 1,l,acc,x,m,hn,h,u=>by
  cases l with
  |nil=>unfold gD at h;cases (Prod.mk.inj h).1
  |cons b l=>
   unfold gD at h
   by_cases hq:b=34
   ·rw [if_pos hq] at h
    obtain ⟨rfl,rfl⟩:=Prod.mk.inj (Prod.mk.inj h).2
    show gD (b :: ((l.take 0) ++ u)) acc=_
    unfold gD
    rw [if_pos hq]
   ·rw [if_neg hq] at h
    by_cases hb:b=92
    ·rw [if_pos hb] at h
     cases l with
     |nil=>cases (Prod.mk.inj h).1
     |cons c l=>
      by_cases hc:c < 32∨126 < c
      ·simp only [if_pos hc] at h
       cases (Prod.mk.inj h).1
      ·simp only [if_neg hc,Prod.mk.injEq] at h
       obtain ⟨h1,h2,h3⟩:=h
       obtain ⟨m',rfl⟩:∃ m',m=m' + 2:=⟨m - 2,ak⟩
       have ih:=vL n l (acc ++ [c]) x m' Jf (Prod.ext h1 (Prod.ext h2 (by show _=m';omega))) u
       show gD (b :: c :: (l.take m' ++ u)) acc=_
       unfold gD
       rw [if_neg hq,if_pos hb]
       simp only [if_neg hc]
       rw [ih]
    ·rw [if_neg hb] at h
     by_cases hc:b < 32∨126 < b
     ·rw [if_pos hc] at h
      cases (Prod.mk.inj h).1
     ·rw [if_neg hc] at h
      simp only [Prod.mk.injEq] at h
      obtain ⟨h1,h2,h3⟩:=h
      obtain ⟨m',rfl⟩:∃ m',m=m' + 1:=⟨m - 1,ak⟩
      have ih:=vL n l (acc ++ [b]) x m' Jf (Prod.ext h1 (Prod.ext h2 (by show _=m';omega))) u
      show gD (b :: (l.take m' ++ u)) acc=_
      unfold gD
      rw [if_neg hq,if_neg hb,if_neg hc,ih]
def zS (s:List UInt8):Option (List UInt8):=
 if lu true s=true then some s else if bX 34 s=true then (if (zR (s.drop 1) []).1=true then some (zR (s.drop 1) []).2 else none) else none
theorem abg:gV 34=false:=by decide +kernel
theorem abh:gV 64=false:=by decide +kernel
theorem Im (s x:List UInt8):zS s=some x↔dn s=(true,au x,s.length):=by
 unfold zS dn
 rw [Bw _ s (Nat.lt_succ_self _)]
 by_cases hq:bX 34 s=true
 ·have hno: ¬ eJ gJ 46 s=(true,s.length):=by
   intro e
   cases s with
   |nil=>cases hq
   |cons b s=>
    have hb:b=34:=beq_iff_eq.mp hq
    subst hb
    rw [jN] at e
    have:gJ (34 :: s)=(false,0):=by
     unfold gJ
     rw [List.takeWhile_cons_of_neg (by rw [abg];decide)]
     rfl
    rw [this] at e
    cases (Prod.mk.inj e).1
  rw [if_neg (by rw [decide_eq_false hno];decide),if_pos hq,if_pos hq]
  cases s with
  |nil=>cases hq
  |cons b s=>
   rw [List.drop_one,List.tail_cons]
   have h:=Gr _ s [] x (Nat.lt_succ_self _)
   constructor
   ·intro e
    by_cases h1:(zR s []).1=true
    ·rw [if_pos h1] at e
     have h2:=h.mp (Prod.ext h1 (Option.some.inj e))
     rw [h2]
     exact Prod.ext rfl (Prod.ext rfl (by show 1 + s.length=(b :: s).length;rw [List.length_cons];omega))
    ·rw [if_neg h1] at e
     cases e
   ·intro e
    have e1:=(Prod.mk.inj e).1
    have e2:=(Prod.mk.inj (Prod.mk.inj e).2).1
    have e3:=(Prod.mk.inj (Prod.mk.inj e).2).2
    have e4:(gD s []).2.1=x:=by
     have:=congrArg (fun t:ByteArray=>t.data.toList) e2
     simpa [au] using this
    rw [List.length_cons] at e3
    have h2:=h.mpr (Prod.ext e1 (Prod.ext e4 (by show _=s.length;omega)))
    rw [h2]
    rfl
 ·rw [if_neg hq,if_neg hq]
  by_cases hp:eJ gJ 46 s=(true,s.length)
  ·rw [if_pos (decide_eq_true hp),hp]
   simp only [List.take_length]
   constructor
   ·intro e
    rw [Option.some.inj e]
   ·intro e
    have e2:=(Prod.mk.inj (Prod.mk.inj e).2).1
    have:=congrArg (fun t:ByteArray=>t.data.toList) e2
    rw [show s=x by simpa [au] using this]
  ·rw [if_neg (by rw [decide_eq_false hp];decide)]
   constructor
   ·intro e;cases e
   ·intro e
    exact absurd (Prod.ext (Prod.mk.inj e).1 (Prod.mk.inj (Prod.mk.inj e).2).2) hp
theorem Ug {w:List UInt8} {X:ByteArray} (h:dn w=(true,X,w.length)) (d:List UInt8):dn (w ++ 64 :: d)=(true,X,w.length):=by
 unfold dn at h ⊢
 by_cases hq:bX 34 w=true
 ·cases w with
  |nil=>cases hq
  |cons b w=>
   have hq2:bX 34 ((b :: w) ++ 64 :: d)=true:=hq
   rw [if_pos hq,List.drop_one,List.tail_cons] at h
   rw [if_pos hq2,List.cons_append,List.drop_one,List.tail_cons]
   obtain ⟨h1,h2⟩:=Prod.mk.inj h
   obtain ⟨h2,h3⟩:=Prod.mk.inj h2
   rw [List.length_cons] at h3
   have hs:=vL _ w [] (gD w []).2.1 w.length (Nat.lt_succ_self _) (Prod.ext h1 (Prod.ext rfl (by show _=w.length;omega))) (64 :: d)
   rw [List.take_length] at hs
   rw [hs]
   exact Prod.ext rfl (Prod.ext h2 (by show 1 + w.length=w.length + 1;omega))
 ·have hq2: ¬ bX 34 (w ++ 64 :: d)=true:=by
   cases w with
   |nil=>intro e;exact absurd (beq_iff_eq.mp (show ((64:UInt8) == 34)=true from e)) bh
   |cons b w=>exact hq
  have hst:mJ gV (64 :: d):=by
   intro b t' e
   rw [← (List.cons.inj e).1]
   exact abh
  rw [if_neg hq] at h
  rw [if_neg hq2,zO hst (by rfl)]
  obtain ⟨h1,h2⟩:=Prod.mk.inj h
  obtain ⟨h2,h3⟩:=Prod.mk.inj h2
  rw [h3,List.take_length] at h2
  exact Prod.ext h1 (Prod.ext (by rw [h3,List.take_left];exact h2) h3)
theorem Uh {l:List UInt8} (h:(dn l).1=true):dn (l.take (dn l).2.2)=(true,(dn l).2.1,(l.take (dn l).2.2).length)∧(l.take (dn l).2.2).length=(dn l).2.2:=by
 have hle:=H7 l h
 have hlen:(l.take (dn l).2.2).length=(dn l).2.2:=by rw [List.length_take];omega
 refine ⟨?_,hlen⟩
 rw [hlen]
 unfold dn at h hle ⊢
 by_cases hq:bX 34 l=true
 ·rw [if_pos hq] at h hle ⊢
  cases l with
  |nil=>cases hq
  |cons b l=>
   rw [List.drop_one,List.tail_cons] at h hle ⊢
   have hs:=vL _ l [] (gD l []).2.1 (gD l []).2.2 (Nat.lt_succ_self _) (Prod.ext h (Prod.ext rfl rfl)) []
   rw [List.append_nil] at hs
   have ht:(b :: l).take (1 + (gD l []).2.2)=b :: l.take (gD l []).2.2:=by rw [Nat.add_comm,List.take_succ_cons]
   simp only
   rw [ht,if_pos (show bX 34 (b :: l.take (gD l []).2.2)=true from hq),List.drop_one,List.tail_cons,hs]
 ·rw [if_neg hq] at h hle ⊢
  simp only at h hle ⊢
  have ht:=Gg l h
  have hq2: ¬ bX 34 (l.take (eJ gJ 46 l).2)=true:=by
   intro e
   apply hq
   cases l with
   |nil=>rw [List.take_nil] at e;exact e
   |cons b l=>
    cases hn:(eJ gJ 46 (b :: l)).2 with
    |zero=>rw [hn,List.take_zero] at e;cases e
    |succ n=>rw [hn,List.take_succ_cons] at e;exact e
  rw [if_neg hq2,ht]
  simp only
  rw [List.take_take,Nat.min_self]
end Go.Proofs.YtokpnfljjjjikaaGreatDoor.jI
namespace Go.Proofs.YtokpnfljjjjikaaGreatDoor.jI
open Go.RowKit Go.Proofs.YtokpnfljjjjikaaGreatDoor Go.Proofs.YtokpnfljjjjikaaGreatDoor.mY Go.Proofs.aj.bO Go.Proofs.aj.cK
set_option linter.unusedVariables false
set_option linter.unusedSimpArgs false
def zT (b:UInt8):Bool:=b != 64 && (b != 62 && b != 34)
theorem Io (b:UInt8):mD (b.toNat:Int) < 16→zT b=true:=fy (Q:=fun b=>mD (b.toNat:Int) < 16→zT b=true) fk b
theorem Ui (b:UInt8):eX b∈([105,112,118,54,58]:List UInt8)→zT b=true:=fy (Q:=fun b=>eX b∈([105,112,118,54,58]:List UInt8)→zT b=true) fk b
theorem Cv (l:List UInt8) (h: 0≤nO l):∀ b,b∈l→zT b=true:=by
 intro b hb
 unfold nO at h
 by_cases h0:l.length=0
 ·have:l= []:=List.eq_nil_of_length_eq_zero h0
  subst this
  cases hb
 ·rw [if_neg h0] at h
  by_cases ha:((pieces 58 l).any fun p=>iw (au p))=true
  ·rw [if_pos ha] at h
   omega
  ·rcases oO 58 l b hb with rfl|⟨p,hp,hb⟩
   ·decide
   ·have h1:iw (au p)=false:=by
     cases hg:iw (au p) with
     |false=>rfl
     |true=>exact absurd (List.any_eq_true.mpr ⟨p,hp,hg⟩) ha
    unfold iw at h1
    rw [Bool.or_eq_false_iff] at h1
    exact Io b (Cs 16 65535 p h1.1 b hb)
theorem Ip (l:List UInt8) (h:tE l=true):∀ b,b∈l→zT b=true:=by
 intro b hb
 unfold tE at h
 by_cases hs:qu l=true
 ·rw [if_pos hs] at h
  unfold qu at hs
  simp only [Bool.and_eq_true,beq_iff_eq] at hs
  have e:l=l.take 5 ++ l.drop 5:=(List.take_append_drop 5 l).symm
  rw [e] at hb
  rcases List.mem_append.mp hb with hb|hb
  ·exact Ui b (by rw [← hs.2];exact List.mem_map_of_mem hb)
  ·generalize l.drop 5=m at h hb
   unfold DI Lib.cut at h
   by_cases hi: 0≤Lib.index m [58,58]
   ·simp only [if_pos hi,if_true,Bool.and_eq_true,decide_eq_true_eq] at h
    obtain ⟨h1,h2,h3⟩:=h
    have e:=xB m hi
    rw [show ([58,58]:List UInt8).length=2 from rfl] at h2
    rw [e] at hb
    rcases List.mem_append.mp hb with hb|hb
    ·exact Cv _ h1 b hb
    ·rcases List.mem_cons.mp hb with rfl|hb
     ·decide
     ·rcases List.mem_cons.mp hb with rfl|hb
      ·decide
      ·exact Cv _ h2 b hb
   ·simp only [if_neg hi,Bool.false_eq_true,if_false,beq_iff_eq] at h
    exact Cv m ak b hb
 ·rw [if_neg hs] at h
  unfold vY at h
  simp only [Bool.and_eq_true,decide_eq_true_eq,Bool.not_eq_true'] at h
  rcases oO 46 l b hb with rfl|⟨p,hp,hb⟩
  ·decide
  ·have h3:lO p=false:=by
    cases hg:lO p with
    |false=>rfl
    |true=>rw [List.any_eq_true.mpr ⟨p,hp,hg⟩] at h;cases h.2
   unfold lO at h3
   rw [Bool.or_eq_false_iff] at h3
   have:=Cs 10 255 p h3.1 b hb
   exact Io b ak
theorem kT {c:UInt8} {l:List UInt8} (h:bX c l=true):∃ r,l=c :: r:=by
 cases l with
 |nil=>cases h
 |cons b r=>exact ⟨r,by rw [beq_iff_eq.mp (show (b == c)=true from h)]⟩
structure Pt (t lo dom:List UInt8) (lit:Bool) (w d:List UInt8):Prop where
 tx:t=w ++ 64 :: d
 lw:dn w=(true,au lo,w.length)
 dd:(lit=true∧∃ x,d=91 :: (x ++ [93])∧tE x=true∧dom=x.map eX)∨(lit=false∧kC d=true∧dom=d.map eX)
theorem qx {l a b:List UInt8} {n:Nat} (h:l=a ++ b) (hn:n=a.length):l.take n=a:=by
 subst hn
 rw [h,List.take_left]
theorem Gs (l:List UInt8) (hl:l.length < 4294967281) (h:(jV l).1=true):∃ lo dom lit w d,Pt (l.take (jV l).2.2.2.2) lo dom lit w d∧jV l=(true,au lo,au dom,lit,(jV l).2.2.2.2):=by
 have hlo:(dn l).1=true:=by
  unfold jV at h
  by_cases h1:(dn l).1=true
  ·exact h1
  ·rw [if_neg h1] at h
   cases h
 obtain ⟨c1,c2⟩:=Uh hlo
 obtain ⟨n1,hn1⟩:∃ n1,(dn l).2.2=n1:=⟨_,rfl⟩
 obtain ⟨w,hw⟩:∃ w,l.take n1=w:=⟨_,rfl⟩
 rw [hn1,hw] at c1 c2
 rw [rA] at c1
 have hlw:l=w ++ l.drop n1:=by rw [← hw,List.take_append_drop]
 unfold jV at h ⊢
 rw [if_pos hlo] at h ⊢
 rw [hn1] at h ⊢
 by_cases h2:bX 64 (l.drop n1)=true
 case neg=>rw [if_neg h2] at h;cases h
 rw [if_pos h2] at h ⊢
 obtain ⟨d0,hd0⟩:=kT h2
 have hd1:l.drop (n1 + 1)=d0:=by rw [← List.drop_drop,hd0];rfl
 rw [hd1] at h ⊢
 by_cases h3:bX 91 d0=true
 ·rw [if_pos h3] at h ⊢
  obtain ⟨d1,rfl⟩:=kT h3
  have hd2:l.drop (n1 + 2)=d1:=by rw [show n1 + 2=n1 + 1 + 1 from rfl,← List.drop_drop,hd1];rfl
  rw [hd2] at h ⊢
  obtain ⟨x,hx⟩:∃ x,d1.takeWhile jt=x:=⟨_,rfl⟩
  rw [hx] at h ⊢
  have hd3:l.drop (n1 + 2 + x.length)=d1.drop x.length:=by rw [← List.drop_drop,hd2]
  rw [hd3] at h ⊢
  by_cases h4:bX 93 (d1.drop x.length)=true
  case neg=>rw [if_neg h4] at h;cases h
  rw [if_pos h4] at h ⊢
  simp only at h ⊢
  obtain ⟨rs,hrs⟩:=kT h4
  have hxl:x.length≤l.length:=by
   rw [← hx]
   refine Nat.le_trans (mW _ _) ?_
   rw [← hd2,List.length_drop]
   omega
  rw [yP x ak] at h ⊢
  have arp:d1=x ++ 93 :: rs:=by
   have e:=List.take_append_drop x.length d1
   have e2:d1.take x.length=x:=by rw [← hx,kN]
   rw [e2,hrs] at e
   exact e.symm
  have ht:l.take (n1 + 2 + x.length + 1)=w ++ 64 :: (91 :: (x ++ [93])):=by
   refine qx (b:=rs) ?_ ?_
   ·rw [hlw,hd0,arp]
    simp
   ·simp only [List.length_append,List.length_cons,List.length_nil]
    omega
  refine ⟨uu l,x.map eX,true,w,91 :: (x ++ [93]),⟨ht,c1,.inl ⟨rfl,x,rfl,h,rfl⟩⟩,?_⟩
  rw [h,rA,lN]
 ·rw [if_neg h3] at h ⊢
  have h5:(eJ dS 46 d0).1=true:=h
  have hle:=sZ dS 46 uF _ d0 (Nat.lt_succ_self _)
  have htk:=xw d0 h5
  obtain ⟨m,hm⟩:∃ m,(eJ dS 46 d0).2=m:=⟨_,rfl⟩
  rw [hm] at htk hle
  have hml:(d0.take m).length=m:=by rw [List.length_take];omega
  have hform:kC (d0.take m)=true:=(uH _).mp (by rw [htk,hml])
  have e1:(mG d0).2.2=m:=hm
  have e2:(mG d0).2.1=au ((d0.take m).map eX):=by
   rw [qq]
   unfold td
   rw [hm]
  have e3:(mG d0).1=true:=h5
  simp only
  rw [e1,e2,e3,rA]
  have ht:l.take (n1 + 1 + m)=w ++ 64 :: d0.take m:=by
   refine qx (b:=d0.drop m) ?_ ?_
   ·rw [hlw,hd0]
    simp
   ·simp only [List.length_append,List.length_cons,hml]
    omega
  exact ⟨uu l,(d0.take m).map eX,false,w,d0.take m,⟨ht,c1,.inr ⟨rfl,hform,rfl⟩⟩,rfl⟩
theorem Cw {t lo dom:List UInt8} {lit:Bool} {w d:List UInt8} (B:Pt t lo dom lit w d) {u:List UInt8} (hu:mJ iI u) (h46:bX 46 u=false):jV (t ++ u)=(true,au lo,au dom,lit,t.length):=by
 obtain ⟨rfl,lw,dd⟩:=B
 have e0:w ++ 64 :: d ++ u=w ++ 64 :: (d ++ u):=by simp
 have el:=Ug lw (d ++ u)
 have ed:(w ++ 64 :: (d ++ u)).drop w.length=64 :: (d ++ u):=List.drop_left
 have ed1:(w ++ 64 :: (d ++ u)).drop (w.length + 1)=d ++ u:=by rw [← List.drop_drop,ed];rfl
 rw [e0]
 unfold jV
 rw [el]
 simp only
 rw [if_pos trivial,ed,if_pos (show bX 64 (64 :: (d ++ u))=true from rfl),ed1]
 rcases dd with ⟨rfl,x,rfl,hx,rfl⟩|⟨rfl,hf,rfl⟩
 ·obtain ⟨hw,ae0⟩:=Gp x hx
  have ed2:(w ++ 64 :: (91 :: (x ++ [93]) ++ u)).drop (w.length + 2)=x ++ 93 :: u:=by
   rw [show w.length + 2=w.length + 1 + 1 from rfl,← List.drop_drop,ed1]
   simp
  have hst:mJ jt (93 :: u):=by
   intro b t' e
   rw [← (List.cons.inj e).1]
   decide
  have htw:(x ++ 93 :: u).takeWhile jt=x:=by rw [EE hst,K5 x hw]
  have ed3:(w ++ 64 :: (91 :: (x ++ [93]) ++ u)).drop (w.length + 2 + x.length)=93 :: u:=by rw [← List.drop_drop,ed2,List.drop_left]
  rw [if_pos (show bX 91 (91 :: (x ++ [93]) ++ u)=true from rfl),ed2,htw,ed3,if_pos (show bX 93 (93 :: u)=true from rfl),yP x ak,hx,lN]
  congr 4
  simp only [List.length_append,List.length_cons,List.length_nil]
  omega
 ·have hne:=abf hf
  have h91: ¬ bX 91 (d ++ u)=true:=by
   cases d with
   |nil=>exact absurd rfl hne
   |cons b d=>
    intro e
    have e2:b=91:=beq_iff_eq.mp (show (b == 91)=true from e)
    have:=Il hf
    rw [e2] at this
    exact absurd this fk
  have hl:=(uH d).mpr hf
  have hl2:eJ dS 46 (d ++ u)=(true,d.length):=by rw [rz hu h46,hl]
  have e1:(mG (d ++ u)).1=true:=congrArg Prod.fst hl2
  have e2:(mG (d ++ u)).2.2=d.length:=congrArg Prod.snd hl2
  have e3:(mG (d ++ u)).2.1=au (d.map eX):=by
   rw [qq]
   unfold td
   rw [hl2,List.take_left]
  rw [if_neg h91,e1,e2,e3]
  congr 4
  simp only [List.length_append,List.length_cons]
  omega
def tV (c:UInt8):List UInt8→Option (List UInt8×List UInt8)
 | []=>none
 |b :: l=>match tV c l with
  |some (w,r)=>some (b :: w,r)
  |none=>if b=c then some ([],l) else none
theorem rX (c:UInt8):∀ l:List UInt8,c ∉ l→tV c l=none
 | [],_ =>rfl
 |b :: l,h=>by
  unfold tV
  rw [rX c l (fun hm=>h (List.mem_cons_of_mem _ hm))]
  simp only
  rw [if_neg (show ¬ b=c from fun e=>h Av)]
theorem rY (c:UInt8) (r:List UInt8) (h:c ∉ r):∀ w:List UInt8,tV c (w ++ c :: r)=some (w,r)
 | []=>by
   show tV c (c :: r)=_
   unfold tV
   rw [rX c r h]
   simp
 |b :: w=>by
  rw [List.cons_append]
  unfold tV
  rw [rY c r h w]
def bracketed (d:List UInt8):Bool:=decide (2≤d.length) && (d.getD 0 0 == 91 && d.getD (d.length - 1) 0 == 93)
def qJ (d:List UInt8):List UInt8:=(d.drop 1).take (d.length - 2)
theorem Pv (x:List UInt8):bracketed (91 :: (x ++ [93]))=true∧qJ (91 :: (x ++ [93]))=x:=by
 constructor
 ·unfold bracketed
  have e:(91 :: (x ++ [93])).getD ((91 :: (x ++ [93])).length - 1) 0=93:=by
   rw [List.getD_eq_getElem?_getD]
   simp
  rw [e,decide_eq_true bw]
  rfl
 ·unfold qJ
  simp
theorem zU {d:List UInt8} (h:bracketed d=true):d=91 :: (qJ d ++ [93]):=by
 unfold bracketed at h
 simp only [Bool.and_eq_true,decide_eq_true_eq,beq_iff_eq] at h
 obtain ⟨h2,h0,h1⟩:=h
 cases d with
 |nil=>simp at h2
 |cons b d=>
  have hb:b=91:=by simpa using h0
  subst hb
  have hd:d≠ []:=by rintro rfl;simp at h2
  have e:=List.dropLast_concat_getLast hd
  have el:d.getLast hd=93:=by
   rw [List.getLast_eq_getElem]
   have hp: 0 < d.length:=List.length_pos_iff.mpr hd
   rw [List.getD_eq_getElem?_getD,List.length_cons,show d.length + 1 - 1=(d.length - 1) + 1 by omega,List.getElem?_cons_succ,List.getElem?_eq_getElem ak] at h1
   exact h1
  rw [el] at e
  unfold qJ
  rw [List.drop_one,List.tail_cons,List.length_cons,show d.length + 1 - 2=d.length - 1 by omega,← List.dropLast_eq_take,e]
def tW (d:List UInt8):Option (List UInt8×Bool):=if bracketed d=true then (if tE (qJ d)=true then some ((qJ d).map eX,true) else none) else if kC d=true then some (d.map eX,false) else none
def l7 (t:List UInt8):Option (List UInt8×List UInt8×Bool):=(tV 64 t).bind fun p=>(zS p.1).bind fun lo=>(tW p.2).bind fun q=>some (lo,q.1,q.2)
theorem ae1:iI 64=false:=by decide +kernel
theorem Pt.arq {t lo dom:List UInt8} {lit:Bool} {w d:List UInt8} (B:Pt t lo dom lit w d):(64:UInt8) ∉ d:=by
 rcases B.dd with ⟨rfl,x,rfl,hx,rfl⟩|⟨rfl,hf,rfl⟩
 ·intro hm
  rcases List.mem_cons.mp hm with e|hm
  ·exact absurd e bh
  ·rcases List.mem_append.mp hm with hm|hm
   ·exact absurd (Ip x hx 64 hm) bh
   ·exact absurd (List.mem_singleton.mp hm) bh
 ·exact vK hf 64 ae1 bh
theorem tX (t lo dom:List UInt8) (lit:Bool):l7 t=some (lo,dom,lit)↔∃ w d,Pt t lo dom lit w d:=by
 constructor
 ·intro h
  unfold l7 at h
  rcases K4 64 t with hn|⟨w,d,rfl,hd⟩
  ·rw [rX 64 t hn] at h
   cases h
  ·rw [rY 64 d hd w] at h
   simp only [Option.bind_some] at h
   obtain ⟨K6,h1,h⟩:=Option.bind_eq_some_iff.mp h
   obtain ⟨q,h2,h⟩:=Option.bind_eq_some_iff.mp h
   have h:=Option.some.inj h
   simp only [Prod.mk.injEq] at h
   obtain ⟨rfl,rfl,rfl⟩:=h
   refine ⟨w,d,rfl,(Im w K6).mp h1,?_⟩
   unfold tW at h2
   by_cases hb:bracketed d=true
   ·rw [if_pos hb] at h2
    by_cases hl:tE (qJ d)=true
    ·rw [if_pos hl] at h2
     rw [← Option.some.inj h2]
     exact .inl ⟨rfl,qJ d,zU hb,hl,rfl⟩
    ·rw [if_neg hl] at h2
     cases h2
   ·rw [if_neg hb] at h2
    by_cases hf:kC d=true
    ·rw [if_pos hf] at h2
     rw [← Option.some.inj h2]
     exact .inr ⟨rfl,hf,rfl⟩
    ·rw [if_neg hf] at h2
     cases h2
 ·rintro ⟨w,d,B⟩
  have h64:=B.arq
  obtain ⟨rfl,lw,dd⟩:=B
  unfold l7
  rw [rY 64 d h64 w]
  simp only [Option.bind_some]
  rw [(Im w lo).mpr lw]
  simp only [Option.bind_some]
  have e:tW d=some (dom,lit):=by
   unfold tW
   rcases dd with ⟨rfl,x,rfl,hx,rfl⟩|⟨rfl,hf,rfl⟩
   ·obtain ⟨b1,b2⟩:=Pv x
    rw [if_pos b1,b2,if_pos hx]
   ·have hb: ¬ bracketed d=true:=by
     intro hb
     have e:=zU hb
     rw [e] at hf
     have:=Il hf
     exact absurd this fk
    rw [if_neg hb,if_pos hf]
  rw [e]
  rfl
theorem mL (d:List UInt8) {ds:List (List UInt8)} (h:ds≠ []):dG (d :: ds)=64 :: (d ++ 44 :: dG ds):=by
 cases ds with
 |nil=>exact absurd rfl h
 |cons e ds=>rfl
theorem MW {x t:List UInt8} (hx:kC x=true) (ht:mJ iI t) (h46:bX 46 t=false):iY (64 :: (x ++ t))=(true,au (x.map eX),1 + x.length):=by
 have hl:eJ dS 46 (x ++ t)=(true,x.length):=by rw [rz ht h46,(uH x).mpr hx]
 have e1:(mG (x ++ t)).1=true:=congrArg Prod.fst hl
 have e2:(mG (x ++ t)).2.2=x.length:=congrArg Prod.snd hl
 have e3:(mG (x ++ t)).2.1=au (x.map eX):=by
  rw [qq]
  unfold td
  rw [hl,List.take_left]
 unfold iY
 rw [if_pos (show bX 64 (64 :: (x ++ t))=true from rfl),List.drop_one,List.tail_cons,e1,e2,e3]
theorem Da (t:List UInt8):∀ xs:List (List UInt8),xs≠ []→(∀ x,x∈xs→kC x=true)→fW (dG xs ++ 58 :: t)=(true,(xs.map fun x=>x.map eX).map au,(dG xs).length)
 | [],h,_ =>absurd rfl h
 | [x],_,h=>by
   have hx:=h x (List.mem_cons_self ..)
   have e0:dG [x] ++ 58 :: t=64 :: (x ++ 58 :: t):=rfl
   rw [nW,e0,MW hx (pH 58 fk t) rfl]
   have e3:(64 :: (x ++ 58 :: t)).drop (1 + x.length)=58 :: t:=by rw [Nat.add_comm,List.drop_succ_cons,List.drop_left]
   simp only [if_true]
   rw [e3,if_neg (show ¬ bX 44 (58 :: t)=true by simp [bX])]
   simp [dG]
   omega
 |x :: y :: xs,_,h=>by
  have hx:=h x (List.mem_cons_self ..)
  have ih:=Da t (y :: xs) bw (fun z hz=>h z (List.mem_cons_of_mem _ hz))
  have e0:dG (x :: y :: xs) ++ 58 :: t=64 :: (x ++ 44 :: (dG (y :: xs) ++ 58 :: t)):=by
   rw [mL x bw]
   simp
  rw [nW,e0,MW hx (pH 44 fk _) rfl]
  have e3:(64 :: (x ++ 44 :: (dG (y :: xs) ++ 58 :: t))).drop (1 + x.length)=44 :: (dG (y :: xs) ++ 58 :: t):=by rw [Nat.add_comm,List.drop_succ_cons,List.drop_left]
  have e4:(64 :: (x ++ 44 :: (dG (y :: xs) ++ 58 :: t))).drop (1 + x.length + 1)=dG (y :: xs) ++ 58 :: t:=by
   rw [← List.drop_drop,e3]
   rfl
  simp only [if_true]
  rw [e3,if_pos (show bX 44 (44 :: (dG (y :: xs) ++ 58 :: t))=true from rfl),e4,ih,mL x bw]
  simp
  omega
theorem X7 {l:List UInt8} (h:(iY l).1=true):∃ x,kC x=true∧l.take (iY l).2.2=64 :: x∧(iY l).2.1=au (x.map eX)∧(iY l).2.2=1 + x.length:=by
 unfold iY at h ⊢
 by_cases h1:bX 64 l=true
 case neg=>rw [if_neg h1] at h;cases h
 rw [if_pos h1] at h ⊢
 obtain ⟨r,rfl⟩:=kT h1
 rw [List.drop_one,List.tail_cons] at h ⊢
 have h5:(eJ dS 46 r).1=true:=h
 have hle:=sZ dS 46 uF _ r (Nat.lt_succ_self _)
 have htk:=xw r h5
 have hml:(r.take (eJ dS 46 r).2).length=(eJ dS 46 r).2:=by rw [List.length_take];omega
 refine ⟨r.take (eJ dS 46 r).2,(uH _).mp (by rw [htk,hml]),?_,qq r,?_⟩
 ·show (64 :: r).take (1 + (eJ dS 46 r).2)=_
  rw [Nat.add_comm,List.take_succ_cons]
 ·show 1 + (eJ dS 46 r).2=_
  rw [hml]
theorem Gt:∀ (n:Nat) (l:List UInt8),l.length < n→(fW l).1=true→∃ xs,xs≠ []∧(∀ x,x∈xs→kC x=true)∧l.take (fW l).2.2=dG xs∧(fW l).2.1=(xs.map fun x=>x.map eX).map au∧(fW l).2.2=(dG xs).length
 | 0,_,h,_ =>absurd h (Nat.not_lt_zero _)
 |n + 1,l,hn,h=>by
  rw [nW] at h ⊢
  by_cases h1:(iY l).1=true
  case neg=>rw [if_neg h1] at h;cases h
  rw [if_pos h1] at h ⊢
  obtain ⟨x,x1,x2,x3,x4⟩:=X7 h1
  by_cases h2:bX 44 (l.drop (iY l).2.2)=true
  ·have hlt:=fR h2
   rw [if_pos h2] at h ⊢
   obtain ⟨xs,y1,y2,y3,y4,y5⟩:=Gt n (l.drop ((iY l).2.2 + 1)) kR h
   obtain ⟨r,hr⟩:=kT h2
   have hdr:l.drop ((iY l).2.2 + 1)=r:=by rw [← List.drop_drop,hr];rfl
   rw [hdr] at y3 y4 y5 ⊢
   refine ⟨x :: xs,bw,fun z hz=>?_,?_,?_,?_⟩
   ·rcases List.mem_cons.mp hz with rfl|hz
    ·exact x1
    ·exact y2 z hz
   ·simp only
    rw [mL x y1]
    have hl:l=64 :: x ++ 44 :: r:=by
     have e:=List.take_append_drop (iY l).2.2 l
     rw [x2,hr] at e
     exact e.symm
    refine qx (b:=r.drop (fW r).2.2) ?_ ?_
    ·have e5:=List.take_append_drop (fW r).2.2 r
     rw [y3] at e5
     rw [hl]
     conv=>lhs;rw [← e5]
     simp
    ·simp only [List.length_cons,List.length_append]
     omega
   ·simp only
    rw [x3,y4]
    rfl
   ·simp only
    rw [mL x y1]
    simp only [List.length_cons,List.length_append]
    omega
  ·rw [if_neg h2]
   refine ⟨[x],bw,fun z hz=>?_,?_,?_,?_⟩
   ·rw [List.mem_singleton.mp hz]
    exact x1
   ·exact x2
   ·simp only
    rw [x3]
    rfl
   ·simp only
    rw [x4]
    simp [dG]
    omega
def qK:List UInt8→Bool
 | []=>false
 |b :: x=>b == 64 && kC x
def yQ (R:List UInt8):Option (List (List UInt8)):=if (pieces 44 R).all qK=true then some ((pieces 44 R).map fun p=>p.drop 1) else none
theorem X8:iI 44=false:=by decide +kernel
theorem Bx:∀ xs:List (List UInt8),xs≠ []→(∀ x,x∈xs→kC x=true)→pieces 44 (dG xs)=xs.map fun x=>64 :: x
 | [],h,_ =>absurd rfl h
 | [x],_,h=>by
   have h44:=vK (h x (List.mem_cons_self ..)) 44 X8 bh
   show pieces 44 (64 :: x)=_
   rw [pI 44 (64 :: x) (fun hm=>by
    rcases List.mem_cons.mp hm with e|hm
    ·exact absurd e bh
    ·exact h44 hm)]
   rfl
 |x :: y :: xs,_,h=>by
  have h44:=vK (h x (List.mem_cons_self ..)) 44 X8 bh
  rw [mL x bw,show 64 :: (x ++ 44 :: dG (y :: xs))=(64 :: x) ++ 44 :: dG (y :: xs) from rfl,qw 44 _ (64 :: x) (fun hm=>by
   rcases List.mem_cons.mp hm with e|hm
   ·exact absurd e bh
   ·exact h44 hm),Bx (y :: xs) bw (fun z hz=>h z (List.mem_cons_of_mem _ hz))]
  rfl
theorem zV {p:List UInt8} (h:qK p=true):p=64 :: p.drop 1∧kC (p.drop 1)=true:=by
 cases p with
 |nil=>cases h
 |cons b x=>
  unfold qK at h
  simp only [Bool.and_eq_true,beq_iff_eq] at h
  rw [h.1]
  exact ⟨rfl,h.2⟩
theorem MX:∀ (n:Nat) (R:List UInt8),R.length < n→(pieces 44 R).all qK=true→R=dG ((pieces 44 R).map fun p=>p.drop 1)
 | 0,_,h,_ =>absurd h (Nat.not_lt_zero _)
 |n + 1,R,hn,h=>by
  rcases uG 44 R with hno|⟨w,r,rfl,hw⟩
  ·rw [pI 44 R hno] at h ⊢
   rw [List.all_cons,List.all_nil,Bool.and_true] at h
   exact (zV h).1
  ·rw [qw 44 r w hw] at h ⊢
   rw [List.all_cons,Bool.and_eq_true] at h
   have ih:=MX n r (by rw [List.length_append,List.length_cons] at hn;omega) h.2
   have hne:(pieces 44 r).map (fun p=>p.drop 1)≠ []:=fun e=>uy 44 r (List.map_eq_nil_iff.mp e)
   rw [List.map_cons,mL _ hne,← ih]
   have:=(zV h.1).1
   conv=>lhs;rw [this]
   rfl
theorem Bz (R:List UInt8) (xs:List (List UInt8)):yQ R=some xs↔xs≠ []∧(∀ x,x∈xs→kC x=true)∧R=dG xs:=by
 unfold yQ
 constructor
 ·intro h
  by_cases ha:(pieces 44 R).all qK=true
  ·rw [if_pos ha] at h
   obtain rfl:=Option.some.inj h
   refine ⟨fun e=>uy 44 R (List.map_eq_nil_iff.mp e),fun x hx=>?_,MX _ R (Nat.lt_succ_self _) ha⟩
   obtain ⟨p,hp,rfl⟩:=List.mem_map.mp hx
   exact (zV (List.all_eq_true.mp ha p hp)).2
  ·rw [if_neg ha] at h
   cases h
 ·rintro ⟨h1,h2,rfl⟩
  rw [Bx xs h1 h2,if_pos]
  ·rw [List.map_map]
   congr 1
   have:=List.map_congr_left (l:=xs) (f:=(fun p=>List.drop 1 p) ∘fun x=>64 :: x) (g:=id) fun x _ =>rfl
   rw [this,List.map_id]
  ·rw [List.all_eq_true]
   intro p hp
   obtain ⟨x,hx,rfl⟩:=List.mem_map.mp hp
   show (64 == 64 && kC x)=true
   rw [h2 x hx]
   rfl
end Go.Proofs.YtokpnfljjjjikaaGreatDoor.jI
namespace Go.Proofs.YtokpnfljjjjikaaGreatDoor.jI
open Go.RowKit Go.Proofs.YtokpnfljjjjikaaGreatDoor Go.Proofs.YtokpnfljjjjikaaGreatDoor.mY Go.Proofs.aj.bO Go.Proofs.aj.cK
set_option linter.unusedVariables false
set_option linter.unusedSimpArgs false
def nI:Bool→List UInt8→Option Nat
 |_,[]=>none
 |q,b :: l=>
  if b=34 then (nI (!q) l).map (· + 1)
  else if q=true∧b=92 then (match l with
   | []=>none
   |_ :: l'=>(nI q l').map (· + 2))
  else if q=false∧b=62 then some 0
  else (nI q l).map (· + 1)
theorem mF (q:Bool) (b:UInt8) (l:List UInt8):nI q (b :: l)=
 if b=34 then (nI (!q) l).map (· + 1)
 else if q=true∧b=92 then (match l with
  | []=>none
  |_ :: l'=>(nI q l').map (· + 2))
 else if q=false∧b=62 then some 0
 else (nI q l).map (· + 1):=by
 conv=>lhs;unfold nI
theorem tlm (x:List UInt8):(au x).toList=x:=by
 rw [ByteArray.toList_eq]
 rfl
theorem tj:∀ (n:Nat) (q:Bool) (l:List UInt8) (m:Nat),l.length < n→nI q l=some m→∃ t u,l=t ++ 62 :: u∧t.length=m
 | 0,_,_,_,h,_ =>absurd h (Nat.not_lt_zero _)
 |n + 1,q,l,m,hn,h=>by
  cases l with
  |nil=>unfold nI at h;cases h
  |cons b l=>
   unfold nI at h
   rw [List.length_cons] at hn
   by_cases h1:b=34
   ·rw [if_pos h1] at h
    obtain ⟨k,hk,rfl⟩:=Option.map_eq_some_iff.mp h
    obtain ⟨t,u,rfl,rfl⟩:=tj n _ l k ak hk
    exact ⟨b :: t,u,rfl,rfl⟩
   ·rw [if_neg h1] at h
    by_cases h2:q=true∧b=92
    ·rw [if_pos h2] at h
     cases l with
     |nil=>cases h
     |cons c l=>
      obtain ⟨k,hk,rfl⟩:=Option.map_eq_some_iff.mp h
      rw [List.length_cons] at hn
      obtain ⟨t,u,rfl,rfl⟩:=tj n _ l k ak hk
      exact ⟨b :: c :: t,u,rfl,rfl⟩
    ·rw [if_neg h2] at h
     by_cases h3:q=false∧b=62
     ·rw [if_pos h3] at h
      rw [← Option.some.inj h,h3.2]
      exact ⟨[],l,rfl,rfl⟩
     ·rw [if_neg h3] at h
      obtain ⟨k,hk,rfl⟩:=Option.map_eq_some_iff.mp h
      obtain ⟨t,u,rfl,rfl⟩:=tj n _ l k ak hk
      exact ⟨b :: t,u,rfl,rfl⟩
def Passes (t:List UInt8):Prop:=∀ u,nI false (t ++ u)=(nI false u).map (· + t.length)
theorem Pw:Passes []:=fun u=>by
 rw [List.nil_append]
 cases nI false u<;>rfl
theorem Passes.append {a b:List UInt8} (ha:Passes a) (hb:Passes b):Passes (a ++ b):=fun u=>by
 rw [List.append_assoc,ha,hb,Option.map_map,List.length_append]
 congr 1
 funext x
 show x + b.length + a.length=_
 omega
theorem vM (b:UInt8) (h:b≠34) (h2:b≠62):Passes [b]:=fun u=>by
 show nI false (b :: u)=_
 rw [mF,if_neg h,if_neg (fun e=>by cases e.1),if_neg (fun e=>h2 e.2)]
 rfl
theorem nX:∀ t:List UInt8,(∀ b,b∈t→b≠34∧b≠62)→Passes t
 | [],_ =>Pw
 |b :: t,h=>by
  have h1:=h b (List.mem_cons_self ..)
  exact (vM b h1.1 h1.2).append (nX t fun c hc=>h c (List.mem_cons_of_mem _ hc))
theorem xC:∀ (n:Nat) (q acc x:List UInt8),q.length < n→gD q acc=(true,x,q.length)→∀ u,nI true (q ++ u)=(nI false u).map (· + q.length)
 | 0,_,_,_,h,_,_ =>absurd h (Nat.not_lt_zero _)
 |n + 1,q,acc,x,hn,h,u=>by
  cases q with
  |nil=>unfold gD at h;cases (Prod.mk.inj h).1
  |cons b l=>
   unfold gD at h
   rw [List.length_cons] at hn h
   by_cases hq:b=34
   ·rw [if_pos hq] at h
    have e:l.length=0:=by have:=(Prod.mk.inj (Prod.mk.inj h).2).2;omega
    have el:l= []:=List.eq_nil_of_length_eq_zero e
    subst el
    show nI true (b :: u)=_
    rw [mF,if_pos hq]
    rfl
   ·rw [if_neg hq] at h
    by_cases hb:b=92
    ·rw [if_pos hb] at h
     cases l with
     |nil=>cases (Prod.mk.inj h).1
     |cons c l=>
      by_cases hc:c < 32∨126 < c
      ·simp only [if_pos hc] at h
       cases (Prod.mk.inj h).1
      ·simp only [if_neg hc,Prod.mk.injEq,List.length_cons] at h
       rw [List.length_cons] at hn
       obtain ⟨h1,h2,h3⟩:=h
       have ih:=xC n l (acc ++ [c]) x ak (Prod.ext h1 (Prod.ext h2 (by show _=l.length;omega))) u
       show nI true (b :: c :: (l ++ u))=_
       rw [mF,if_neg hq,if_pos ⟨rfl,hb⟩]
       simp only
       rw [ih,Option.map_map,List.length_cons,List.length_cons]
       congr 1
    ·rw [if_neg hb] at h
     by_cases hc:b < 32∨126 < b
     ·rw [if_pos hc] at h
      cases (Prod.mk.inj h).1
     ·rw [if_neg hc] at h
      simp only [Prod.mk.injEq] at h
      obtain ⟨h1,h2,h3⟩:=h
      have ih:=xC n l (acc ++ [b]) x ak (Prod.ext h1 (Prod.ext h2 (by show _=l.length;omega))) u
      show nI true (b :: (l ++ u))=_
      rw [mF,if_neg hq,if_neg (fun e=>hb e.2),if_neg (fun e=>by cases e.1),ih,Option.map_map,List.length_cons]
      congr 1
theorem Cx:∀ (l:List UInt8) (d:Bool),lu d l=true→∀ b,b∈l→b=46∨gV b=true
 | [],_,_,b,hb=>by cases hb
 |c :: l,d,h,b,hb=>by
  unfold lu at h
  by_cases h46:c=46
  ·rw [if_pos h46] at h
   by_cases hd:d=true
   ·rw [if_pos hd] at h;cases h
   ·rw [if_neg hd] at h
    rcases List.mem_cons.mp hb with rfl|hb
    ·exact .inl h46
    ·exact Cx l true h b hb
  ·rw [if_neg h46] at h
   by_cases ha:gV c=true
   ·rw [if_pos ha] at h
    rcases List.mem_cons.mp hb with rfl|hb
    ·exact .inr ha
    ·exact Cx l false h b hb
   ·rw [if_neg ha] at h;cases h
theorem Px (b:UInt8):gV b=true→b≠34∧b≠62:=fy (Q:=fun b=>gV b=true→b≠34∧b≠62) fk b
theorem K7 {w:List UInt8} {X:ByteArray} (h:dn w=(true,X,w.length)):Passes w:=by
 unfold dn at h
 by_cases hq:bX 34 w=true
 ·obtain ⟨q,rfl⟩:=kT hq
  rw [if_pos hq,List.drop_one,List.tail_cons,List.length_cons] at h
  obtain ⟨h1,h2⟩:=Prod.mk.inj h
  obtain ⟨h2,h3⟩:=Prod.mk.inj h2
  intro u
  have e:=xC _ q [] (gD q []).2.1 (Nat.lt_succ_self _) (Prod.ext h1 (Prod.ext rfl (by show _=q.length;omega))) u
  show nI false (34 :: (q ++ u))=_
  rw [mF,if_pos rfl,show (!false)=true from rfl,e,Option.map_map]
  rfl
 ·rw [if_neg hq] at h
  obtain ⟨h1,h2⟩:=Prod.mk.inj h
  obtain ⟨h2,h3⟩:=Prod.mk.inj h2
  have hp:lu true w=true:=by rw [Bw _ w (Nat.lt_succ_self _)];exact decide_eq_true (Prod.ext h1 h3)
  refine nX w fun b hb=>?_
  rcases Cx w true hp b hb with rfl|ha
  ·decide
  ·exact Px b ha
theorem Gu {d:List UInt8} (h:kC d=true):∀ b,b∈d→b≠34∧b≠62:=fun b hb=>
 ⟨fun e=>vK h 34 fk bh (e ▸ hb),fun e=>vK h 62 fk bh (e ▸ hb)⟩
theorem Pt.passes {t lo dom:List UInt8} {lit:Bool} {w d:List UInt8} (B:Pt t lo dom lit w d):Passes t:=by
 obtain ⟨rfl,lw,dd⟩:=B
 refine (K7 lw).append ((vM 64 bh bh).append (b:=d) ?_)
 rcases dd with ⟨rfl,x,rfl,hx,rfl⟩|⟨rfl,hf,rfl⟩
 ·refine nX _ fun b hb=>?_
  rcases List.mem_cons.mp hb with rfl|hb
  ·decide
  ·rcases List.mem_append.mp hb with hb|hb
   ·have:=Ip x hx b hb
    unfold zT at this
    simp only [Bool.and_eq_true,bne_iff_ne] at this
    exact ⟨this.2.2,this.2.1⟩
   ·rw [List.mem_singleton.mp hb]
    decide
 ·exact nX _ (Gu hf)
theorem xD:∀ xs:List (List UInt8),(∀ x,x∈xs→kC x=true)→∀ b,b∈dG xs→(b≠34∧b≠62)∧b≠58
 | [],_,b,hb=>by cases hb
 |x :: xs,h,b,hb=>by
  have hx:=h x (List.mem_cons_self ..)
  have h1:∀ b,b∈x→(b≠34∧b≠62)∧b≠58:=fun b hb=>⟨Gu hx b hb,fun e=>vK hx 58 fk bh (e ▸ hb)⟩
  by_cases hxs:xs= []
  ·subst hxs
   rcases List.mem_cons.mp (show b∈64 :: x from hb) with rfl|hb
   ·decide
   ·exact h1 b hb
  ·rw [mL x hxs] at hb
   rcases List.mem_cons.mp hb with rfl|hb
   ·decide
   ·rcases List.mem_append.mp hb with hb|hb
    ·exact h1 b hb
    ·rcases List.mem_cons.mp hb with rfl|hb
     ·decide
     ·exact xD xs (fun y hy=>h y (List.mem_cons_of_mem _ hy)) b hb
def xE:List UInt8:=[112,111,115,116,109,97,115,116,101,114]
def rB (c:UInt8):List UInt8→Option (List UInt8×List UInt8)
 | []=>none
 |b :: l=>if b=c then some ([],l) else (rB c l).map fun p=>(b :: p.1,p.2)
theorem uv (c:UInt8):∀ l:List UInt8,c ∉ l→rB c l=none
 | [],_ =>rfl
 |b :: l,h=>by
  unfold rB
  rw [if_neg (show ¬ b=c from fun e=>h Av),uv c l (fun hm=>h (List.mem_cons_of_mem _ hm))]
  rfl
theorem qM (c:UInt8) (r:List UInt8):∀ w:List UInt8,c ∉ w→rB c (w ++ c :: r)=some (w,r)
 | [],_ =>by
   show rB c (c :: r)=_
   unfold rB
   rw [if_pos rfl]
 |b :: w,h=>by
  rw [List.cons_append]
  unfold rB
  rw [if_neg (show ¬ b=c from fun e=>h Av),qM c r w (fun hm=>h (List.mem_cons_of_mem _ hm))]
  rfl
abbrev InR:=List (List UInt8)×List UInt8×List UInt8×Bool
def vN (t:List UInt8):Option InR:=
 if bX 64 t=true then (rB 58 t).bind fun p=>(yQ p.1).bind fun xs=>(l7 p.2).bind fun m=>some (xs,m.1,m.2.1,m.2.2)
 else (l7 t).bind fun m=>some ([],m.1,m.2.1,m.2.2)
def om (xs:List (List UInt8)):List (List UInt8):=xs.map fun x=>x.map eX
theorem Uj (b:UInt8):eX b∈xE→b≠64∧b≠34∧b≠62:=fy (Q:=fun b=>eX b∈xE→b≠64∧b≠34∧b≠62) fk b
theorem zW {t:List UInt8} (h:t.map eX=xE) {b:UInt8} (hb:b∈t):b≠64∧b≠34∧b≠62:=Uj b (by rw [← h];exact List.mem_map_of_mem hb)
theorem Py {t u:List UInt8} (h:t.map eX=xE):gu (t ++ 62 :: u)=true∧t.length=10:=by
 have hl:t.length=10:=by
  have:=congrArg List.length h
  rwa [List.length_map] at this
 refine ⟨?_,hl⟩
 unfold gu
 rw [qx (a:=t) rfl hl.symm,lN,h]
 have e:(t ++ 62 :: u).drop 10=62 :: u:=by rw [← hl,List.drop_left]
 rw [e,decide_eq_true (by rw [List.length_append,List.length_cons];omega),tlm]
 rfl
theorem Uk {r:List UInt8} (h:gu r=true):(r.take 10).map eX=xE∧bX 62 (r.drop 10)=true:=by
 unfold gu at h
 simp only [Bool.and_eq_true,decide_eq_true_eq,beq_iff_eq] at h
 obtain ⟨⟨h1,h2⟩,h3⟩:=h
 rw [lN,tlm] at h2
 exact ⟨h2,h3⟩
theorem X9 (u:List UInt8):mJ iI (62 :: u):=pH 62 fk u
theorem Db {t:List UInt8} {xs:List (List UInt8)} {lo dom:List UInt8} {lit:Bool} (h:vN t=some (xs,lo,dom,lit)) (u:List UInt8):
 eK (t ++ 62 :: u)=(true,(om xs).map au,au lo,au dom,lit,t.length)∧gu (t ++ 62 :: u)=false∧Passes t∧t≠ []∧(64:UInt8)∈t:=by
 unfold vN at h
 by_cases h64:bX 64 t=true
 ·rw [if_pos h64] at h
  obtain ⟨⟨R,b⟩,h1,h⟩:=Option.bind_eq_some_iff.mp h
  obtain ⟨ys,h2,h⟩:=Option.bind_eq_some_iff.mp h
  obtain ⟨m,h3,h⟩:=Option.bind_eq_some_iff.mp h
  have h:=Option.some.inj h
  simp only [Prod.mk.injEq] at h
  obtain ⟨rfl,rfl,rfl,rfl⟩:=h
  obtain ⟨y1,y2,rfl⟩:=(Bz R ys).mp h2
  obtain ⟨w,d,B⟩:=(tX b m.1 m.2.1 m.2.2).mp h3
  have ht:t=dG ys ++ 58 :: b:=by
   rcases uG 58 t with hn|⟨w2,r2,rfl,hw2⟩
   ·rw [uv 58 t hn] at h1;cases h1
   ·rw [qM 58 r2 w2 hw2] at h1
    have:=Option.some.inj h1
    rw [(Prod.mk.inj this).1,(Prod.mk.inj this).2]
  subst ht
  have hal:gu (dG ys ++ 58 :: b ++ 62 :: u)=false:=by
   obtain ⟨l,hl⟩:=tU ys y1
   rw [hl]
   exact MO _
  have hnx:bX 64 (dG ys ++ 58 :: b ++ 62 :: u)=true:=by
   obtain ⟨l,hl⟩:=tU ys y1
   rw [hl]
   rfl
  have e0:dG ys ++ 58 :: b ++ 62 :: u=dG ys ++ 58 :: (b ++ 62 :: u):=by simp
  refine ⟨?_,hal,?_,bw,?_⟩
  ·unfold eK
   rw [if_neg (by rw [hal];decide),if_pos hnx,e0,Da (b ++ 62 :: u) ys y1 y2]
   simp only [if_true]
   have e1:(dG ys ++ 58 :: (b ++ 62 :: u)).drop (dG ys).length=58 :: (b ++ 62 :: u):=List.drop_left
   have e2:(dG ys ++ 58 :: (b ++ 62 :: u)).drop ((dG ys).length + 1)=b ++ 62 :: u:=by rw [← List.drop_drop,e1];rfl
   rw [e1,if_pos (show bX 58 (58 :: (b ++ 62 :: u))=true from rfl),e2,Cw B (X9 u) rfl]
   simp only
   congr 5
   rw [List.length_append,List.length_cons]
   omega
  ·refine (nX _ fun c hc=>(xD ys y2 c hc).1).append ((vM 58 bh bh).append (b:=b) B.passes)
  ·rw [B.tx]
   simp
 ·rw [if_neg h64] at h
  obtain ⟨m,h3,h⟩:=Option.bind_eq_some_iff.mp h
  have h:=Option.some.inj h
  simp only [Prod.mk.injEq] at h
  obtain ⟨rfl,rfl,rfl,rfl⟩:=h
  obtain ⟨w,d,B⟩:=(tX t m.1 m.2.1 m.2.2).mp h3
  have hb:=Cw B (X9 u) rfl
  have hne:t≠ []:=by rw [B.tx];simp
  have hal:gu (t ++ 62 :: u)=false:=by
   cases ha:gu (t ++ 62 :: u) with
   |false=>rfl
   |true=>
    have:=Ig _ ha
    rw [hb] at this
    cases this
  have hnx: ¬ bX 64 (t ++ 62 :: u)=true:=by
   cases t with
   |nil=>exact absurd rfl hne
   |cons c t=>exact h64
  refine ⟨?_,hal,B.passes,hne,by rw [B.tx];simp⟩
  unfold eK
  rw [if_neg (by rw [hal];decide),if_neg hnx,hb]
  rfl
theorem Pz (r:List UInt8) (hl:r.length < 4294967281) (h:(eK r).1=true) (ha:gu r=false):∃ xs lo dom lit,vN (r.take (eK r).2.2.2.2.2)=some (xs,lo,dom,lit)∧eK r=(true,(om xs).map au,au lo,au dom,lit,(eK r).2.2.2.2.2):=by
 unfold eK at h ⊢
 rw [if_neg (by rw [ha];decide)] at h ⊢
 by_cases h1:bX 64 r=true
 ·rw [if_pos h1] at h ⊢
  by_cases h2:(fW r).1=true
  case neg=>rw [if_neg h2] at h;cases h
  rw [if_pos h2] at h ⊢
  by_cases h3:bX 58 (r.drop (fW r).2.2)=true
  case neg=>rw [if_neg h3] at h;cases h
  rw [if_pos h3] at h ⊢
  obtain ⟨xs,y1,y2,y3,y4,y5⟩:=Gt _ r (Nat.lt_succ_self _) h2
  obtain ⟨b,hb⟩:=kT h3
  have hb1:r.drop ((fW r).2.2 + 1)=b:=by rw [← List.drop_drop,hb];rfl
  rw [hb1] at h ⊢
  have hbl:b.length < 4294967281:=by rw [← hb1,List.length_drop];omega
  obtain ⟨lo,dom,lit,w,d,B,e⟩:=Gs b hbl h
  obtain ⟨n,hn⟩:∃ n,(jV b).2.2.2.2=n:=⟨_,rfl⟩
  rw [hn] at B e
  rw [e]
  simp only
  have hr:r=dG xs ++ 58 :: b:=by
   have e1:=List.take_append_drop (fW r).2.2 r
   rw [y3,hb] at e1
   exact e1.symm
  have hnl:n≤b.length:=by rw [← hn];exact K2 b h
  have ht:r.take ((fW r).2.2 + 1 + n)=dG xs ++ 58 :: b.take n:=by
   refine qx (b:=b.drop n) ?_ ?_
   ·conv=>lhs;rw [hr,← List.take_append_drop n b]
    simp
   ·rw [y5,List.length_append,List.length_cons,List.length_take]
    omega
  refine ⟨xs,lo,dom,lit,?_,by rw [y4];rfl⟩
  rw [ht]
  unfold vN
  have hx:bX 64 (dG xs ++ 58 :: b.take n)=true:=by
   obtain ⟨l,hl⟩:=tU xs y1
   rw [hl]
   rfl
  have h58:(58:UInt8) ∉ dG xs:=fun hm=>(xD xs y2 58 hm).2 rfl
  rw [if_pos hx,qM 58 _ _ h58]
  simp only [Option.bind_some]
  rw [(Bz _ xs).mpr ⟨y1,y2,rfl⟩]
  simp only [Option.bind_some]
  rw [(tX _ lo dom lit).mpr ⟨w,d,B⟩]
  rfl
 ·rw [if_neg h1] at h ⊢
  simp only at h ⊢
  obtain ⟨lo,dom,lit,w,d,B,e⟩:=Gs r hl h
  obtain ⟨n,hn⟩:∃ n,(jV r).2.2.2.2=n:=⟨_,rfl⟩
  rw [hn] at B e ⊢
  refine ⟨[],lo,dom,lit,?_,by rw [e];rfl⟩
  unfold vN
  have hx: ¬ bX 64 (r.take n)=true:=by
   intro hx
   apply h1
   cases r with
   |nil=>rw [List.take_nil] at hx;exact hx
   |cons c r=>
    cases n with
    |zero=>rw [List.take_zero] at hx;cases hx
    |succ n=>rw [List.take_succ_cons] at hx;exact hx
  rw [if_neg hx,(tX _ lo dom lit).mpr ⟨w,d,B⟩]
  rfl
inductive ae2 where
 |bad
 |null
 |alone
 |box (xs:List (List UInt8)) (lo dom:List UInt8) (lit:Bool) (n:Nat)
def oG (l:List UInt8):ae2:=
 match nI false l with
 |none=> .bad
 |some n=>
  if bX 60 l=true∧1≤n then
   (if (l.drop 1).take (n - 1)= [] then .null
   else if ((l.drop 1).take (n - 1)).map eX=xE then .alone
   else match vN ((l.drop 1).take (n - 1)) with
    |none=> .bad
    |some (xs,lo,dom,lit)=> .box xs lo dom lit (n + 1))
  else .bad
theorem Ya:Passes [60]:=vM 60 bh bh
theorem Ul (l:List UInt8) (hl:l.length < 4294967281):
 (oG l= .null∧nN l=true)∨
 (oG l= .alone∧nN l=false∧xu l=true∧gu (l.drop 1)=true)∨
 (∃ xs lo dom lit n,oG l= .box xs lo dom lit (n + 2)∧nN l=false∧xu l=true∧eK (l.drop 1)=(true,(om xs).map au,au lo,au dom,lit,n)∧n + 2≤l.length∧vN ((l.drop 1).take n)=some (xs,lo,dom,lit))∨
 (oG l= .bad∧nN l=false∧xu l=false):=by
 have hend:∀ t u:List UInt8,Passes t→nI false (60 :: (t ++ 62 :: u))=some (t.length + 1):=by
  intro t u hp
  have h1:=(Ya.append hp) (62 :: u)
  have h2:nI false (62 :: u)=some 0:=by
   rw [mF,if_neg bh,if_neg bh,if_pos ⟨rfl,rfl⟩]
  rw [h2] at h1
  show nI false ([60] ++ t ++ 62 :: u)=_
  rw [h1]
  show some (0 + ([60] ++ t).length)=_
  rw [List.length_append,List.length_cons,List.length_nil]
  congr 1
  omega
 cases hs:xu l with
 |true=>
  have hy:=hs
  unfold xu at hy
  simp only [Bool.and_eq_true] at hy
  obtain ⟨⟨y1,y2⟩,y3⟩:=hy
  obtain ⟨r,rfl⟩:=kT y1
  rw [List.drop_one,List.tail_cons] at y2 y3 ⊢
  rw [List.length_cons] at hl
  rw [Nat.add_comm,List.drop_succ_cons] at y3
  have hle:=T6 r y2
  obtain ⟨n,hn⟩:∃ n,(eK r).2.2.2.2.2=n:=⟨_,rfl⟩
  rw [hn] at y3 hle
  obtain ⟨u,hu⟩:=kT y3
  have hr:r=r.take n ++ 62 :: u:=by rw [← hu,List.take_append_drop]
  have htl:(r.take n).length=n:=by rw [List.length_take];omega
  cases ha:gu r with
  |true=>
   obtain ⟨a1,a2⟩:=Uk ha
   have aru:n=10:=by
    rw [← hn]
    unfold eK
    rw [if_pos ha]
   subst aru
   have hp:Passes (r.take 10):=nX _ fun b hb=>(zW a1 hb).2
   have he:=hend (r.take 10) u hp
   rw [← hr,htl] at he
   have MZ:nN (60 :: r)=false:=by
    unfold nN
    rw [List.drop_one,List.tail_cons]
    cases r with
    |nil=>rfl
    |cons b r=>
     have hb:=(zW a1 (b:=b) bw).2.2
     show (60 == 60 && (b == 62))=false
     rw [beq_eq_false_iff_ne.mpr hb]
     rfl
   refine .inr (.inl ⟨?_,MZ,rfl,rfl⟩)
   unfold oG
   rw [he]
   simp only
   rw [if_pos ⟨rfl,ak⟩,List.drop_one,List.tail_cons,show 10 + 1 - 1=10 from rfl,if_neg (fun e=>by rw [e] at htl;cases htl),if_pos a1]
  |false=>
   obtain ⟨xs,lo,dom,lit,h1,h2⟩:=Pz r ak y2 ha
   rw [hn] at h1 h2
   obtain ⟨w1,w2,w3,w4,w5⟩:=Db h1 u
   have he:=hend (r.take n) u w3
   rw [← hr,htl] at he
   have MZ:nN (60 :: r)=false:=by
    unfold nN
    rw [List.drop_one,List.tail_cons]
    cases hx:bX 62 r with
    |false=>simp
    |true=>
     obtain ⟨r2,rfl⟩:=kT hx
     exfalso
     have:nI false (60 :: 62 :: r2)=some 1:=by
      rw [mF,if_neg bh,if_neg bh,if_neg bh,mF,if_neg bh,if_neg bh,if_pos ⟨rfl,rfl⟩]
      rfl
     rw [this] at he
     have hn0:n=0:=by have:=Option.some.inj he;omega
     subst hn0
     exact w4 rfl
   refine .inr (.inr (.inl ⟨xs,lo,dom,lit,n,?_,MZ,rfl,h2,by rw [List.length_cons];have:=congrArg List.length hr;rw [List.length_append,List.length_cons,htl] at this;omega,h1⟩))
   unfold oG
   rw [he]
   simp only
   rw [if_pos ⟨rfl,ak⟩,List.drop_one,List.tail_cons,show n + 1 - 1=n from rfl,if_neg w4,if_neg (fun e=>(zW e w5).1 rfl),h1]
 |false=>
  cases hnl:nN l with
  |true=>
   refine .inl ⟨?_,rfl⟩
   unfold nN at hnl
   simp only [Bool.and_eq_true] at hnl
   obtain ⟨r,rfl⟩:=kT hnl.1
   obtain ⟨r2,hr2⟩:=kT hnl.2
   rw [List.drop_one,List.tail_cons] at hr2
   subst hr2
   have he:nI false (60 :: 62 :: r2)=some 1:=by
    rw [mF,if_neg bh,if_neg bh,if_neg bh,mF,if_neg bh,if_neg bh,if_pos ⟨rfl,rfl⟩]
    rfl
   unfold oG
   rw [he]
   simp only
   rw [if_pos ⟨rfl,ak⟩,if_pos bw]
  |false=>
   refine .inr (.inr (.inr ⟨?_,rfl,rfl⟩))
   unfold oG
   cases he:nI false l with
   |none=>rfl
   |some m=>
    simp only
    by_cases h60:bX 60 l=true∧1≤m
    case neg=>rw [if_neg h60]
    rw [if_pos h60]
    obtain ⟨r,rfl⟩:=kT h60.1
    obtain ⟨t0,u,ht0,abj⟩:=tj _ false _ m (Nat.lt_succ_self _) he
    obtain ⟨t,rfl⟩:∃ t,t0=60 :: t:=by
     cases t0 with
     |nil=>rw [List.length_nil] at abj;omega
     |cons c t=>exact ⟨t,by rw [(List.cons.inj ht0).1]⟩
    have hr:r=t ++ 62 :: u:=(List.cons.inj ht0).2
    subst hr
    rw [List.length_cons] at abj
    have htk:(t ++ 62 :: u).take (m - 1)=t:=qx rfl ak
    rw [List.drop_one,List.tail_cons,htk]
    have abk:∀ X,eK (t ++ 62 :: u)=X→X.1=true→X.2.2.2.2.2=t.length→False:=by
     intro X hX h1 h2
     unfold xu at hs
     rw [List.drop_one,List.tail_cons,hX,h1,h2,Nat.add_comm,List.drop_succ_cons,List.drop_left] at hs
     cases hs
    by_cases hnil:t= []
    ·subst hnil
     cases hnl
    rw [if_neg hnil]
    by_cases hal:t.map eX=xE
    ·exfalso
     obtain ⟨i1,i2⟩:=Py (u:=u) hal
     refine abk (true,[],jz,⟨#[]⟩,false,10) ?_ rfl (by rw [i2])
     unfold eK
     rw [if_pos i1]
    rw [if_neg hal]
    cases hin:vN t with
    |none=>rfl
    |some p=>
     exfalso
     obtain ⟨xs,lo,dom,lit⟩:=p
     exact abk _ (Db hin u).1 rfl rfl
end Go.Proofs.YtokpnfljjjjikaaGreatDoor.jI
namespace Go.Proofs.YtokpnfljjjjikaaGreatDoor.jI
open Go.RowKit Go.Proofs.YtokpnfljjjjikaaGreatDoor Go.Proofs.YtokpnfljjjjikaaGreatDoor.mY Go.Proofs.aj.bO Go.Proofs.aj.cK
abbrev BA:=Bool×List ByteArray×ByteArray×ByteArray×Bool×Int×Int
def qy:BA:=(false,[],⟨#[]⟩,⟨#[]⟩,false,0,150)
def BB:BA:=(true,[],⟨#[]⟩,⟨#[]⟩,false,2,0)
theorem Cy (s:ByteArray):rest s 0=s.data.toList:=rfl
theorem prefix_eq (s:ByteArray) (hs:s.size < 4611686018427387904):strings_HasPrefix.f s ⟨#[60,62]⟩=some (nN s.data.toList):=by
 have hlen:=gw s
 unfold strings_HasPrefix.f stringslite_HasPrefix.f
 have h2:((⟨#[60,62]⟩:ByteArray).size:Int)=2:=rfl
 rw [h2]
 by_cases h: 2≤s.size
 ·rw [if_pos ak,if_pos ak,if_pos ak]
  simp only [Option.bind_some]
  congr 1
  have e:s.extract 0 ((2:Int)).toNat=au (s.data.toList.take 2):=by
   have:=lq s 0 2 ak
   simpa [Cy] using this
  rw [e,ByteArray.toList_eq,ByteArray.toList_eq]
  show (s.data.toList.take 2 == [60,62])=_
  unfold nN
  rcases hl:s.data.toList with _|⟨a,_|⟨b,l⟩⟩
  ·rw [hl] at hlen;simp at hlen;omega
  ·rw [hl] at hlen;simp at hlen;omega
  ·show ([a,b] == [60,62])=((a == 60) && (b == 62))
   simp [BEq.beq,List.beq]
 ·rw [if_neg ak]
  simp only [Option.bind_some]
  congr 1
  unfold nN
  rcases hl:s.data.toList with _|⟨a,_|⟨b,l⟩⟩
  ·rfl
  ·show false=((a == 60) && false)
   rw [Bool.and_false]
  ·rw [hl] at hlen;simp at hlen;omega
theorem PA (k:Nat) (hk: 0 < k) (s:ByteArray) (q:Int) (a:Bool) (b:List ByteArray) (c d:ByteArray) (e:Bool):bZ.j0 k true s q a b c d e=some qy:=by
 obtain ⟨k,rfl⟩:∃ k',k=k' + 1:=⟨k - 1,ak⟩
 rw [bZ.j0,if_pos rfl]
 rfl
theorem tq (s:ByteArray) (hs:s.size < 4294967281) (k:Nat) (h:nN s.data.toList=true):bZ.f k s=some BB:=by
 unfold bZ.f
 rw [prefix_eq s ak]
 simp only [Option.bind_some]
 rw [if_pos h]
 rfl
theorem sx (s:ByteArray) (hs:s.size < 4294967281) (k:Nat) (hk:s.size + 6 < k) (h0:nN s.data.toList=false) (h:xu s.data.toList=true):
 bZ.f k s=bZ.j0 k false s ((2 + (eK (s.data.toList.drop 1)).2.2.2.2.2:Nat):Int) false (eK (s.data.toList.drop 1)).2.1 (eK (s.data.toList.drop 1)).2.2.1 (eK (s.data.toList.drop 1)).2.2.2.1 (eK (s.data.toList.drop 1)).2.2.2.2.1:=by
 unfold xu at h
 simp only [Bool.and_eq_true] at h
 obtain ⟨⟨h1,h2⟩,h3⟩:=h
 have hpos:=oM h1
 rw [gw] at hpos
 unfold bZ.f
 rw [prefix_eq s ak]
 simp only [Option.bind_some]
 rw [if_neg (by rw [h0];decide)]
 rw [show (0:Int)=((0:Nat):Int) from rfl,nV s 0 60 60 rfl ak,Cy,if_pos h1]
 simp only [Option.bind_some,Nat.zero_add]
 have hr1:rest s 1=s.data.toList.drop 1:=rfl
 rw [inner_eq s hs k 1 pN ak,hr1]
 simp only [Option.bind_some]
 rw [if_pos h1,if_pos h2,nV s _ 62 62 rfl ak]
 have hr2:rest s (1 + (eK (s.data.toList.drop 1)).2.2.2.2.2)=s.data.toList.drop (1 + (eK (s.data.toList.drop 1)).2.2.2.2.2):=rfl
 rw [hr2,h3]
 simp only [Option.bind_some,if_true,Bool.not_true]
 rw [show 1 + (eK (s.data.toList.drop 1)).2.2.2.2.2 + 1=2 + (eK (s.data.toList.drop 1)).2.2.2.2.2 from by omega]
theorem Cz (s:ByteArray) (hs:s.size < 4294967281) (k:Nat) (hk:s.size + 6 < k) (h:∀ n,¬ K3 s.data.toList n):bZ.f k s=some qy:=by
 have h0:nN s.data.toList=false:=by
  cases hn:nN s.data.toList with
  |false=>rfl
  |true=>exact absurd (.inl ⟨hn,rfl⟩) (h 2)
 have hs0: ¬ xu s.data.toList=true:=fun hy=>h _ (.inr ⟨h0,hy,rfl⟩)
 unfold bZ.f
 rw [prefix_eq s ak]
 simp only [Option.bind_some]
 rw [if_neg (by rw [h0];decide)]
 rw [show (0:Int)=((0:Nat):Int) from rfl,nV s 0 60 60 rfl ak,Cy]
 simp only [Option.bind_some]
 by_cases h1:bX 60 s.data.toList=true
 ·have hpos:=oM h1
  rw [gw] at hpos
  have hr1:rest s 1=s.data.toList.drop 1:=rfl
  rw [if_pos h1]
  simp only [Nat.zero_add]
  rw [inner_eq s hs k 1 pN ak,hr1]
  simp only [Option.bind_some]
  rw [if_pos h1]
  by_cases h2:(eK (s.data.toList.drop 1)).1=true
  ·rw [if_pos h2,nV s _ 62 62 rfl ak]
   simp only [Option.bind_some]
   have hr2:rest s (1 + (eK (s.data.toList.drop 1)).2.2.2.2.2)=s.data.toList.drop (1 + (eK (s.data.toList.drop 1)).2.2.2.2.2):=rfl
   have h3:bX 62 (rest s (1 + (eK (s.data.toList.drop 1)).2.2.2.2.2))=false:=by
    rw [hr2]
    cases h3:bX 62 (s.data.toList.drop (1 + (eK (s.data.toList.drop 1)).2.2.2.2.2)) with
    |false=>rfl
    |true=>exact absurd (by unfold xu;rw [h1,h2,h3];rfl) hs0
   rw [h3]
   exact PA k ak _ _ _ _ _ _ _
  ·rw [if_neg h2]
   exact PA k ak _ _ _ _ _ _ _
 ·rw [if_neg h1]
  rw [inner_eq s hs k 0 pN ak]
  simp only [Option.bind_some]
  rw [if_neg h1]
  exact PA k ak _ _ _ _ _ _ _
theorem M3 (b:List ByteArray) (c d c2 d2:ByteArray) (a e a2 e2:Bool):∀ (k i:Nat),b.length - i < k→i≤b.length→b.length < 4611686018427387904→br.l0 k (b.length:Int) (i:Int) a b c d e a2 b c2 d2 e2=some true
 | 0,_,h,_,_ =>absurd h (Nat.not_lt_zero _)
 |k + 1,i,h,hi,hl=>by
  unfold br.l0
  by_cases hlt:i < b.length
  ·rw [if_pos ak,if_pos ak,if_pos ak,if_pos ak,if_pos rfl,jE i ak]
   exact M3 b c d c2 d2 a e a2 e2 k (i + 1) ak ak hl
  ·rw [if_neg ak]
theorem Um (a:Bool) (b:List ByteArray) (c d:ByteArray) (e:Bool) (k:Nat) (hk:b.length + 2 < k) (hl:b.length < 4611686018427387904):br.f k a b c d e a b c d e=some true:=by
 unfold br.f
 obtain ⟨k,rfl⟩:∃ k',k=k' + 1:=⟨k - 1,ak⟩
 rw [if_neg bw,if_neg bw,br.j0,if_neg bw]
 exact M3 b c d c d a e a e k 0 ak (Nat.zero_le _) hl
theorem PB:cr.f 100=some true:=by decide +kernel
theorem zX (k:Nat) (hk: 100≤k):cr.f k=some true:=xV (fun k=>cr.mono k) hk PB
theorem M4 (s:ByteArray) (hs:s.size < 4294967281) (k:Nat) (hk:s.size + 6 < k) {a:Bool} {b:List ByteArray} {c d:ByteArray} {e:Bool} {q z:Int} (h:bZ.f k s=some (a,b,c,d,e,q,z)):b.length≤s.size + 1:=by
 by_cases hn:∃ n,K3 s.data.toList n
 ·obtain ⟨n,⟨h1,_⟩|⟨h0,h1,_⟩⟩:=hn
  ·rw [tq s hs k h1] at h
   simp only [BB,Option.some.injEq,Prod.mk.injEq] at h
   rw [← h.2.1]
   exact Nat.zero_le _
  ·rw [sx s hs k hk h0 h1] at h
   obtain ⟨h3,_,_⟩:=xq (s.data.toList.drop 1)
   rw [List.length_drop,gw] at h3
   obtain ⟨k,rfl⟩:∃ k',k=k' + 1:=⟨k - 1,ak⟩
   rw [bZ.j0,if_neg bh] at h
   obtain ⟨w,_,h⟩:=Option.bind_eq_some_iff.mp h
   split at h
   ·split at h
    ·simp only [Option.some.injEq,Prod.mk.injEq] at h
     rw [← h.2.1]
     exact Nat.zero_le _
    ·obtain ⟨w2,_,h⟩:=Option.bind_eq_some_iff.mp h
     split at h
     ·simp only [Option.some.injEq,Prod.mk.injEq] at h
      rw [← h.2.1]
      exact Nat.zero_le _
     ·simp only [Option.some.injEq,Prod.mk.injEq] at h
      rw [← h.2.1]
      omega
   ·simp only [Option.some.injEq,Prod.mk.injEq] at h
    rw [← h.2.1]
    exact Nat.zero_le _
 ·rw [Cz s hs k hk (fun n h=>hn ⟨n,h⟩)] at h
  simp only [qy,Option.some.injEq,Prod.mk.injEq] at h
  rw [← h.2.1]
  exact Nat.zero_le _
end Go.Proofs.YtokpnfljjjjikaaGreatDoor.jI
namespace Go.Proofs.YtokpnfljjjjikaaGreatDoor.jI
open Go.RowKit Go.Proofs.YtokpnfljjjjikaaGreatDoor Go.Proofs.YtokpnfljjjjikaaGreatDoor.mY Go.Proofs.aj.bO Go.Proofs.aj.cK
set_option linter.unusedVariables false
set_option linter.unusedSimpArgs false
def jx (x:ByteArray):Bool:=(fJ.f (x.size + 3) x).getD false
theorem tu (x:ByteArray) (k:Nat) (hk:x.size + 2 < k):fJ.f k x=some (jx x):=by
 obtain ⟨r,hr⟩:=Ph x (x.size + 3) ak
 have h1:jx x=r:=by unfold jx;rw [hr];rfl
 rw [h1]
 exact xV (fun k=>fJ.mono x k) ak hr
theorem PC (x:ByteArray) (h:jx x=true):x.size≤255:=by
 have h1:=tu x (x.size + 3) ak
 rw [h] at h1
 unfold fJ.f at h1
 split at h1
 ·omega
 ·cases h1
theorem Dc {g:ByteArray→Bool} {k0:Nat} {xs:List ByteArray} (hf:∀ y,y∈xs→∀ k,k0≤k→gH.f k y=some (g y)):∀ (k i:Nat),xs.length - i + k0 < k→i≤xs.length→xs.length < 4611686018427387904→
 ∃ r,aR.l0 k xs (xs.length:Int) (i:Int)=some r∧decide (r≥0)=(xs.drop i).any g
 | 0,_,h,_,_ =>absurd h (Nat.not_lt_zero _)
 |k + 1,i,h,hi,hl=>by
  unfold aR.l0
  by_cases hlt:i < xs.length
  ·rw [if_pos ak,if_pos ak,if_pos ak]
   have hrd:cV ByteArray.empty xs (i:Int)=xs[i]:=by simp [cV,hlt]
   have hd:xs.drop i=xs[i] :: xs.drop (i + 1):=List.drop_eq_getElem_cons hlt
   rw [hrd,hf xs[i] (List.getElem_mem hlt) k ak,hd,List.any_cons]
   simp only [Option.bind_some]
   cases hg:g xs[i] with
   |true=>exact ⟨_,if_pos rfl,bw⟩
   |false=>
    rw [if_neg bh,jE i ak]
    obtain ⟨r,h1,h2⟩:=Dc hf k (i + 1) ak ak hl
    exact ⟨r,h1,by rw [h2];rfl⟩
  ·rw [if_neg ak,List.drop_of_length_le ak]
   exact ⟨_,rfl,rfl⟩
theorem BC {g:ByteArray→Bool} {k0:Nat} {xs:List ByteArray} (hf:∀ y,y∈xs→∀ k,k0≤k→gH.f k y=some (g y)) (k:Nat) (hk:xs.length + k0 < k) (hl:xs.length < 4611686018427387904):bJ.f k xs=some (xs.any g):=by
 obtain ⟨r,h1,h2⟩:=Dc hf k 0 ak (Nat.zero_le _) hl
 unfold bJ.f aR.f
 rw [show (0:Int)=((0:Nat):Int) from rfl,h1]
 simp only [Option.bind_some]
 rw [show decide (r≥((0:Nat):Int))=decide (r≥0) from rfl,h2,List.drop_zero]
theorem Dd {g:ByteArray→Bool} {k0:Nat} {xs:List ByteArray} (hf:∀ y,y∈xs→∀ k,k0≤k→lf.f k y=some (g y)):∀ (k i:Nat),xs.length - i + k0 < k→i≤xs.length→xs.length < 4611686018427387904→
 ∃ r,bQ.l0 k xs (xs.length:Int) (i:Int)=some r∧decide (r≥0)=(xs.drop i).any g
 | 0,_,h,_,_ =>absurd h (Nat.not_lt_zero _)
 |k + 1,i,h,hi,hl=>by
  unfold bQ.l0
  by_cases hlt:i < xs.length
  ·rw [if_pos ak,if_pos ak,if_pos ak]
   have hrd:cV ByteArray.empty xs (i:Int)=xs[i]:=by simp [cV,hlt]
   have hd:xs.drop i=xs[i] :: xs.drop (i + 1):=List.drop_eq_getElem_cons hlt
   rw [hrd,hf xs[i] (List.getElem_mem hlt) k ak,hd,List.any_cons]
   simp only [Option.bind_some]
   cases hg:g xs[i] with
   |true=>exact ⟨_,if_pos rfl,bw⟩
   |false=>
    rw [if_neg bh,jE i ak]
    obtain ⟨r,h1,h2⟩:=Dd hf k (i + 1) ak ak hl
    exact ⟨r,h1,by rw [h2];rfl⟩
  ·rw [if_neg ak,List.drop_of_length_le ak]
   exact ⟨_,rfl,rfl⟩
theorem M5 {g:ByteArray→Bool} {k0:Nat} {xs:List ByteArray} (hf:∀ y,y∈xs→∀ k,k0≤k→lf.f k y=some (g y)) (k:Nat) (hk:xs.length + k0 < k) (hl:xs.length < 4611686018427387904):cM.f k xs=some (xs.any g):=by
 obtain ⟨r,h1,h2⟩:=Dd hf k 0 ak (Nat.zero_le _) hl
 unfold cM.f bQ.f
 rw [show (0:Int)=((0:Nat):Int) from rfl,h1]
 simp only [Option.bind_some]
 rw [show decide (r≥((0:Nat):Int))=decide (r≥0) from rfl,h2,List.drop_zero]
structure Fits (ds:List (List UInt8)) (lo dom:List UInt8) (lit:Bool):Prop where
 los:lo.length≤64
 doms:lit=false→jx (au dom)=true
 many:ds.length≤20
 each:∀ d,d∈ds→jx (au d)=true
theorem pJ (lo dom:List UInt8) (lit:Bool) (k:Nat) (hk:dom.length + 2 < k):eD.f k (au lo) (au dom) lit=some (decide (lo.length≤64) && (lit || jx (au dom))):=by
 unfold eD.f
 rw [bN]
 by_cases h:lo.length≤64
 ·rw [if_pos ak,decide_eq_true h,Bool.true_and]
  cases lit with
  |true=>rfl
  |false=>
   rw [if_neg bh,tu _ k (by rw [bN];exact hk)]
   rfl
 ·rw [if_neg ak,decide_eq_false h]
  rfl
theorem CC (y:ByteArray) (k:Nat) (hk:y.size + 2 < k):gH.f k y=some (!jx y):=by
 unfold gH.f
 rw [tu y k hk]
 rfl
theorem aj0 (k:Nat) (s:ByteArray) (q:Int) (ds:List (List UInt8)) (lo dom:List UInt8) (lit:Bool) (M:Nat) (hM:∀ d,d∈ds→d.length≤M) (hd:dom.length≤M) (hk:ds.length + M + 5 < k) (hl:ds.length < 4611686018427387904):
 (Fits ds lo dom lit∧bZ.j0 k false s q false (ds.map au) (au lo) (au dom) lit=some (false,ds.map au,au lo,au dom,lit,q,0))∨bZ.j0 k false s q false (ds.map au) (au lo) (au dom) lit=some (false,[],⟨#[]⟩,⟨#[]⟩,false,0,3):=by
 obtain ⟨k,rfl⟩:∃ k',k=k' + 1:=⟨k - 1,ak⟩
 rw [bZ.j0,if_neg bh,pJ lo dom lit k ak]
 simp only [Option.bind_some]
 by_cases hw:(decide (lo.length≤64) && (lit || jx (au dom)))=true
 ·rw [if_pos hw,List.length_map]
  by_cases h20:ds.length≤20
  ·rw [if_neg ak]
   rw [BC (g:=fun y=>!jx y) (k0:=M + 3) (fun y hy k hk=>by
    obtain ⟨d,hd',rfl⟩:=List.mem_map.mp hy
    have:=hM d hd'
    exact CC _ k fZ) k jX (by rw [List.length_map];exact hl)]
   simp only [Option.bind_some]
   by_cases ha:((ds.map au).any fun y=>!jx y)=true
   ·rw [if_pos ha]
    exact .inr rfl
   ·rw [if_neg ha]
    simp only [Bool.and_eq_true,decide_eq_true_eq,Bool.or_eq_true] at hw
    refine .inl ⟨⟨hw.1,fun e=>?_,h20,fun d hd'=>?_⟩,rfl⟩
    ·rcases hw.2 with h|h
     ·rw [e] at h;cases h
     ·exact h
    ·cases hs:jx (au d) with
     |true=>rfl
     |false=>exact absurd (List.any_eq_true.mpr ⟨au d,List.mem_map_of_mem hd',by rw [hs];rfl⟩) ha
  ·rw [if_pos ak]
   exact .inr rfl
 ·rw [if_neg hw]
  exact .inr rfl
theorem abl (k:Nat) (s:ByteArray) (q:Int) (ds:List (List UInt8)) (lo dom:List UInt8) (lit:Bool) (hf:Fits ds lo dom lit) (M:Nat) (hM:∀ d,d∈ds→d.length≤M) (hd:dom.length≤M) (hk:ds.length + M + 5 < k):
 bZ.j0 k false s q false (ds.map au) (au lo) (au dom) lit=some (false,ds.map au,au lo,au dom,lit,q,0):=by
 have hl:=hf.many
 obtain ⟨k,rfl⟩:∃ k',k=k' + 1:=⟨k - 1,ak⟩
 rw [bZ.j0,if_neg bh,pJ lo dom lit k ak]
 simp only [Option.bind_some]
 have hw:(decide (lo.length≤64) && (lit || jx (au dom)))=true:=by
  rw [decide_eq_true hf.los,Bool.true_and]
  cases lit with
  |true=>rfl
  |false=>rw [hf.doms rfl];rfl
 rw [if_pos hw,List.length_map,if_neg ak]
 rw [BC (g:=fun y=>!jx y) (k0:=M + 3) (fun y hy k hk=>by
  obtain ⟨d,hd',rfl⟩:=List.mem_map.mp hy
  have:=hM d hd'
  exact CC _ k fZ) k jX jX]
 simp only [Option.bind_some]
 rw [if_neg]
 intro ha
 obtain ⟨y,hy,h1⟩:=List.any_eq_true.mp ha
 obtain ⟨d,hd',rfl⟩:=List.mem_map.mp hy
 rw [hf.each d hd'] at h1
 cases h1
theorem mX (l:List UInt8):rest (au l) 0=l:=rfl
theorem Un (d:List UInt8) (h:mK d) (hs:jx (au d)=true) (hl:d.length < 4294967281) (k:Nat) (hk:d.length + 3 < k):jk.f k (au d)=some true:=by
 unfold jk.f
 have h1:=domain_eq (au d) fZ k 0 (by rw [mX];omega) (Nat.zero_le _)
 rw [mX] at h1
 have h2:=h.read (t:=[]) (by intro b t' e;cases e) rfl
 rw [List.append_nil] at h2
 rw [h2] at h1
 rw [show (0:Int)=((0:Nat):Int) from rfl,h1]
 simp only [Option.bind_some]
 rw [if_pos trivial,if_pos fZ,tu _ k fZ,hs]
 rfl
theorem S9 (d:List UInt8) (h:d.map eX=d) (hl:d.length < 4294967281):cS.f (au d)=some (au d):=by
 unfold cS.f
 rw [if_pos fZ,lN,h]
theorem toList_mk (l:List UInt8):(au l).toList=l:=ByteArray.toList_eq ..
theorem Ta (d:List UInt8) (h:mK d) (hs:jx (au d)=true) (hl:d.length < 4294967281) (k:Nat) (hk:d.length + 3 < k):mE.f k (au d)=some true:=by
 unfold mE.f
 rw [Un d h hs hl k hk]
 simp only [Option.bind_some]
 rw [if_pos trivial,S9 d h.2 hl]
 simp
theorem abm (l:List UInt8) (i:Nat) (hi:i < l.length) (h:∀ b,b∈l→yV b): ¬ bt (au l) (i:Int) < 32∧¬ bt (au l) (i:Int) > 126:=by
 have e:=rN l i hi
 have hf:yV (l.getD i 0):=h _ (by
  rw [List.getD_eq_getElem?_getD,List.getElem?_eq_getElem hi]
  exact List.getElem_mem hi)
 rw [e]
 refine ⟨fun h1=>hf (.inl (F9.mp h1)),fun h1=>hf (.inr (xm.mp h1))⟩
theorem Iq {ds:List (List UInt8)} {lo dom:List UInt8} {lit:Bool} (h:vX lo dom lit) (hf:Fits ds lo dom lit) (hl:dom.length < 4294967281):∀ (k i:Nat),lo.length - i + dom.length + 6 < k→i≤lo.length→
 dN.l0 k (lo.length:Int) (i:Int) (au lo) (au dom) lit=some true
 | 0,_,h,_ =>absurd h (Nat.not_lt_zero _)
 |k + 1,i,hk,hi=>by
  have h64:=hf.los
  unfold dN.l0
  by_cases hlt:i < lo.length
  ·obtain ⟨b1,b2⟩:=abm lo i hlt h.los
   rw [if_pos ak,if_pos ak,if_pos fZ,if_neg b1,if_neg b2,jE i ak]
   exact Iq h hf hl k (i + 1) ak ak
  ·rw [if_neg ak]
   cases lit with
   |true=>
    obtain ⟨w1,w2,w3⟩:=h.words rfl
    rw [if_pos rfl,pJ lo dom true k ak,decide_eq_true h64]
    simp only [Option.bind_some,Bool.true_or,Bool.true_and,if_true]
    rw [vH dom hl k ak,← yP dom hl,w1]
    simp only [Option.bind_some,if_true]
    rw [S9 dom w3 hl]
    simp
   |false=>
    rw [if_neg bh,pJ lo dom false k ak,decide_eq_true h64,hf.doms rfl]
    simp only [Option.bind_some,Bool.or_true,Bool.true_and,if_true,Bool.false_or]
    rw [Ta dom (h.doms rfl) (hf.doms rfl) hl k ak]
    rfl
theorem M6 {ds:List (List UInt8)} {lo dom:List UInt8} {lit:Bool} (h:vX lo dom lit) (hf:Fits ds lo dom lit) (hl:dom.length < 4294967281) (k:Nat) (hk:dom.length + 80 < k):dN.f k (au lo) (au dom) lit=some true:=by
 have h64:=hf.los
 unfold dN.f
 rw [bN]
 exact Iq h hf hl k 0 ak (Nat.zero_le _)
theorem Gv {ds:List (List UInt8)} {lo dom:List UInt8} {lit:Bool} (hds:∀ d,d∈ds→mK d) (h:vX lo dom lit) (hf:Fits ds lo dom lit) (hne:dom≠ []) (M:Nat) (hM:∀ d,d∈ds→d.length≤M) (hd:dom.length≤M) (hl:M < 4294967281) (k:Nat) (hk:M + 110 < k):
 gq.f k false (ds.map au) (au lo) (au dom) lit=some true:=by
 have h20:=hf.many
 unfold gq.f
 rw [if_neg bh,toList_mk,toList_mk]
 rw [if_neg (by
  simp only [Bool.and_eq_true,beq_iff_eq]
  rintro ⟨_,e,_⟩
  exact hne e)]
 rw [M6 h hf ak k ak]
 simp only [Option.bind_some,if_true,List.length_map]
 rw [if_pos ak]
 rw [M5 (g:=fun _ =>false) (k0:=M + 4) (fun y hy k hk=>by
  obtain ⟨d,hd',rfl⟩:=List.mem_map.mp hy
  have:=hM d hd'
  unfold lf.f
  rw [Ta d (hds d hd') (hf.each d hd') ak k ak]
  rfl) k jX jX]
 simp
theorem iL (a b:List UInt8):au a ++ au b=au (a ++ b):=by
 apply ByteArray.ext
 rw [← Array.toList_inj]
 simp [au]
theorem Uo (l:List UInt8):zF (au l)=au (qL l):=by
 have e:lM (bytesOf (au l))=jw (qL l):=by
  rw [xA]
  induction l with
  |nil=>rfl
  |cons b l ih=>
   have e1:qL (b :: l)=qB b ++ qL l:=rfl
   rw [e1,List.map_cons]
   show uo (b.toNat:Int) ++ lM (l.map fun b=>(b.toNat:Int))=jw (qB b ++ qL l)
   rw [ih]
   unfold jw
   rw [List.map_append]
   congr 1
   exact fy (Q:=fun b=>uo (b.toNat:Int)=(qB b).map fun b=>(b.toNat:Int)) fk b
 unfold zF
 rw [e,Bt]
theorem Tb (lo dom:List UInt8) (lit:Bool) (l:List UInt8):Yz (au l) (au dom) lit=au (l ++ (if lit=true then 64 :: 91 :: (dom ++ [93]) else 64 :: dom)):=by
 unfold Yz
 cases lit with
 |true=>
  rw [if_pos rfl,if_pos rfl]
  show ((au l ++ au [64,91]) ++ au dom) ++ au [93]=_
  rw [iL,iL,iL]
  simp
 |false=>
  rw [if_neg bh,if_neg bh]
  show (au l ++ au [64]) ++ au dom=_
  rw [iL,iL]
  simp
theorem De {ds:List (List UInt8)} {lo dom:List UInt8} {lit:Bool} (h:vX lo dom lit) (hf:Fits ds lo dom lit) (hl:dom.length < 4294967281) (k:Nat) (hk:dom.length + 80 < k):gP.f k (au lo) (au dom) lit=some (au (gL lo dom lit),0):=by
 have h64:=hf.los
 unfold gP.f
 rw [M6 h hf hl k hk]
 simp only [Option.bind_some,if_true]
 unfold aW.f
 have h1:=Co (au lo) fZ k 0 (by rw [mX];omega) (Nat.zero_le _)
 rw [mX] at h1
 rw [show (0:Int)=((0:Nat):Int) from rfl,h1]
 simp only [Option.bind_some]
 rw [if_pos ⟨fZ,fZ⟩]
 congr 2
 unfold gL oN xy
 by_cases hp:((eJ gJ 46 lo).1 && (eJ gJ 46 lo).2 == lo.length)=true
 ·rw [if_pos hp,if_pos (by
   simp only [Bool.and_eq_true,beq_iff_eq] at hp
   exact ⟨hp.1,by rw [bN,hp.2];simp⟩),Tb lo]
 ·rw [if_neg hp,if_neg (by
   intro h2
   apply hp
   simp only [Bool.and_eq_true,beq_iff_eq]
   refine ⟨h2.1,?_⟩
   have:=h2.2
   rw [bN] at this
   omega)]
  have e:DR (au lo)=au (34 :: (qL lo ++ [34])):=by
   unfold DR
   rw [Uo]
   show (au [34] ++ au (qL lo)) ++ au [34]=_
   rw [iL,iL]
   simp
  rw [e,Tb lo]
theorem Gw:∀ (d:List UInt8) (ds:List (List UInt8)),64 :: Lib.join (d :: ds) [44,64]=dG (d :: ds)
 |d,[]=>by simp [Lib.join,dG,List.intercalate]
 |d,d2 :: ds=>by
  have ih:=Gw d2 ds
  have e:Lib.join (d :: d2 :: ds) [44,64]=d ++ 44 :: 64 :: Lib.join (d2 :: ds) [44,64]:=by
   unfold Lib.join
   simp [List.intercalate,List.intersperse]
  rw [e,ih]
  rfl
theorem Yb (d:List UInt8) (ds:List (List UInt8)):(⟨#[64]⟩:ByteArray) ++ joinL ((d :: ds).map au) ⟨#[44,64]⟩=au (dG (d :: ds)):=by
 have e:joinL ((d :: ds).map au) ⟨#[44,64]⟩=au (Lib.join (d :: ds) [44,64]):=by
  unfold joinL
  rw [List.map_map]
  have:((fun x:ByteArray=>x.data.toList) ∘au)=id:=by
   funext l
   simp [au]
  rw [this,List.map_id]
  rfl
 rw [e]
 show au [64] ++ _=_
 rw [iL]
 exact congrArg au (Gw d ds)
theorem M7 {ds:List (List UInt8)} {lo dom:List UInt8} {lit:Bool} (hds:∀ d,d∈ds→mK d) (h:vX lo dom lit) (hf:Fits ds lo dom lit) (hne:dom≠ []) (M:Nat) (hM:∀ d,d∈ds→d.length≤M) (hd:dom.length≤M) (hl:M < 4294967281) (hw:(gv ds lo dom lit).length < 4294967281) (k:Nat) (hk:M + 110 < k):
 jM.f k false (ds.map au) (au lo) (au dom) lit=some (au (60 :: (gv ds lo dom lit ++ [62])),0):=by
 unfold jM.f
 rw [Gv hds h hf hne M hM hd hl k hk]
 simp only [Option.bind_some,if_true]
 rw [if_neg bh,if_neg (by rw [toList_mk];exact hne),De h hf ak k ak]
 simp only [Option.bind_some]
 cases ds with
 |nil=>
  have hw':(gL lo dom lit).length < 4294967281:=hw
  rw [if_neg bw,if_pos fZ]
  have e:(⟨#[60]⟩:ByteArray) ++ au (gL lo dom lit)=au (60 :: gL lo dom lit):=iL [60] _
  rw [e,if_pos (by rw [bN,List.length_cons];omega)]
  have e2:au (60 :: gL lo dom lit) ++ (⟨#[62]⟩:ByteArray)=au (60 :: (gL lo dom lit ++ [62])):=iL (60 :: gL lo dom lit) [62]
  rw [e2]
  rfl
 |cons d ds=>
  have hw':(dG (d :: ds) ++ 58 :: gL lo dom lit).length < 4294967281:=hw
  rw [List.length_append,List.length_cons] at hw'
  have e0:=Yb d ds
  have es: 1 + (joinL ((d :: ds).map au) ⟨#[44,64]⟩).size=(dG (d :: ds)).length:=by
   have:=congrArg ByteArray.size e0
   rw [ByteArray.size_append,bN] at this
   exact this
  rw [if_pos bw]
  unfold strings_Join.f
  have h20:=hf.many
  rw [if_pos ⟨bw,jX,ak⟩]
  simp only [Option.bind_some]
  rw [if_pos ak,e0,if_pos fZ]
  have e1:au (dG (d :: ds)) ++ (⟨#[58]⟩:ByteArray)=au (dG (d :: ds) ++ [58]):=iL _ [58]
  rw [e1,if_pos (by rw [bN,bN,List.length_append];simp;omega),iL]
  have e2:dG (d :: ds) ++ [58] ++ gL lo dom lit=gv (d :: ds) lo dom lit:=by
   show _=dG (d :: ds) ++ 58 :: gL lo dom lit
   simp
  rw [e2,if_pos fZ]
  have e3:(⟨#[60]⟩:ByteArray) ++ au (gv (d :: ds) lo dom lit)=au (60 :: gv (d :: ds) lo dom lit):=iL [60] _
  rw [e3,if_pos (by rw [bN,List.length_cons];omega)]
  have e4:au (60 :: gv (d :: ds) lo dom lit) ++ (⟨#[62]⟩:ByteArray)=au (60 :: (gv (d :: ds) lo dom lit ++ [62])):=iL (60 :: gv (d :: ds) lo dom lit) [62]
  rw [e4]
theorem Gx {ds:List (List UInt8)} {lo dom:List UInt8} {lit:Bool} (hds:∀ d,d∈ds→mK d) (h:vX lo dom lit) (hf:Fits ds lo dom lit) (M:Nat) (hM:∀ d,d∈ds→d.length≤M) (hd:dom.length≤M) (hw:(gv ds lo dom lit).length < 4294960000) (hne:gv ds lo dom lit≠ []) (k:Nat) (hk:M + 110 < k) (hk2:(gv ds lo dom lit).length + 20 < k) (more:List UInt8) (auU:more.length + (gv ds lo dom lit).length < 4294960000) (hk3:more.length + (gv ds lo dom lit).length + 20 < k):
 bZ.f k (au (60 :: (gv ds lo dom lit ++ 62 :: more)))=some (false,ds.map au,au lo,au dom,lit,(((gv ds lo dom lit).length + 2:Nat):Int),0):=by
 have h20:=hf.many
 have hi:=Pq hds h more
 have hdata:(au (60 :: (gv ds lo dom lit ++ 62 :: more))).data.toList=60 :: (gv ds lo dom lit ++ 62 :: more):=rfl
 have hsz:(au (60 :: (gv ds lo dom lit ++ 62 :: more))).size=(gv ds lo dom lit).length + more.length + 2:=by
  rw [bN,List.length_cons,List.length_append,List.length_cons]
  omega
 have hd1:(60 :: (gv ds lo dom lit ++ 62 :: more)).drop 1=gv ds lo dom lit ++ 62 :: more:=rfl
 have MZ:nN (60 :: (gv ds lo dom lit ++ 62 :: more))=false:=by
  unfold nN
  rw [hd1]
  cases hp:gv ds lo dom lit with
  |nil=>exact absurd hp hne
  |cons b l=>
   cases hb:(b == 62) with
   |false=>
    show ((60:UInt8) == 60 && (b == 62))=false
    rw [hb]
    rfl
   |true=>
    exfalso
    have e:b=62:=by simpa using hb
    rw [hp,e] at hi
    have hx:(eK (62 :: (l ++ 62 :: more))).1=true:=by
     have:=congrArg (·.1) hi
     exact this
    revert hx
    have ha:gu (62 :: (l ++ 62 :: more))=false:=by
     cases ha:gu (62 :: (l ++ 62 :: more)) with
     |false=>rfl
     |true=>
      exfalso
      unfold gu at ha
      simp only [Bool.and_eq_true,decide_eq_true_eq] at ha
      have h2:=ha.1.2
      rw [lN,toList_mk,List.take_succ_cons,List.map_cons] at h2
      have h3:eX 62=112:=(List.cons.inj (by simpa using h2:_=([112,111,115,116,109,97,115,116,101,114]:List UInt8))).1
      revert h3
      decide
    have hb1:(jV (62 :: (l ++ 62 :: more))).1=false:=by
     have hlo:(dn (62 :: (l ++ 62 :: more))).1=false:=by
      unfold dn
      rw [if_neg (show ¬ bX 34 (62 :: (l ++ 62 :: more))=true by simp [bX])]
      show (eJ gJ 46 _).1=false
      rw [jN]
      have:(gJ (62 :: (l ++ 62 :: more))).1=false:=by
       unfold gJ
       rw [List.takeWhile_cons_of_neg fk]
       rfl
      rw [this]
      rfl
     unfold jV
     rw [if_neg (by rw [hlo];decide)]
    unfold eK
    rw [if_neg (by rw [ha];decide),if_neg (show ¬ bX 64 (62 :: (l ++ 62 :: more))=true by simp [bX])]
    simp only
    rw [hb1]
    decide
 have abk:xu (60 :: (gv ds lo dom lit ++ 62 :: more))=true:=by
  unfold xu
  rw [hd1,hi]
  simp only
  have e:(60 :: (gv ds lo dom lit ++ 62 :: more)).drop (1 + (gv ds lo dom lit).length)=62 :: more:=by
   rw [Nat.add_comm,List.drop_succ_cons,List.drop_left]
  rw [e]
  rfl
 rw [sx _ ak k ak (by rw [hdata];exact MZ) (by rw [hdata];exact abk)]
 rw [hdata,hd1,hi]
 simp only
 rw [abl k _ _ ds lo dom lit hf M hM hd ak]
 rw [Nat.add_comm 2]
end Go.Proofs.YtokpnfljjjjikaaGreatDoor.jI
namespace Go.Proofs.YtokpnfljjjjikaaGreatDoor.jI
open Go.RowKit Go.Proofs.YtokpnfljjjjikaaGreatDoor Go.Proofs.YtokpnfljjjjikaaGreatDoor.mY Go.Proofs.aj.bO Go.Proofs.aj.cK
set_option linter.unusedVariables false
set_option linter.unusedSimpArgs false
theorem iz {a b:UInt8} (h:(a.toNat:Int)=(b.toNat:Int)):a=b:=UInt8.toNat_inj.mp ak
theorem PD (b:UInt8):(if (65:Int)≤(b.toNat:Int)∧(b.toNat:Int)≤90 then ((b.toNat:Int) + 32) % 256 else (b.toNat:Int))=((eX b).toNat:Int):=
 fy (Q:=fun b=>(if (65:Int)≤(b.toNat:Int)∧(b.toNat:Int)≤90 then ((b.toNat:Int) + 32) % 256 else (b.toNat:Int))=((eX b).toNat:Int)) fk b
theorem Gy (s:ByteArray) (hs:s.size < 4294967281):∀ (k p:Nat) (acc:List UInt8),(rest s p).length < k→p≤s.size→acc.length + (rest s p).length≤s.size→
 aY.l0 k s (jw acc) (p:Int)=some (au (acc ++ (rest s p).map eX))
 | 0,_,_,h,_,_ =>absurd h (Nat.not_lt_zero _)
 |k + 1,p,acc,h,hp,ha=>by
  unfold aY.l0
  have hrl:=fX s p
  cases hr:rest s p with
  |nil=>
   have:=ng hr
   rw [if_neg ak,Bt]
   simp
  |cons b l=>
   obtain ⟨h1,h2,h3⟩:=lH hr
   rw [hr,List.length_cons] at h ha
   have hnl:(jw acc).length < 140737488355328:=by unfold jw;rw [List.length_map];omega
   have ih:=Gy s hs k (p + 1) (acc ++ [eX b]) (by rw [h3];omega) ak (by rw [h3,List.length_append];simp;omega)
   have hn:jw acc ++ [((eX b).toNat:Int)]=jw (acc ++ [eX b]):=by simp [jw]
   have hc:=PD b
   rw [if_pos ak,if_pos ak,h2,jE p ak]
   have fin:aY.l0 k s (jw (acc ++ [eX b])) (((p + 1:Nat):Int))=some (au (acc ++ (b :: l).map eX)):=by
    rw [ih,h3]
    simp
   by_cases c1:(b.toNat:Int)≥65
   ·rw [if_pos c1]
    by_cases c2:(b.toNat:Int)≤90
    ·rw [if_pos ⟨c1,c2⟩] at hc
     rw [if_pos c2,if_pos hnl,hc,hn]
     exact fin
    ·rw [if_neg (fun e=>c2 e.2)] at hc
     rw [if_neg c2,if_pos hnl,hc,hn]
     exact fin
   ·rw [if_neg (fun e=>c1 e.1)] at hc
    rw [if_neg c1,if_pos hnl,hc,hn]
    exact fin
theorem tv (l:List UInt8) (hl:l.length < 4294967281) (k:Nat) (hk:l.length < k):aY.f k (au l)=some (au (l.map eX)):=by
 have:=Gy (au l) uT k 0 [] (by rw [mX];exact hk) (Nat.zero_le _) (by rw [mX,bN];simp)
 rw [mX] at this
 exact this
theorem Yc (b:UInt8):fq.f (b.toNat:Int)=some (iI b && b != 45):=by
 have h2:∀ n,n < 256→fq.f ((n:Nat):Int)=some (iI (UInt8.ofNat n) && (UInt8.ofNat n) != 45):=by decide +kernel
 have:=h2 b.toNat (UInt8.toNat_lt b)
 rwa [UInt8.ofNat_toNat] at this
theorem rd_mk (xs:List (List UInt8)) (i:Nat) (h:i < xs.length):cV ByteArray.empty (xs.map au) (i:Int)=au xs[i]:=by
 unfold cV
 rw [List.getD_eq_getElem?_getD,Int.toNat_natCast,List.getElem?_map,List.getElem?_eq_getElem h]
 rfl
def tA:List (List UInt8)→Nat
 | []=>1
 |p :: ps=>p.length + 3 + tA ps
theorem Uq (xs:List (List UInt8)):tA xs≤3 * (xs.map fun p=>p.length + 1).sum + 1:=by
 induction xs with
 |nil=>simp [tA]
 |cons p ps ih=>
  unfold tA
  rw [List.map_cons,List.sum_cons]
  omega
theorem BD (c:UInt8) (l:List UInt8):tA (pieces c l)≤3 * l.length + 4:=by
 have h1:=Uq (pieces c l)
 rw [zQ] at h1
 omega
theorem Gz {p:List UInt8} {j:Nat} (hj:j < p.length):p.drop j=p[j] :: p.drop (j + 1):=List.drop_eq_getElem_cons hj
theorem M8 (xs:List (List UInt8)) (i:Nat) (p:List UInt8) (hpl:p.length < 4294967281) (K:Nat) (r:Bool) (hK:∀ k,K≤k→aQ.l0 k (xs.map au) (wrap64 ((i:Int) + 1))=some r):
 ∀ (m j:Nat),p.length - j=m→j≤p.length→∀ k,K + m + 1≤k→aQ.l1 k (xs.map au) (i:Int) (au p) (j:Int)=some ((p.drop j).all iI && r)
 | 0,j,hm,hj,k,hk=>by
   obtain ⟨k,rfl⟩:∃ k',k=k' + 1:=⟨k - 1,ak⟩
   unfold aQ.l1
   rw [bN,if_neg ak,hK k ak,List.drop_of_length_le ak]
   rfl
 |m + 1,j,hm,hj,k,hk=>by
  obtain ⟨k,rfl⟩:∃ k',k=k' + 1:=⟨k - 1,ak⟩
  have hlt:j < p.length:=by omega
  have hb:bt (au p) (j:Int)=(p[j].toNat:Int):=by
   rw [rN p j hlt,List.getD_eq_getElem?_getD,List.getElem?_eq_getElem hlt]
   rfl
  have ih:=M8 xs i p hpl K r hK m (j + 1) ak ak k ak
  unfold aQ.l1
  rw [bN,if_pos ak,if_pos ak,hb,Yc,Gz hlt,List.all_cons,jE j ak]
  simp only [Option.bind_some]
  by_cases h45:p[j]=45
  ·have e1:(iI p[j] && p[j] != 45)=false:=by rw [h45];rfl
   have e2:iI p[j]=true:=by rw [h45];decide +kernel
   rw [e1,if_neg bh,if_pos (by rw [h45];rfl),ih,e2,Bool.true_and]
  ·have e1:(p[j] != 45)=true:=bne_iff_ne.mpr h45
   rw [e1,Bool.and_true]
   by_cases hl:iI p[j]=true
   ·rw [if_pos hl,ih,hl,Bool.true_and]
   ·rw [if_neg hl,if_neg (show ¬ (p[j].toNat:Int)=45 from fun e=>h45 (iz (b:=45) e)),Bool.eq_false_iff.mpr hl]
    rfl
theorem Ir (xs:List (List UInt8)) (hx:∀ p,p∈xs→p.length < 4294967281) (hn:xs.length < 4294967290):∀ (m i:Nat),xs.length - i=m→i≤xs.length→∀ k,tA (xs.drop i)≤k→aQ.l0 k (xs.map au) (i:Int)=some ((xs.drop i).all zk)
 | 0,i,hm,hi,k,hk=>by
   rw [List.drop_of_length_le ak] at hk ⊢
   unfold tA at hk
   obtain ⟨k,rfl⟩:∃ k',k=k' + 1:=⟨k - 1,ak⟩
   unfold aQ.l0
   rw [List.length_map,if_neg ak]
   rfl
 |m + 1,i,hm,hi,k,hk=>by
  have hlt:i < xs.length:=by omega
  have hd:xs.drop i=xs[i] :: xs.drop (i + 1):=List.drop_eq_getElem_cons hlt
  rw [hd] at hk ⊢
  unfold tA at hk
  have hpl:=hx _ (List.getElem_mem hlt)
  have hw:=jE i ak
  have hK:∀ k,tA (xs.drop (i + 1))≤k→aQ.l0 k (xs.map au) (wrap64 ((i:Int) + 1))=some ((xs.drop (i + 1)).all zk):=fun k hk=>by
   rw [hw]
   exact Ir xs hx hn m (i + 1) ak ak k hk
  obtain ⟨k,rfl⟩:∃ k',k=k' + 2:=⟨k - 2,ak⟩
  have hrd:=rd_mk xs i hlt
  obtain ⟨p,hp⟩:∃ p,xs[i]=p:=⟨_,rfl⟩
  rw [hp] at hrd hpl hk ⊢
  have hin:=M8 xs i p hpl (tA (xs.drop (i + 1))) _ hK p.length 0 ak (Nat.zero_le _)
  have hj:∀ b,aQ.j1 (k + 1) (xs.map au) (i:Int) (au p) b=if b=true then some false else some (p.all iI && (xs.drop (i + 1)).all zk):=by
   intro b
   unfold aQ.j1
   cases b with
   |true=>rfl
   |false=>
    rw [if_neg bh,if_neg bh]
    have:=hin k ak
    rw [List.drop_zero] at this
    exact this
  unfold aQ.l0
  rw [List.length_map,if_pos ak,if_pos ak,hrd,toList_mk,bN,List.all_cons]
  cases p with
  |nil=>
   rw [if_pos rfl,hj]
   rfl
  |cons c t=>
   have h0:bt (au (c :: t)) 0=(c.toNat:Int):=rN (c :: t) 0 bw
   have hwl:wrap64 (((c :: t).length:Int) - 1)=(t.length:Int):=by
    rw [List.length_cons] at hpl ⊢
    unfold wrap64
    omega
   have h1:bt (au (c :: t)) (t.length:Int)=(((c :: t).getD t.length 0).toNat:Int):=rN (c :: t) t.length bw
   rw [if_neg bw,if_pos bw,h0,hwl,h1,hj,hj]
   have e:zk (c :: t)=(c != 45 && (c :: t).getD t.length 0 != 45 && (c :: t).all iI):=rfl
   rw [e]
   by_cases hc:c=45
   ·subst hc
    rw [if_pos (show ((UInt8.toNat 45:Nat):Int)=45 from rfl),if_pos rfl]
    rfl
   ·rw [if_neg (show ¬ (c.toNat:Int)=45 from fun e=>hc (iz (b:=45) e)),if_pos ak,if_pos D5,bne_iff_ne.mpr hc,Bool.true_and]
    by_cases hl:(c :: t).getD t.length 0=45
    ·rw [hl]
     rfl
    ·rw [beq_eq_false_iff_ne.mpr (show (((c :: t).getD t.length 0).toNat:Int)≠45 from fun e=>hl (iz (b:=45) e)),bne_iff_ne.mpr hl,if_neg bh,Bool.true_and]
theorem BF (c:UInt8) (l:List UInt8) (hl:l.length < 4294967281):(∀ p,p∈pieces c l→p.length < 4294967281)∧(pieces c l).length < 4294967290:=by
 refine ⟨fun p hp=>?_,?_⟩
 ·have:=Gm c l p hp
  omega
 ·have:=nP c l
  omega
theorem xG (l:List UInt8) (c:UInt8) (hl:l.length < 4294967281):strings_Split.f (au l) ⟨#[c]⟩=some ((pieces c l).map au):=vG (au l) c uT
theorem CD (l:List UInt8) (hl:l.length < 4294967281) (k:Nat) (hk: 3 * l.length + 4≤k):aQ.f k (au l)=some (kC l):=by
 obtain ⟨h1,h2⟩:=BF 46 l hl
 unfold aQ.f
 rw [xG l 46 hl]
 simp only [Option.bind_some]
 have:=Ir (pieces 46 l) h1 h2 _ 0 rfl (Nat.zero_le _) k (by rw [List.drop_zero];have:=BD 46 l;omega)
 rw [List.drop_zero] at this
 exact this
def lA (l:List UInt8):Bool:=(pieces 46 l).all (fun p=>decide (p.length≤63)) && decide (l.length≤255)
theorem Df {g:ByteArray→Bool} {xs:List ByteArray} (hf:∀ y,y∈xs→l6.f y=some (g y)):∀ (k i:Nat),xs.length - i < k→i≤xs.length→xs.length < 4611686018427387904→
 ∃ r,aM.l0 k xs (xs.length:Int) (i:Int)=some r∧decide (r≥0)=(xs.drop i).any g
 | 0,_,h,_,_ =>absurd h (Nat.not_lt_zero _)
 |k + 1,i,h,hi,hl=>by
  unfold aM.l0
  by_cases hlt:i < xs.length
  ·rw [if_pos ak,if_pos ak,if_pos ak]
   have hrd:cV ByteArray.empty xs (i:Int)=xs[i]:=by simp [cV,hlt]
   rw [hrd,hf xs[i] (List.getElem_mem hlt),List.drop_eq_getElem_cons hlt,List.any_cons]
   simp only [Option.bind_some]
   cases hg:g xs[i] with
   |true=>
    rw [if_pos rfl,Bool.true_or]
    exact ⟨_,rfl,decide_eq_true ak⟩
   |false=>
    rw [if_neg bh,jE i ak,Bool.false_or]
    exact Df hf k (i + 1) ak ak hl
  ·rw [if_neg ak,List.drop_of_length_le ak]
   exact ⟨_,rfl,rfl⟩
theorem BG (l:List UInt8) (hl:l.length < 4294967281):jx (au l)=lA l:=by
 have h:=tu (au l) (l.length + 3) fZ
 unfold fJ.f at h
 rw [bN] at h
 unfold lA
 by_cases ae0:l.length≤255
 ·have h2:=nP 46 l
  obtain ⟨r,hr,hr2⟩:=Df (xs:=(pieces 46 l).map au) (g:=fun y=>decide ((y.size:Int) > 63)) (fun y _ =>rfl) (l.length + 3) 0 jX (Nat.zero_le _) jX
  rw [if_pos ak,xG l 46 hl] at h
  simp only [Option.bind_some] at h
  unfold bT.f aM.f at h
  rw [show (0:Int)=((0:Nat):Int) from rfl,hr] at h
  simp only [Option.bind_some] at h
  rw [show decide (r≥((0:Nat):Int))=decide (r≥0) from rfl,hr2,List.drop_zero] at h
  rw [decide_eq_true ae0,Bool.and_true,← Option.some.inj h]
  clear h hr hr2
  induction pieces 46 l with
  |nil=>rfl
  |cons p ps ih=>
   rw [List.map_cons,List.any_cons,List.all_cons,Bool.not_or,ih,bN]
   congr 1
   by_cases hp:p.length≤63
   ·rw [decide_eq_true hp,decide_eq_false ak]
    rfl
   ·rw [decide_eq_false hp,decide_eq_true ak]
    rfl
 ·rw [if_neg ak] at h
  rw [decide_eq_false ae0,Bool.and_false]
  exact (Option.some.inj h).symm
theorem GA (s:ByteArray) (xs:List (List UInt8)) (hn:xs.length < 4294967290):∀ (k i:Nat),xs.length - i < k→i≤xs.length→bE.l0 k s (xs.map au) (i:Int)=some ((xs.drop i).all (fun p=>decide (p.length≤63)) && decide (s.size≤255))
 | 0,_,h,_ =>absurd h (Nat.not_lt_zero _)
 |k + 1,i,h,hi=>by
  unfold bE.l0
  rw [List.length_map]
  by_cases hlt:i < xs.length
  ·rw [if_pos ak,if_pos ak,rd_mk xs i hlt,bN,List.drop_eq_getElem_cons hlt,List.all_cons]
   by_cases h63:xs[i].length≤63
   ·rw [if_neg ak,jE i ak,GA s xs hn k (i + 1) ak ak,decide_eq_true h63,Bool.true_and]
   ·rw [if_pos ak,decide_eq_false h63]
    rfl
  ·rw [if_neg ak,List.drop_of_length_le ak]
   congr 1
   rw [List.all_nil,Bool.true_and]
   exact decide_eq_decide.mpr ak
theorem zY (l:List UInt8) (hl:l.length < 4294967281) (k:Nat) (hk:l.length + 2≤k):bE.f k (au l)=some (lA l):=by
 have h2:=nP 46 l
 unfold bE.f
 rw [xG l 46 hl]
 simp only [Option.bind_some]
 have:=GA (au l) (pieces 46 l) ak k 0 ak (Nat.zero_le _)
 rw [List.drop_zero] at this
 exact this
def Ur (b:UInt8):Bool:=decide (mD (b.toNat:Int) < 16)
def CE (l:List UInt8):Bool:=decide (1≤l.length∧l.length≤4) && l.all Ur
theorem Yd (b:UInt8):Ur b=(if (b.toNat:Int)≥48 then (if (b.toNat:Int)≤57 then true else (if (b.toNat:Int)≥65 then (if (b.toNat:Int)≤70 then true else (if (b.toNat:Int)≥97 then (if (b.toNat:Int)≤102 then true else false) else false)) else (if (b.toNat:Int)≥97 then (if (b.toNat:Int)≤102 then true else false) else false))) else (if (b.toNat:Int)≥65 then (if (b.toNat:Int)≤70 then true else (if (b.toNat:Int)≥97 then (if (b.toNat:Int)≤102 then true else false) else false)) else (if (b.toNat:Int)≥97 then (if (b.toNat:Int)≤102 then true else false) else false))):=
 fy (Q:=fun b=>Ur b=(if (b.toNat:Int)≥48 then (if (b.toNat:Int)≤57 then true else (if (b.toNat:Int)≥65 then (if (b.toNat:Int)≤70 then true else (if (b.toNat:Int)≥97 then (if (b.toNat:Int)≤102 then true else false) else false)) else (if (b.toNat:Int)≥97 then (if (b.toNat:Int)≤102 then true else false) else false))) else (if (b.toNat:Int)≥65 then (if (b.toNat:Int)≤70 then true else (if (b.toNat:Int)≥97 then (if (b.toNat:Int)≤102 then true else false) else false)) else (if (b.toNat:Int)≥97 then (if (b.toNat:Int)≤102 then true else false) else false)))) fk b
theorem M9 (l:List UInt8) (hl:l.length < 4294967281):∀ (k i:Nat),l.length - i < k→i≤l.length→bF.l0 k (au l) (i:Int)=some ((l.drop i).all Ur)
 | 0,_,h,_ =>absurd h (Nat.not_lt_zero _)
 |k + 1,i,h,hi=>by
  unfold bF.l0
  rw [bN]
  by_cases hlt:i < l.length
  ·have hb:bt (au l) (i:Int)=(l[i].toNat:Int):=by
    rw [rN l i hlt,List.getD_eq_getElem?_getD,List.getElem?_eq_getElem hlt]
    rfl
   rw [if_pos ak,if_pos ak,hb,Gz hlt,List.all_cons,jE i ak,M9 l hl k (i + 1) ak ak,Yd]
   repeat' split
   all_goals first|rfl|(simp;done)|omega
  ·rw [if_neg ak,List.drop_of_length_le ak]
   rfl
theorem Na (l:List UInt8) (hl:l.length < 4294967281) (k:Nat) (hk:l.length + 2≤k):bF.f k (au l)=some (CE l):=by
 obtain ⟨k,rfl⟩:∃ k',k=k' + 1:=⟨k - 1,ak⟩
 have hr:=M9 l hl k 0 ak (Nat.zero_le _)
 rw [List.drop_zero] at hr
 unfold bF.f CE
 rw [bN]
 by_cases h1:l.length < 1
 ·rw [if_pos ak,bF.j0,if_pos rfl,decide_eq_false ak]
  rfl
 ·rw [if_neg ak,bF.j0]
  by_cases h4:l.length > 4
  ·rw [if_pos (decide_eq_true ak),decide_eq_false ak]
   rfl
  ·rw [if_neg (by rw [decide_eq_false ak];decide),decide_eq_true ak,Bool.true_and]
   exact hr
theorem Iu (base most:Int) (hb: 2≤base∧base≤36):∀ (l:List UInt8) (n:Int),0≤n→(∀ b,b∈l→0≤mD (b.toNat:Int)∧mD (b.toNat:Int) < base)→(n + 1) * base ^ l.length≤most + 1→
 (pO base most (l.map fun b=>(b.toNat:Int)) n).isNone=false
 | [],n,_,_,_ =>rfl
 |b :: l,n,hn,h,hm=>by
  obtain ⟨h0,h1⟩:=h b (List.mem_cons_self ..)
  have hp: 1≤base ^ l.length:=Int.pow_pos ak
  have hstep:(n * base + mD (b.toNat:Int) + 1) * base ^ l.length≤most + 1:=by
   refine Int.le_trans ?_ hm
   rw [List.length_cons,Int.pow_succ,Int.mul_comm (base ^ l.length) base,← Int.mul_assoc]
   refine Int.mul_le_mul_of_nonneg_right ?_ ak
   rw [Int.add_mul]
   omega
  have hle:n * base + mD (b.toNat:Int) + 1≤(n * base + mD (b.toNat:Int) + 1) * base ^ l.length:=by
   have hz: 0≤n * base:=Int.mul_nonneg hn ak
   have:=Int.mul_le_mul_of_nonneg_left hp (show 0≤n * base + mD (b.toNat:Int) + 1 by omega)
   rw [Int.mul_one] at this
   exact this
  show (pO base most ((b.toNat:Int) :: l.map fun b=>(b.toNat:Int)) n).isNone=false
  unfold pO
  rw [if_neg ak,if_neg ak]
  exact Iu base most hb l _ (by have hz: 0≤n * base:=Int.mul_nonneg hn ak;omega) (fun c hc=>h c (List.mem_cons_of_mem _ hc)) hstep
theorem K8 (b:UInt8): 0≤mD (b.toNat:Int):=fy (Q:=fun b=>0≤mD (b.toNat:Int)) fk b
theorem Ye (p:List UInt8):iw (au p)= !CE p:=by
 unfold iw CE
 rw [bN]
 by_cases h4:p.length≤4
 ·rw [decide_eq_false (show ¬ 4 < p.length by omega),Bool.or_false]
  by_cases h0:p.length=0
  ·have:p= []:=List.eq_nil_of_length_eq_zero h0
   subst this
   rfl
  ·rw [decide_eq_true ak,Bool.true_and]
   cases ha:p.all Ur with
   |true=>
    have hall:∀ b,b∈p→mD (b.toNat:Int) < 16:=fun b hb=>of_decide_eq_true (List.all_eq_true.mp ha b hb)
    unfold pu
    rw [bN,if_neg h0,xA]
    rw [Iu 16 65535 bh p 0 bh (fun b hb=>⟨K8 b,hall b hb⟩) ?_]
    ·rfl
    ·have h16:(16:Int) ^ p.length≤16 ^ 4:=by
      have hc:p.length=0∨p.length=1∨p.length=2∨p.length=3∨p.length=4:=by omega
      rcases hc with hc|hc|hc|hc|hc<;>rw [hc]<;>decide
     omega
   |false=>
    cases hn:(pu 16 65535 (au p)).isNone with
    |true=>rfl
    |false=>
     exfalso
     have:p.all Ur=true:=List.all_eq_true.mpr fun b hb=>decide_eq_true (Cs 16 65535 p hn b hb)
     rw [this] at ha
     cases ha
 ·rw [decide_eq_true (show 4 < p.length by omega),decide_eq_false ak,Bool.or_true]
  rfl
theorem abn (l:List UInt8):nO l=if l= [] then 0 else if (pieces 58 l).all CE=true then ((pieces 58 l).length:Int) else -1:=by
 unfold nO
 by_cases h0:l= []
 ·subst h0
  rfl
 ·rw [if_neg (fun e=>h0 (List.eq_nil_of_length_eq_zero e)),if_neg h0]
  have:((pieces 58 l).any fun p=>iw (au p))= !(pieces 58 l).all CE:=by
   induction pieces 58 l with
   |nil=>rfl
   |cons p ps ih=>rw [List.any_cons,List.all_cons,Bool.not_and,ih,Ye]
  rw [this]
  cases (pieces 58 l).all CE<;>rfl
theorem index_one (c:UInt8) (r:List UInt8):∀ w:List UInt8,c ∉ w→Lib.index (w ++ c :: r) [c]=(w.length:Int)
 | [],_ =>by simp [Lib.index,List.isPrefixOf]
 |b :: w,h=>by
  have hb:(c == b)=false:=beq_eq_false_iff_ne.mpr fun e=>h Av
  have ih:=index_one c r w (fun hm=>h (List.mem_cons_of_mem _ hm))
  show (if ([c]:List UInt8).isPrefixOf (b :: (w ++ c :: r)) then 0 else if Lib.index (w ++ c :: r) [c] == -1 then -1 else Lib.index (w ++ c :: r) [c] + 1)=_
  rw [ih]
  have h2:((w.length:Int) == -1)=false:=beq_eq_false_iff_ne.mpr ak
  simp [List.isPrefixOf,hb,h2]
theorem GC (c:UInt8):∀ w:List UInt8,c ∉ w→Lib.index w [c]= -1
 | [],_ =>rfl
 |b :: w,h=>by
  have hb:(c == b)=false:=beq_eq_false_iff_ne.mpr fun e=>h Av
  have ih:=GC c w (fun hm=>h (List.mem_cons_of_mem _ hm))
  show (if ([c]:List UInt8).isPrefixOf (b :: w) then 0 else if Lib.index w [c] == -1 then -1 else Lib.index w [c] + 1)=_
  rw [ih]
  simp [List.isPrefixOf,hb]
theorem Iw (l:List UInt8) (c:UInt8) (hl:l.length < 4294967281):strings_Index.f (au l) ⟨#[c]⟩=some (Lib.index l [c]):=by
 unfold strings_Index.f
 rw [if_pos uT]
 rfl
theorem EG (l:List UInt8) (a b:Nat):(au l).extract a b=au ((l.drop a).take (b - a)):=by
 apply ByteArray.ext
 rw [← Array.toList_inj]
 simp [au]
theorem tB (l:List UInt8) (n:Nat):(au l).extract n (au l).size=au (l.drop n):=by
 rw [EG,bN]
 congr 1
 exact List.take_of_length_le kR
theorem xH (l:List UInt8) (n:Nat):(au l).extract 0 n=au (l.take n):=by
 apply ByteArray.ext
 rw [← Array.toList_inj]
 simp [au]
theorem Dg:∀ (n:Nat) (l:List UInt8) (c:Nat),l.length < n→l.length + c < 4294967281→∀ k,2 * l.length + 5≤k→
 bu.l0 k (au l) (c:Int)=some (if l= [] then (c:Int) else if (pieces 58 l).all CE=true then (c:Int) + ((pieces 58 l).length:Int) else 100)
 | 0,_,_,h,_,_,_ =>absurd h (Nat.not_lt_zero _)
 |n + 1,l,c,hn,hl,k,hk=>by
  obtain ⟨k,rfl⟩:∃ k',k=k' + 1:=⟨k - 1,ak⟩
  unfold bu.l0
  rw [toList_mk]
  by_cases h0:l= []
  ·rw [if_pos h0,if_pos h0]
  ·rw [if_neg h0,if_neg h0,Iw l 58 ak]
   simp only [Option.bind_some]
   have hw:=jE c ak
   rcases uG 58 l with hno|⟨w,r,rfl,hwn⟩
   ·rw [GC 58 l hno,if_neg bh,Na l ak k ak,pI 58 l hno,hw]
    simp only [Option.bind_some]
    have hpos: 0 < l.length:=List.length_pos_iff.mpr h0
    have e:bu.l0 k (au []) (((c + 1:Nat):Int))=some (((c + 1:Nat):Int)):=by
     obtain ⟨k,rfl⟩:∃ k',k=k' + 1:=⟨k - 1,ak⟩
     unfold bu.l0
     rw [toList_mk,if_pos rfl]
    rw [List.all_cons,List.all_nil,Bool.and_true]
    cases CE l with
    |true=>
     rw [if_pos rfl,if_pos rfl]
     exact e.trans bw
    |false=>rw [if_neg bh,if_neg bh]
   ·rw [List.length_append,List.length_cons] at hn hl hk
    have hi:=index_one 58 r w hwn
    have hwi:wrap64 ((w.length:Int) + 1)=((w.length + 1:Nat):Int):=jE w.length ak
    have hsz:(au (w ++ 58 :: r)).size=w.length + (r.length + 1):=by rw [bN,List.length_append,List.length_cons]
    have hd:(w ++ 58 :: r).drop (w.length + 1)=r:=by rw [← List.drop_drop,List.drop_left];rfl
    have e1:(au (w ++ 58 :: r)).extract (((w.length + 1:Nat):Int)).toNat (au (w ++ 58 :: r)).size=au r:=by
     rw [Int.toNat_natCast,tB,hd]
    have e2:(au (w ++ 58 :: r)).extract 0 ((w.length:Int)).toNat=au w:=by
     rw [Int.toNat_natCast,xH,List.take_left]
    rw [hi,hwi,e1,e2,if_pos ak,if_pos ak,if_pos (by rw [hsz];omega),if_pos ak,if_pos (by rw [hsz];omega),toList_mk,qw 58 r w hwn,List.all_cons,List.length_cons]
    by_cases hr:r= []
    ·subst hr
     rw [if_pos rfl]
     have:(pieces 58 []).all CE=false:=by decide
     rw [this,Bool.and_false,if_neg bh]
    ·rw [if_neg hr,Na w ak k ak,hw]
     simp only [Option.bind_some]
     cases CE w with
     |false=>
      rw [if_neg bh,Bool.false_and,if_neg bh]
     |true=>
      rw [if_pos rfl,Bool.true_and,Dg n r (c + 1) ak ak k ak,if_neg hr]
      cases (pieces 58 r).all CE with
      |true=>
       rw [if_pos rfl,if_pos rfl]
       congr 1
       omega
      |false=>rw [if_neg bh,if_neg bh]
def tC (l:List UInt8):Int:=if nO l < 0 then 100 else nO l
theorem xI (l:List UInt8) (hl:l.length < 4294967281) (k:Nat) (hk: 2 * l.length + 5≤k):bu.f k (au l)=some (tC l):=by
 unfold bu.f
 have:=Dg _ l 0 (Nat.lt_succ_self _) ak k hk
 rw [show (0:Int)=((0:Nat):Int) from rfl,this]
 unfold tC
 rw [abn]
 by_cases h0:l= []
 ·rw [if_pos h0,if_pos h0]
  rfl
 ·rw [if_neg h0,if_neg h0]
  cases (pieces 58 l).all CE with
  |true=>
   rw [if_pos rfl,if_pos rfl,if_neg ak]
   congr 1
   omega
  |false=>rfl
def GD (b:UInt8):Bool:=decide (mD (b.toNat:Int) < 10)
theorem Yf (b:UInt8):GD b=(if (b.toNat:Int) < 48 then false else if (b.toNat:Int) > 57 then false else true):=
 fy (Q:=fun b=>GD b=(if (b.toNat:Int) < 48 then false else if (b.toNat:Int) > 57 then false else true)) fk b
theorem Tc (b:UInt8):GD b=true→mD (b.toNat:Int)=(b.toNat:Int) - 48:=fy (Q:=fun b=>GD b=true→mD (b.toNat:Int)=(b.toNat:Int) - 48) fk b
def DJ:List UInt8→Int→Int
 | [],n=>n
 |b :: l,n=>DJ l (10 * n + (b.toNat:Int) - 48)
theorem Td:∀ (l:List UInt8) (n:Int),0≤n→(∀ b,b∈l→GD b=true)→n≤DJ l n∧DJ l n≤(n + 1) * 10 ^ l.length - 1
 | [],n,_,_ =>by unfold DJ;simp
 |b :: l,n,hn,h=>by
  have hb:=h b (List.mem_cons_self ..)
  have hd:=Tc b hb
  have hd0:=K8 b
  have hd1:mD (b.toNat:Int) < 10:=of_decide_eq_true hb
  obtain ⟨h1,h2⟩:=Td l (10 * n + (b.toNat:Int) - 48) ak (fun c hc=>h c (List.mem_cons_of_mem _ hc))
  unfold DJ
  refine ⟨ak,?_⟩
  refine Int.le_trans h2 ?_
  have hp:(0:Int)≤10 ^ l.length:=Int.pow_nonneg bh
  rw [List.length_cons,Int.pow_succ,Int.mul_comm (10 ^ l.length) 10,← Int.mul_assoc]
  have:=Int.mul_le_mul_of_nonneg_right (show 10 * n + (b.toNat:Int) - 48 + 1≤(n + 1) * 10 by omega) hp
  omega
theorem Nb:∀ (l:List UInt8) (n:Int),0≤n→(∀ b,b∈l→GD b=true)→(pO 10 255 (l.map fun b=>(b.toNat:Int)) n).isNone=decide (n≤255→255 < DJ l n)∨255 < n
 | [],n,hn,_ =>by
   by_cases h:n≤255
   ·refine .inl ?_
    show false=_
    rw [decide_eq_false]
    intro h2
    have:=h2 h
    unfold DJ at this
    omega
   ·exact .inr ak
 |b :: l,n,hn,h=>by
  by_cases aj1:n≤255
  case neg=>exact .inr ak
  have hb:=h b (List.mem_cons_self ..)
  have hd:=Tc b hb
  have hd0:=K8 b
  have hd1:mD (b.toNat:Int) < 10:=of_decide_eq_true hb
  refine .inl ?_
  show (pO 10 255 ((b.toNat:Int) :: l.map fun b=>(b.toNat:Int)) n).isNone=_
  unfold pO DJ
  rw [if_neg ak]
  have e:n * 10 + mD (b.toNat:Int)=10 * n + (b.toNat:Int) - 48:=by omega
  rw [e]
  by_cases hm: 10 * n + (b.toNat:Int) - 48 > 255
  ·rw [if_pos hm]
   have:=(Td l (10 * n + (b.toNat:Int) - 48) ak (fun c hc=>h c (List.mem_cons_of_mem _ hc))).1
   rw [decide_eq_true (fun _ =>by omega)]
   rfl
  ·rw [if_neg hm]
   rcases Nb l (10 * n + (b.toNat:Int) - 48) ak (fun c hc=>h c (List.mem_cons_of_mem _ hc)) with h2|h2
   ·rw [h2]
    apply decide_eq_decide.mpr
    constructor
    ·intro h3 _
     exact h3 ak
    ·intro h3 _
     exact h3 aj1
   ·omega
def CF (p:List UInt8):Bool:=decide (1≤p.length∧p.length≤3) && (p.all GD && decide (DJ p 0≤255))
theorem abo (p:List UInt8):lO p= !CF p:=by
 unfold lO CF
 by_cases h3:p.length≤3
 ·rw [decide_eq_false (show ¬ 3 < p.length by omega),Bool.or_false]
  by_cases h0:p.length=0
  ·have:p= []:=List.eq_nil_of_length_eq_zero h0
   subst this
   rfl
  ·rw [decide_eq_true (show 1≤p.length∧p.length≤3 by omega),Bool.true_and]
   cases ha:p.all GD with
   |true=>
    have hall:∀ b,b∈p→GD b=true:=fun b hb=>List.all_eq_true.mp ha b hb
    unfold pu
    rw [bN,if_neg h0,xA]
    rcases Nb p 0 bh hall with h2|h2
    ·rw [h2,Bool.true_and]
     by_cases hv:DJ p 0≤255
     ·rw [decide_eq_true hv,decide_eq_false (fun h=>by have:=h bh;omega)]
      rfl
     ·rw [decide_eq_false hv,decide_eq_true (fun _ =>by omega)]
      rfl
    ·omega
   |false=>
    cases hn:(pu 10 255 (au p)).isNone with
    |true=>rfl
    |false=>
     exfalso
     have:p.all GD=true:=List.all_eq_true.mpr fun b hb=>decide_eq_true (Cs 10 255 p hn b hb)
     rw [this] at ha
     cases ha
 ·rw [decide_eq_true (show 3 < p.length by omega),decide_eq_false (show ¬ (1≤p.length∧p.length≤3) by omega),Bool.or_true]
  rfl
theorem Te (xs:List (List UInt8)) (i:Nat) (hi:i < xs.length) (hi4:i < 4) (p:List UInt8) (hp:xs[i]=p) (hpl:p.length < 4294967281) (K:Nat) (r:Bool) (hK:∀ k,K≤k→aU.l0 k (xs.map au) (wrap64 ((i:Int) + 1))=some r):
 ∀ (m j:Nat) (v:Int),p.length - j=m→j≤p.length→j≤3→0≤v→v + 1≤10 ^ j→∀ k,K + m + 2≤k→aU.l1 k (xs.map au) (i:Int) v (j:Int)=some (decide (1≤p.length∧p.length≤3) && ((p.drop j).all GD && (decide (DJ (p.drop j) v≤255) && r)))
 | 0,j,v,hm,hj,zG,hv,hv2,k,hk=>by
   obtain ⟨k,rfl⟩:∃ k',k=k' + 1:=⟨k - 1,ak⟩
   have hje:j=p.length:=by omega
   unfold aU.l1
   rw [List.length_map,rd_mk xs i hi,hp,bN,toList_mk,if_pos ak,if_pos ak,if_neg ak,List.drop_of_length_le ak]
   by_cases h0:p= []
   ·rw [if_pos h0,h0]
    rfl
   ·have hpos: 0 < p.length:=List.length_pos_iff.mpr h0
    rw [if_neg h0,decide_eq_true ak]
    unfold DJ
    by_cases ac4:v > 255
    ·rw [if_pos ac4,decide_eq_false ak]
     rfl
    ·rw [if_neg ac4,decide_eq_true ak,hK k ak]
     rfl
 |m + 1,j,v,hm,hj,zG,hv,hv2,k,hk=>by
  obtain ⟨k,rfl⟩:∃ k',k=k' + 1:=⟨k - 1,ak⟩
  have hlt:j < p.length:=by omega
  have hb:bt (au p) (j:Int)=(p[j].toNat:Int):=by
   rw [rN p j hlt,List.getD_eq_getElem?_getD,List.getElem?_eq_getElem hlt]
   rfl
  have hc:=Yf p[j]
  have hbn:=UInt8.toNat_lt p[j]
  unfold aU.l1
  rw [List.length_map,rd_mk xs i hi,hp,bN,if_pos ak,if_pos ak,if_pos ak,if_pos ak,hb,Gz hlt,List.all_cons]
  by_cases c1:(p[j].toNat:Int) < 48
  ·rw [if_pos c1] at hc
   rw [if_pos c1,hc]
   simp
  ·rw [if_neg c1] at hc
   rw [if_neg c1]
   by_cases c2:(p[j].toNat:Int) > 57
   ·rw [if_pos c2] at hc
    rw [if_pos c2,hc]
    simp
   ·rw [if_neg c2] at hc
    rw [if_neg c2,hc,Bool.true_and]
    by_cases h3:j=3
    ·rw [if_pos ak,decide_eq_false ak]
     rfl
    ·have awT:(10:Int) ^ j≤100:=by
      have:j=0∨j=1∨j=2:=by omega
      rcases this with rfl|rfl|rfl<;>decide
     have ew:wrap64 (wrap64 (wrap64 (10 * v) + wrap64 (p[j].toNat:Int)) - 48)=10 * v + (p[j].toNat:Int) - 48:=by
      unfold wrap64
      omega
     have hv3: 10 * v + (p[j].toNat:Int) - 48 + 1≤10 ^ (j + 1):=by
      rw [Int.pow_succ]
      omega
     rw [if_neg ak,ew,jE j ak]
     exact Te xs i hi hi4 p hp hpl K r hK m (j + 1) _ ak ak ak ak hv3 k ak
end Go.Proofs.YtokpnfljjjjikaaGreatDoor.jI
namespace Go.Proofs.YtokpnfljjjjikaaGreatDoor.jI
open Go.RowKit Go.Proofs.YtokpnfljjjjikaaGreatDoor Go.Proofs.YtokpnfljjjjikaaGreatDoor.mY Go.Proofs.aj.bO Go.Proofs.aj.cK
set_option linter.unusedVariables false
set_option linter.unusedSimpArgs false
theorem Nc (xs:List (List UInt8)) (hx:∀ p,p∈xs→p.length < 4294967281) (hn:xs.length=4):∀ (m i:Nat),4 - i=m→i≤4→∀ k,tA (xs.drop i)≤k→aU.l0 k (xs.map au) (i:Int)=some ((xs.drop i).all CF)
 | 0,i,hm,hi,k,hk=>by
   rw [List.drop_of_length_le ak] at hk ⊢
   unfold tA at hk
   obtain ⟨k,rfl⟩:∃ k',k=k' + 1:=⟨k - 1,ak⟩
   unfold aU.l0
   rw [if_neg ak]
   rfl
 |m + 1,i,hm,hi,k,hk=>by
  have hlt:i < xs.length:=by omega
  have hd:xs.drop i=xs[i] :: xs.drop (i + 1):=List.drop_eq_getElem_cons hlt
  rw [hd] at hk ⊢
  unfold tA at hk
  have hpl:=hx _ (List.getElem_mem hlt)
  have hK:∀ k,tA (xs.drop (i + 1))≤k→aU.l0 k (xs.map au) (wrap64 ((i:Int) + 1))=some ((xs.drop (i + 1)).all CF):=fun k hk=>by
   rw [jE i ak]
   exact Nc xs hx hn m (i + 1) ak ak k hk
  obtain ⟨k,rfl⟩:∃ k',k=k' + 1:=⟨k - 1,ak⟩
  have hin:=Te xs i hlt ak xs[i] rfl hpl (tA (xs.drop (i + 1))) _ hK xs[i].length 0 0 ak (Nat.zero_le _) ak bh bh k ak
  unfold aU.l0
  rw [if_pos ak,show (0:Int)=((0:Nat):Int) from rfl]
  refine hin.trans ?_
  rw [List.drop_zero,List.all_cons]
  unfold CF
  simp only [Bool.and_assoc]
theorem abp (l:List UInt8):vY l=(decide ((pieces 46 l).length=4) && (pieces 46 l).all CF):=by
 unfold vY
 congr 1
 induction pieces 46 l with
 |nil=>rfl
 |cons p ps ih=>rw [List.any_cons,List.all_cons,Bool.not_or,ih,abo,Bool.not_not]
theorem PE (m:List UInt8) (hm:m.length < 4294967281):strings_Index.f (au m) ⟨#[58,58]⟩=some (Lib.index m [58,58]):=by
 unfold strings_Index.f
 rw [if_pos (by rw [bN];exact hm)]
 rfl
theorem Ix (l:List UInt8) (hl:l.length < 4294967281): 0≤tC l∧tC l≤4294967290:=by
 have:=xz l
 unfold tC
 split<;>omega
theorem Yg (x:List UInt8) (hx:x.length < 4294967281) (h5: 5≤x.length) (k:Nat) (hk: 2 * x.length + 10≤k):aU.j0 k (au x) true=some (DI (x.drop 5)):=by
 obtain ⟨k,rfl⟩:∃ k',k=k' + 1:=⟨k - 1,ak⟩
 obtain ⟨m,hm⟩:∃ m,x.drop 5=m:=⟨_,rfl⟩
 have hml:m.length + 5=x.length:=by rw [← hm,List.length_drop];omega
 rw [aU.j0]
 rw [if_pos rfl,if_pos fZ,tB,hm,PE m ak,Option.bind_some]
 unfold DI Lib.cut
 by_cases hi: 0≤Lib.index m [58,58]
 ·have hroom:=Lib.index_room m [58,58] hi
  obtain ⟨i,hii⟩:∃ i:Nat,Lib.index m [58,58]=i:=⟨_,(Int.toNat_of_nonneg hi).symm⟩
  rw [hii] at hroom ⊢
  rw [show (([58,58]:List UInt8).length:Int)=2 from rfl] at hroom
  have hw:wrap64 ((i:Int) + 2)=((i + 2:Nat):Int):=by unfold wrap64;omega
  have ht1:(m.take i).length≤m.length:=by rw [List.length_take];exact Nat.min_le_right _ _
  have ht2:(m.drop (i + 2)).length≤m.length:=by rw [List.length_drop];exact Nat.sub_le _ _
  have g1:=Ix (m.take i) ak
  have g2:=Ix (m.drop (i + 2)) ak
  have v1:=xI (m.take i) ak k ak
  have v2:=xI (m.drop (i + 2)) ak k ak
  rw [if_neg ak,if_pos ak,if_pos fZ,Int.toNat_natCast,xH,v1,Option.bind_some,hw,if_pos ak,if_pos fZ,Int.toNat_natCast,tB,v2,Option.bind_some,if_pos (show 0≤(i:Int) by omega)]
  simp only [if_true]
  rw [show ([58,58]:List UInt8).length=2 from rfl]
  have hww:wrap64 (tC (m.take i) + tC (m.drop (i + 2)))=tC (m.take i) + tC (m.drop (i + 2)):=by unfold wrap64;omega
  rw [hww]
  congr 1
  clear hww hw
  unfold tC at g1 g2 ⊢
  by_cases a1:nO (m.take i) < 0
  ·rw [if_pos a1] at g1 ⊢
   rw [decide_eq_false ak,decide_eq_false (show ¬ 0≤nO (m.take i) by omega)]
   rfl
  ·rw [if_neg a1] at g1 ⊢
   rw [decide_eq_true (show 0≤nO (m.take i) by omega),Bool.true_and]
   by_cases a2:nO (m.drop (i + 2)) < 0
   ·rw [if_pos a2] at g2 ⊢
    rw [decide_eq_false ak,decide_eq_false (show ¬ 0≤nO (m.drop (i + 2)) by omega)]
    rfl
   ·rw [if_neg a2,decide_eq_true (show 0≤nO (m.drop (i + 2)) by omega),Bool.true_and]
 ·have hge:=Lib.index_ge m [58,58]
  rw [if_pos ak,xI m ak k ak,Option.bind_some,if_neg hi]
  simp only [Bool.false_eq_true,if_false]
  congr 1
  unfold tC
  by_cases a1:nO m < 0
  ·rw [if_pos a1,beq_eq_false_iff_ne.mpr bh,beq_eq_false_iff_ne.mpr ak]
  ·rw [if_neg a1]
theorem Iy (x:List UInt8) (hx:x.length < 4294967281) (k:Nat) (hk: 3 * x.length + 10≤k):aU.j0 k (au x) false=some (vY x):=by
 obtain ⟨k,rfl⟩:∃ k',k=k' + 1:=⟨k - 1,ak⟩
 obtain ⟨h1,h2⟩:=BF 46 x hx
 rw [aU.j0]
 rw [if_neg bh,xG x 46 hx,abp]
 simp only [Option.bind_some]
 rw [List.length_map]
 by_cases h4:(pieces 46 x).length=4
 ·have:=Nc (pieces 46 x) h1 h4 4 0 rfl bh k (by rw [List.drop_zero];have:=BD 46 x;omega)
  rw [List.drop_zero] at this
  rw [if_pos ak,decide_eq_true h4,Bool.true_and]
  exact this
 ·rw [if_neg ak,decide_eq_false h4]
  rfl
theorem Nf (l:List UInt8) (hl:l.length < 4294967281) (k:Nat) (hk: 3 * l.length + 12≤k):aU.f k (au l)=some (tE l):=by
 unfold aU.f tE qu
 rw [bN]
 by_cases h5:l.length > 5
 ·rw [if_pos ak,if_pos bh,if_pos ak,xH,tv _ D4 k D4,decide_eq_true h5,Bool.true_and]
  simp only [Option.bind_some]
  rw [toList_mk]
  cases hb:((l.take 5).map eX == ([105,112,118,54,58]:List UInt8)) with
  |true=>
   rw [if_pos rfl]
   exact Yg l hl ak k ak
  |false=>
   rw [if_neg bh]
   exact Iy l hl k ak
 ·rw [if_neg ak,decide_eq_false h5,Bool.false_and,if_neg bh]
  exact Iy l hl k ak
theorem Us (b:UInt8):(∃ t,strings_IndexByte.f ⟨#[33,35,36,37,38,39,42,43,45,47,61,63,94,95,96,123,124,125,126]⟩ (b.toNat:Int)=some t∧((iI b && b != 45)=false→decide (t < 0)= !gV b))∧((iI b && b != 45)=true→gV b=true):=by
 have h2:∀ n,n < 256→((strings_IndexByte.f ⟨#[33,35,36,37,38,39,42,43,45,47,61,63,94,95,96,123,124,125,126]⟩ ((n:Nat):Int)).map fun t=>(iI (UInt8.ofNat n) && (UInt8.ofNat n) != 45) || (decide (t < 0) == !gV (UInt8.ofNat n)))=some true:=by decide +kernel
 have h3:∀ n,n < 256→((iI (UInt8.ofNat n) && (UInt8.ofNat n) != 45)=true→gV (UInt8.ofNat n)=true):=by decide +kernel
 have a:=h2 b.toNat (UInt8.toNat_lt b)
 have c:=h3 b.toNat (UInt8.toNat_lt b)
 rw [UInt8.ofNat_toNat] at a c
 refine ⟨?_,c⟩
 obtain ⟨t,ht,h⟩:=Option.map_eq_some_iff.mp a
 refine ⟨t,ht,fun h0=>?_⟩
 rw [h0,Bool.false_or] at h
 exact beq_iff_eq.mp h
theorem GF (s:ByteArray) (hs:s.size < 4294967281):∀ (k p:Nat) (d:Bool),(rest s p).length < k→p≤s.size→bz.l0 k s d (p:Int)=some (lu d (rest s p))
 | 0,_,_,h,_ =>absurd h (Nat.not_lt_zero _)
 |k + 1,p,d,h,hp=>by
  unfold bz.l0
  have hrl:=fX s p
  cases hr:rest s p with
  |nil=>
   have:=ng hr
   rw [if_neg ak]
   rfl
  |cons b l=>
   obtain ⟨h1,h2,h3⟩:=lH hr
   rw [hr,List.length_cons] at h
   have ih:=fun d=>GF s hs k (p + 1) d (by rw [h3];omega) ak
   rw [h3] at ih
   rw [if_pos ak,if_pos ak,h2,jE p ak]
   unfold lu
   by_cases h46:b=46
   ·subst h46
    rw [if_pos (show ((UInt8.toNat 46:Nat):Int)=46 from rfl),if_pos rfl,ih]
    cases d<;>rfl
   ·rw [if_neg (show ¬ (b.toNat:Int)=46 from fun e=>h46 (iz (b:=46) e)),if_neg h46,Yc]
    simp only [Option.bind_some]
    obtain ⟨⟨t,ht,a1⟩,a2⟩:=Us b
    cases hl:(iI b && b != 45) with
    |true=>
     rw [if_pos rfl,a2 hl,if_pos rfl,ih]
    |false=>
     rw [if_neg bh,ht]
     simp only [Option.bind_some]
     have a3:=a1 hl
     by_cases ht0:t < 0
     ·rw [decide_eq_true ht0] at a3
      have:gV b=false:=by cases hab:gV b with|false=>rfl|true=>rw [hab] at a3;cases a3
      rw [if_pos ht0,this,if_neg bh]
     ·rw [decide_eq_false ht0] at a3
      have:gV b=true:=by cases hab:gV b with|true=>rfl|false=>rw [hab] at a3;cases a3
      rw [if_neg ht0,this,if_pos rfl,ih]
theorem GG (l:List UInt8) (hl:l.length < 4294967281) (k:Nat) (hk:l.length < k):bz.f k (au l)=some (lu true l):=by
 unfold bz.f
 have:=GF (au l) uT k 0 true (by rw [mX];exact hk) (Nat.zero_le _)
 rw [mX] at this
 exact this
theorem zZ (s:ByteArray) (hs:s.size < 4294967281):∀ (k p:Nat) (acc:List UInt8),(rest s p).length < k→1≤p→p < s.size→acc.length + (rest s p).length≤s.size→
 bD.l0 k s (jw acc) (p:Int)=some (au (zR (rest s p) acc).2,(zR (rest s p) acc).1)
 | 0,_,_,h,_,_,_ =>absurd h (Nat.not_lt_zero _)
 |k + 1,p,acc,h,hp1,hp,ha=>by
  unfold bD.l0
  have hrl:=fX s p
  have hw1:wrap64 ((s.size:Int) - 1)=((s.size - 1:Nat):Int):=by unfold wrap64;omega
  rw [hw1]
  cases hr:rest s p with
  |nil=>
   have:=ng hr
   omega
  |cons b l=>
   obtain ⟨h1,h2,h3⟩:=lH hr
   rw [hr,List.length_cons] at h ha hrl
   have hnl:(jw acc).length < 140737488355328:=by unfold jw;rw [List.length_map];omega
   cases l with
   |nil=>
    rw [List.length_nil] at hrl
    rw [if_neg ak,if_pos ak,if_pos ak,h2,Bt]
    unfold zR
    have e:((b.toNat:Int) == 34)=(b == 34):=by
     by_cases hb:b=34
     ·subst hb;rfl
     ·rw [beq_eq_false_iff_ne.mpr hb,beq_eq_false_iff_ne.mpr (show (b.toNat:Int)≠34 from fun e=>hb (iz (b:=34) e))]
    rw [e]
   |cons c l=>
    rw [List.length_cons] at h ha hrl
    obtain ⟨g1,g2,g3⟩:=lH h3
    rw [if_pos ak,if_pos ak,if_pos ak,h2,jE p ak,g2]
    unfold zR
    by_cases hq:b=34
    ·subst hq
     rw [if_pos (show ((UInt8.toNat 34:Nat):Int)=34 from rfl),if_pos rfl]
     rfl
    ·rw [if_neg (show ¬ (b.toNat:Int)=34 from fun e=>hq (iz (b:=34) e)),if_neg hq]
     by_cases hb:b=92
     ·subst hb
      rw [if_pos (show ((UInt8.toNat 92:Nat):Int)=92 from rfl),if_pos rfl]
      by_cases hl:l= []
      ·subst hl
       rw [List.length_nil] at hrl
       rw [if_pos ak,if_pos rfl]
       rfl
      ·have hlp: 0 < l.length:=List.length_pos_iff.mpr hl
       rw [if_neg ak,if_neg hl,if_pos ak,if_pos ak]
       by_cases hc:c < 32
       ·rw [if_pos (F9.mpr hc),if_pos (Or.inl hc:c < 32∨126 < c)]
        rfl
       ·rw [if_neg (fun e=>hc (F9.mp e))]
        by_cases hd: 126 < c
        ·rw [if_pos (xm.mpr hd),if_pos (Or.inr hd:c < 32∨126 < c)]
         rfl
        ·have hcd: ¬ (c < 32∨126 < c):=fun e=>e.elim hc hd
         have hn:jw acc ++ [(c.toNat:Int)]=jw (acc ++ [c]):=by simp [jw]
         have ih:=zZ s hs k (p + 1 + 1) (acc ++ [c]) (by rw [g3];omega) ak ak (by rw [g3,List.length_append,List.length_cons,List.length_nil];omega)
         rw [g3] at ih
         rw [if_neg (fun e=>hd (xm.mp e)),if_pos hnl,if_neg hcd,hn,jE (p + 1) ak,ih]
     ·rw [if_neg (show ¬ (b.toNat:Int)=92 from fun e=>hb (iz (b:=92) e)),if_neg hb]
      by_cases hc:b < 32
      ·rw [if_pos (F9.mpr hc),if_pos (Or.inl hc:b < 32∨126 < b)]
       rfl
      ·rw [if_neg (fun e=>hc (F9.mp e))]
       by_cases hd: 126 < b
       ·rw [if_pos (xm.mpr hd),if_pos (Or.inr hd:b < 32∨126 < b)]
        rfl
       ·have hcd: ¬ (b < 32∨126 < b):=fun e=>e.elim hc hd
        have hn:jw acc ++ [(b.toNat:Int)]=jw (acc ++ [b]):=by simp [jw]
        have ih:=zZ s hs k (p + 1) (acc ++ [b]) (by rw [h3,List.length_cons];omega) ak ak (by rw [h3,List.length_append,List.length_cons,List.length_cons,List.length_nil];omega)
        rw [h3] at ih
        rw [if_neg (fun e=>hd (xm.mp e)),if_pos hnl,if_neg hcd,hn,ih]
def z6 (s:List UInt8):List UInt8×Bool:=if lu true s=true then (s,true) else if s.length < 2∨bX 34 s=false then ([],false) else ((zR (s.drop 1) []).2,(zR (s.drop 1) []).1)
theorem Ut (s:List UInt8):zS s=if (z6 s).2=true then some (z6 s).1 else none:=by
 unfold zS z6
 by_cases hp:lu true s=true
 ·rw [if_pos hp,if_pos hp]
  rfl
 ·rw [if_neg hp,if_neg hp]
  cases hq:bX 34 s with
  |false=>
   rw [if_neg bh,if_pos (show s.length < 2∨false=false from .inr rfl)]
   rfl
  |true=>
   rw [if_pos rfl]
   by_cases h2:s.length < 2
   ·rw [if_pos (show s.length < 2∨true=false from .inl h2)]
    obtain ⟨r,rfl⟩:=kT hq
    cases r with
    |nil=>rfl
    |cons c r=>rw [List.length_cons,List.length_cons] at h2;omega
   ·rw [if_neg (show ¬ (s.length < 2∨true=false) from fun e=>e.elim h2 (fun e=>by cases e))]
theorem PF (s:List UInt8) (hs:s.length < 4294967281) (k:Nat) (hk:s.length + 2≤k):bD.f k (au s)=some (au (z6 s).1,(z6 s).2):=by
 unfold bD.f z6
 rw [GG s hs k ak]
 simp only [Option.bind_some]
 obtain ⟨k,rfl⟩:∃ k',k=k' + 1:=⟨k - 1,ak⟩
 by_cases hp:lu true s=true
 ·rw [if_pos hp,if_pos hp]
 ·rw [if_neg hp,if_neg hp,bN]
  by_cases h2:s.length < 2
  ·rw [if_pos ak,if_pos (.inl h2),bD.j0,if_pos rfl]
   rfl
  ·rw [if_neg ak,if_pos ak,bD.j0]
   cases s with
   |nil=>simp at h2
   |cons b s=>
    have h0:bt (au (b :: s)) 0=(b.toNat:Int):=rN (b :: s) 0 bw
    rw [h0]
    by_cases hb:b=34
    ·subst hb
     have hr1:rest (au (34 :: s)) 1=s:=rfl
     have hrun:=zZ (au (34 :: s)) (by rw [bN];exact hs) k 1 [] (by rw [hr1];rw [List.length_cons] at hk;omega) (Nat.le_refl _) fZ (by rw [hr1,bN];simp)
     rw [hr1] at hrun
     rw [if_neg bh,if_neg (fun e=>e.elim h2 (fun e=>by cases e))]
     exact hrun
    ·rw [if_pos (bne_iff_ne.mpr (show (b.toNat:Int)≠34 from fun e=>hb (iz (b:=34) e))),if_pos (.inr (beq_eq_false_iff_ne.mpr hb))]
     rfl
theorem EH (l:List UInt8) (j:Nat) (hj:j < l.length):(au l).data[j]! =l[j]:=by
 show l.toArray[j]! =l[j]
 rw [getElem!_pos l.toArray j (by simpa using hj)]
 simp
theorem Uu (c:UInt8) (l:List UInt8) (h:c ∉ l):Cl c (au l)= -1:=by
 unfold Cl
 rcases Lib.lastIndexByte_spec (au l) (c.toNat:Int) with ⟨e,_⟩|⟨i,hi,_,e,_⟩
 ·exact e
 ·rw [bN] at hi
  rw [EH l i hi] at e
  exact absurd (List.getElem_mem hi) (by rw [iz e];exact h)
theorem Uv (c:UInt8) (w r:List UInt8) (h:c ∉ r):Cl c (au (w ++ c :: r))=(w.length:Int):=by
 have hlen:(w ++ c :: r).length=w.length + (r.length + 1):=by rw [List.length_append,List.length_cons]
 have hat:(w ++ c :: r)[w.length]'ak=c:=by simp
 unfold Cl
 rcases Lib.lastIndexByte_spec (au (w ++ c :: r)) (c.toNat:Int) with ⟨_,hn⟩|⟨i,hi,e,he,hn⟩
 ·exfalso
  refine hn w.length fZ ?_
  rw [EH _ _ ak,hat]
 ·rw [e]
  rw [bN] at hi
  rw [EH _ i hi] at he
  have he:=iz he
  congr 1
  by_cases h1:i < w.length
  ·exfalso
   refine hn w.length h1 fZ ?_
   rw [EH _ _ ak,hat]
  ·by_cases h2:w.length < i
   ·exfalso
    apply h
    rw [← he,List.getElem_append_right ak]
    obtain ⟨j,hj⟩:∃ j,i - w.length=j + 1:=⟨i - w.length - 1,ak⟩
    simp only [hj,List.getElem_cons_succ]
    exact List.getElem_mem _
   ·omega
theorem Uw (t:List UInt8) (ht:t.length < 4294967281):iB.f (au t) ⟨#[64]⟩=some (Cl 64 (au t)):=by
 unfold iB.f
 rw [dif_pos ⟨rfl,fZ⟩]
 rfl
def aj2 (o:Option (List UInt8×List UInt8×Bool)):ByteArray×ByteArray×Bool×Bool:=match o with
 |none=>(⟨#[]⟩,⟨#[]⟩,false,false)
 |some (lo,dom,lit)=>(au lo,au dom,lit,true)
theorem CG (lo d:List UInt8) (hd:d.length < 4294967281) (b:Bool) (hb:b=bracketed d) (k:Nat) (hk: 3 * d.length + 20≤k):bI.j0 k (au lo) (au d) b=some (aj2 ((tW d).bind fun q=>some (lo,q.1,q.2))):=by
 obtain ⟨k,rfl⟩:∃ k',k=k' + 1:=⟨k - 1,ak⟩
 rw [bI.j0]
 unfold tW
 rw [hb]
 by_cases h:bracketed d=true
 ·have e:=zU h
  have hlen:=congrArg List.length e
  rw [List.length_cons,List.length_append,List.length_cons,List.length_nil] at hlen
  have hw:wrap64 ((d.length:Int) - 1)=((d.length - 1:Nat):Int):=by unfold wrap64;omega
  have he:(au d).extract 1 (((d.length - 1:Nat):Int)).toNat=au (qJ d):=by
   rw [Int.toNat_natCast,EG]
   rfl
  rw [if_pos h,if_pos h,bN,hw,if_pos ak,if_pos ak,he,Nf _ ak k ak]
  simp only [Option.bind_some]
  by_cases hl:tE (qJ d)=true
  ·rw [if_pos hl,if_pos hl,tv _ ak k ak]
   rfl
  ·rw [if_neg hl,if_neg hl]
   rfl
 ·rw [if_neg h,if_neg h,CD d hd k ak]
  simp only [Option.bind_some]
  by_cases hf:kC d=true
  ·rw [if_pos hf,if_pos hf,tv d hd k ak]
   rfl
  ·rw [if_neg hf,if_neg hf]
   rfl
theorem Ng (t:List UInt8) (ht:t.length < 4294967281) (k:Nat) (hk: 3 * t.length + 30≤k):bI.f k (au t)=some (aj2 (l7 t)):=by
 unfold bI.f l7
 rw [Uw t ht,Option.bind_some]
 rcases K4 64 t with hno|⟨w,d,rfl,hd⟩
 ·rw [Uu 64 t hno,if_pos bh,rX 64 t hno]
  rfl
 ·have hlen:(w ++ 64 :: d).length=w.length + (d.length + 1):=by rw [List.length_append,List.length_cons]
  have hw:wrap64 ((w.length:Int) + 1)=((w.length + 1:Nat):Int):=jE w.length ak
  have ed:(w ++ 64 :: d).drop (w.length + 1)=d:=by rw [← List.drop_drop,List.drop_left];rfl
  rw [Uv 64 w d hd,rY 64 d hd w,if_neg ak,if_pos ak,if_pos fZ,Int.toNat_natCast,xH,List.take_left,PF w ak k ak,Option.bind_some,hw,if_pos ak,if_pos fZ,Int.toNat_natCast,tB,ed,show ((some (w,d)).bind fun p:List UInt8×List UInt8=>(zS p.1).bind fun lo=>(tW p.2).bind fun q=>some (lo,q.1,q.2))=(zS w).bind fun lo=>(tW d).bind fun q=>some (lo,q.1,q.2) from rfl,Ut]
  dsimp only
  cases hm:(z6 w).2 with
  |false=>
   rw [if_neg bh,if_neg bh]
   rfl
  |true=>
   rw [if_pos rfl,if_pos rfl,bN,Option.bind_some]
   by_cases h2:(d.length:Int)≥2
   ·rw [if_pos h2,if_pos ak]
    cases d with
    |nil=>simp at h2
    |cons b d'=>
     have h0:bt (au (b :: d')) 0=(b.toNat:Int):=rN (b :: d') 0 bw
     have hwd:wrap64 (((b :: d').length:Int) - 1)=(((b :: d').length - 1:Nat):Int):=by
      rw [List.length_cons]
      unfold wrap64
      rw [hlen,List.length_cons] at ht
      omega
     have hl1:(b :: d').length - 1 < (b :: d').length:=by rw [List.length_cons];omega
     have h1:bt (au (b :: d')) (((b :: d').length - 1:Nat):Int)=(((b :: d').getD ((b :: d').length - 1) 0).toNat:Int):=rN (b :: d') _ hl1
     rw [h0]
     by_cases hb:b=91
     ·subst hb
      rw [if_pos (show ((UInt8.toNat 91:Nat):Int)=91 from rfl),hwd,if_pos ak,if_pos ak,h1]
      refine CG _ _ ak _ ?_ k ak
      unfold bracketed
      rw [decide_eq_true ak]
      show _=(true && (true && _))
      rw [Bool.true_and,Bool.true_and]
      by_cases h93:(91 :: d').getD ((91 :: d').length - 1) 0=93
      ·rw [h93];rfl
      ·rw [beq_eq_false_iff_ne.mpr h93,beq_eq_false_iff_ne.mpr (show (((91 :: d').getD ((91 :: d').length - 1) 0).toNat:Int)≠93 from fun e=>h93 (iz (b:=93) e))]
     ·rw [if_neg (show ¬ (b.toNat:Int)=91 from fun e=>hb (iz (b:=91) e))]
      refine CG _ _ ak _ ?_ k ak
      unfold bracketed
      have:((b :: d').getD 0 0 == 91)=false:=beq_eq_false_iff_ne.mpr hb
      rw [this,Bool.false_and,Bool.and_false]
   ·rw [if_neg h2]
    refine CG _ _ ak _ ?_ k ak
    unfold bracketed
    rw [decide_eq_false ak]
    rfl
def xJ (lo dom:List UInt8) (lit:Bool):Bool:=decide (lo.length≤64) && (lit || lA dom)
theorem Iz (lo dom:List UInt8) (lit:Bool) (hd:dom.length < 4294967281) (k:Nat) (hk:dom.length + 2≤k):cF.f k (au lo) (au dom) lit=some (xJ lo dom lit):=by
 unfold cF.f xJ
 rw [bN]
 by_cases h64:lo.length≤64
 ·rw [if_pos ak,decide_eq_true h64,Bool.true_and]
  cases lit with
  |true=>rfl
  |false=>
   rw [if_neg bh,zY dom hd k hk]
   rfl
 ·rw [if_neg ak,decide_eq_false h64]
  rfl
def Yh (o:Option Nat):Int:=match o with
 |none=>-1
 |some n=>(n:Int)
theorem GH (s:ByteArray) (hs:s.size < 4294967281):∀ (n k p:Nat) (q:Bool),(rest s p).length < n→2 * (rest s p).length + 2≤k→bB.l0 k s q (p:Int)=some (match nI q (rest s p) with|none=>-1|some m=>((p + m:Nat):Int))
 | 0,_,_,_,h,_ =>absurd h (Nat.not_lt_zero _)
 |n + 1,k,p,q,hn,hk=>by
  obtain ⟨k,rfl⟩:∃ k',k=k' + 2:=⟨k - 2,ak⟩
  have hrl:=fX s p
  unfold bB.l0
  cases hr:rest s p with
  |nil=>
   have:=ng hr
   rw [if_neg ak]
   rfl
  |cons b l=>
   obtain ⟨h1,h2,h3⟩:=lH hr
   rw [hr,List.length_cons] at hn hk
   have step:∀ (m d:Nat),((p + 1:Nat):Int)=((p:Int) + 1):=fun _ _ =>by omega
   have go1:∀ q k,2 * l.length + 2≤k→bB.l0 k s q (((p + 1:Nat):Int))=some (match (nI q l).map (· + 1) with|none=>-1|some m=>((p + m:Nat):Int)):=by
    intro q k hk
    have ih:=GH s hs n k (p + 1) q (by rw [h3];omega) (by rw [h3];exact hk)
    rw [ih,h3]
    cases nI q l with
    |none=>rfl
    |some m=>
     show some (((p + 1 + m:Nat):Int))=some (((p + (m + 1):Nat):Int))
     congr 2
     omega
   rw [if_pos ak,if_pos ak,h2,jE p ak,mF]
   by_cases Ws:b=34
   ·subst Ws
    rw [if_pos (show ((UInt8.toNat 34:Nat):Int)=34 from rfl),if_pos rfl]
    exact go1 _ _ ak
   ·rw [if_neg (show ¬ (b.toNat:Int)=34 from fun e=>Ws (iz (b:=34) e)),if_neg Ws]
    cases q with
    |true=>
     rw [if_pos rfl]
     by_cases Wt:b=92
     ·subst Wt
      rw [if_pos ⟨rfl,rfl⟩]
      rw [bB.j1]
      rw [if_pos (by rfl),jE p ak,jE (p + 1) ak]
      cases l with
      |nil=>
       obtain ⟨k,rfl⟩:∃ k',k=k' + 1:=⟨k - 1,ak⟩
       have:=ng h3
       unfold bB.l0
       rw [if_neg ak]
      |cons c l'=>
       obtain ⟨g1,g2,g3⟩:=lH h3
       rw [List.length_cons] at hn hk
       have ih:=GH s hs n k (p + 1 + 1) true (by rw [g3];omega) (by rw [g3];omega)
       rw [ih,g3]
       simp only
       cases nI true l' with
       |none=>rfl
       |some m=>
        show some (((p + 1 + 1 + m:Nat):Int))=some (((p + (m + 2):Nat):Int))
        congr 2
        omega
     ·rw [if_neg (fun e=>Wt e.2),if_neg (fun e=>by cases e.1)]
      rw [bB.j1]
      rw [if_neg (by rw [beq_eq_false_iff_ne.mpr (show (b.toNat:Int)≠92 from fun e=>Wt (iz (b:=92) e))];decide),if_pos rfl,jE p ak]
      exact go1 _ _ ak
    |false=>
     rw [if_neg bh,if_neg (fun e=>by cases e.1)]
     rw [bB.j1]
     rw [if_neg bh,if_neg bh,if_pos ak,if_pos ak,h2]
     by_cases h62:b=62
     ·subst h62
      rw [if_pos (show ((UInt8.toNat 62:Nat):Int)=62 from rfl),if_pos ⟨rfl,rfl⟩]
      rfl
     ·rw [if_neg (show ¬ (b.toNat:Int)=62 from fun e=>h62 (iz (b:=62) e)),if_neg (fun e=>h62 e.2),jE p ak]
      exact go1 _ _ ak
theorem Yi (l:List UInt8) (hl:l.length < 4294967281) (k:Nat) (hk: 2 * l.length + 2≤k):bB.f k (au l)=some (Yh (nI false l)):=by
 unfold bB.f
 have:=GH (au l) uT _ k 0 false (Nat.lt_succ_self _) (by rw [mX];exact hk)
 rw [mX] at this
 rw [show (0:Int)=((0:Nat):Int) from rfl,this]
 unfold Yh
 cases nI false l with
 |none=>rfl
 |some m=>simp
end Go.Proofs.YtokpnfljjjjikaaGreatDoor.jI
namespace Go.Proofs.YtokpnfljjjjikaaGreatDoor.jI
open Go.RowKit Go.Proofs.YtokpnfljjjjikaaGreatDoor Go.Proofs.YtokpnfljjjjikaaGreatDoor.mY Go.Proofs.aj.bO Go.Proofs.aj.cK
set_option linter.unusedVariables false
set_option linter.unusedSimpArgs false
theorem z7 (k:Nat):gq.f k true [] ⟨#[]⟩ ⟨#[]⟩ false=some true:=by
 unfold gq.f
 rw [if_pos rfl,if_pos (by rfl)]
 decide +kernel
theorem GI (k:Nat):jM.f k true [] ⟨#[]⟩ ⟨#[]⟩ false=some (au [60,62],0):=by
 unfold jM.f
 rw [z7]
 rfl
theorem xK (k:Nat):gq.f k false [] jz ⟨#[]⟩ false=some true:=by
 unfold gq.f
 rw [if_neg bh,if_pos fk]
 rfl
def z8:List UInt8:=[60,112,111,115,116,109,97,115,116,101,114,62]
theorem Dh (k:Nat):jM.f k false [] jz ⟨#[]⟩ false=some (au z8,0):=by
 unfold jM.f
 rw [xK]
 simp only [Option.bind_some,if_true]
 rw [if_neg bh,if_pos fk]
 rfl
theorem GJ (k:Nat) (hk: 20 < k) (s:ByteArray) (q:Int):bZ.j0 k false s q false [] jz ⟨#[]⟩ false=some (false,[],jz,⟨#[]⟩,false,q,0):=by
 obtain ⟨k,rfl⟩:∃ k',k=k' + 1:=⟨k - 1,ak⟩
 have hw:eD.f k jz ⟨#[]⟩ false=some true:=by
  unfold eD.f
  rw [if_pos fk,if_neg bh,tu ⟨#[]⟩ k (show 0 + 2 < k by omega),show jx ⟨#[]⟩=true from by decide +kernel]
  rfl
 rw [bZ.j0,if_neg bh,hw]
 simp only [Option.bind_some,if_true]
 rw [if_neg bh,BC (g:=fun _ =>false) (k0:=0) (fun y hy=>by cases hy) k (by simp;omega) bw]
 rfl
theorem PG (t:List UInt8):gu (112 :: 111 :: 115 :: 116 :: 109 :: 97 :: 115 :: 116 :: 101 :: 114 :: 62 :: t)=true:=by
 have h1:(cS.g (au ([112,111,115,116,109,97,115,116,101,114]:List UInt8))).toList == ([112,111,115,116,109,97,115,116,101,114]:List UInt8):=by decide +kernel
 unfold gu
 have h2:(112 :: 111 :: 115 :: 116 :: 109 :: 97 :: 115 :: 116 :: 101 :: 114 :: 62 :: t).take 10=([112,111,115,116,109,97,115,116,101,114]:List UInt8):=rfl
 have h3:(112 :: 111 :: 115 :: 116 :: 109 :: 97 :: 115 :: 116 :: 101 :: 114 :: 62 :: t).drop 10=(62 :: t:List UInt8):=rfl
 rw [h2,h3,h1,decide_eq_true (by simp only [List.length_cons];omega)]
 rfl
theorem Di (t:List UInt8) (ht:t.length < 4294960000) (k:Nat) (hk:t.length + 40 < k):bZ.f k (au (z8 ++ t))=some (false,[],jz,⟨#[]⟩,false,12,0):=by
 have hd:(au (z8 ++ t)).data.toList=60 :: 112 :: 111 :: 115 :: 116 :: 109 :: 97 :: 115 :: 116 :: 101 :: 114 :: 62 :: t:=rfl
 have h:eK (112 :: 111 :: 115 :: 116 :: 109 :: 97 :: 115 :: 116 :: 101 :: 114 :: 62 :: t)=(true,[],jz,⟨#[]⟩,false,10):=by
  unfold eK
  rw [if_pos (PG t)]
 have hd1:(60 :: 112 :: 111 :: 115 :: 116 :: 109 :: 97 :: 115 :: 116 :: 101 :: 114 :: 62 :: t:List UInt8).drop 1=112 :: 111 :: 115 :: 116 :: 109 :: 97 :: 115 :: 116 :: 101 :: 114 :: 62 :: t:=rfl
 have hsz:(au (z8 ++ t)).size=t.length + 12:=by
  rw [bN,List.length_append,Nat.add_comm]
  rfl
 rw [sx _ ak k ak (by rw [hd];rfl) (by
  rw [hd]
  unfold xu
  rw [hd1,h]
  rfl),hd,hd1,h]
 exact GJ k ak _ _
theorem ae3 (ds:List (List UInt8)) (d:List UInt8) (h:d∈ds):d.length≤(dG ds).length:=by
 induction ds with
 |nil=>cases h
 |cons e ds ih=>
  cases ds with
  |nil=>
   rw [List.mem_singleton.mp h]
   show _≤(64 :: e).length
   simp
  |cons e2 ds=>
   have e0:(dG (e :: e2 :: ds)).length=e.length + (dG (e2 :: ds)).length + 2:=by
    show (64 :: (e ++ 44 :: dG (e2 :: ds))).length=_
    rw [List.length_cons,List.length_append,List.length_cons]
    omega
   rcases List.mem_cons.mp h with rfl|h
   ·omega
   ·have:=ih h
    omega
theorem BH (ds:List (List UInt8)) (lo dom:List UInt8) (lit:Bool):(∀ d,d∈ds→d.length≤(gv ds lo dom lit).length)∧dom.length + 1≤(gv ds lo dom lit).length:=by
 have hb:dom.length + 1≤(gL lo dom lit).length:=by
  unfold gL
  rw [List.length_append]
  cases lit with
  |true=>rw [if_pos rfl,List.length_cons,List.length_cons,List.length_append];omega
  |false=>rw [if_neg bh,List.length_cons];omega
 cases ds with
 |nil=>exact ⟨fun d hd=>(by cases hd),hb⟩
 |cons e ds=>
  have e0:(gv (e :: ds) lo dom lit).length=(dG (e :: ds)).length + (gL lo dom lit).length + 1:=by
   show (dG (e :: ds) ++ 58 :: gL lo dom lit).length=_
   rw [List.length_append,List.length_cons]
   omega
  refine ⟨fun d hd=>?_,ak⟩
  have:=ae3 _ d hd
  omega
structure ac5 (a:Bool) (R:List ByteArray) (lo dom:ByteArray) (lit:Bool) (n:Nat) (t:List UInt8):Prop where
 le:t.length≤n
 rt:∀ k,3000000≤k→gq.f k a R lo dom lit=some true
 pr:∀ k,3000000≤k→jM.f k a R lo dom lit=some (au t,0)
 rd:∀ k,3000000≤k→∀ more:List UInt8,more.length≤100000→bZ.f k (au (t ++ more))=some (a,R,lo,dom,lit,(t.length:Int),0)
 ne: 2≤t.length
theorem PI (k:Nat) (hk: 3000000≤k) (s:ByteArray) (hs:s.size≤100000) (a:Bool) (R:List ByteArray) (lo dom:ByteArray) (lit:Bool) (q:Int) (h:bZ.f k s=some (a,R,lo,dom,lit,q,0)):
 ∃ (n:Nat) (t:List UInt8),q=(n:Int)∧n≤s.size∧ac5 a R lo dom lit n t:=by
 have hlen:=gw s
 by_cases hn:∃ n,K3 s.data.toList n
 case neg=>
  rw [Cz s ak k ak (fun n h=>hn ⟨n,h⟩)] at h
  simp only [qy,Option.some.injEq,Prod.mk.injEq] at h
  exact absurd h.2.2.2.2.2.2 bh
 obtain ⟨n,hn⟩:=hn
 have hb:=T7 hn
 rcases hn with ⟨h1,rfl⟩|⟨h0,h1,rfl⟩
 ·rw [tq s ak k h1] at h
  simp only [BB,Option.some.injEq,Prod.mk.injEq] at h
  obtain ⟨rfl,rfl,rfl,rfl,rfl,rfl,_⟩:=h
  exact ⟨2,[60,62],rfl,ak,⟨bw,fun k hk=>z7 _,fun k hk=>GI _,fun k hk more hm=>tq _ (by rw [bN];simp;omega) k (by rfl),bw⟩⟩
 ·rw [sx s ak k ak h0 h1] at h
  have hy:=h1
  unfold xu at hy
  simp only [Bool.and_eq_true] at hy
  obtain ⟨⟨y1,y2⟩,y3⟩:=hy
  have DK:(s.data.toList.drop 1).length < 4294967281:=by rw [List.length_drop];omega
  by_cases ha:gu (s.data.toList.drop 1)=true
  ·have hi:eK (s.data.toList.drop 1)=(true,[],jz,⟨#[]⟩,false,10):=by
    unfold eK
    rw [if_pos ha]
   rw [hi] at h hb
   simp only at h hb
   rw [GJ _ ak] at h
   simp only [Option.some.injEq,Prod.mk.injEq] at h
   obtain ⟨rfl,rfl,rfl,rfl,rfl,rfl,_⟩:=h
   exact ⟨12,z8,rfl,ak,⟨by simp [z8],fun k hk=>xK _,fun k hk=>Dh _,fun k hk more hm=>Di more ak k ak,by simp [z8]⟩⟩
  ·obtain ⟨ds,K6,xL,yX,d1,d2,d3,d4,d5,d6⟩:=X5 _ DK (Bool.eq_false_iff.mpr ha) y2
   obtain ⟨w1,w2⟩:=BH ds K6 xL yX
   obtain ⟨m,hm⟩:∃ m,(eK (s.data.toList.drop 1)).2.2.2.2.2=m:=⟨_,rfl⟩
   rw [hm] at d3 d4 hb
   rw [d3] at h
   simp only at h
   have hds:ds.length≤1048600:=by
    have h1:=(xq (s.data.toList.drop 1)).1
    rw [d3] at h1
    simp only [List.length_map,List.length_drop] at h1
    omega
   rcases aj0 k s ((2 + m:Nat):Int) ds K6 xL yX 1048600 (fun d hd=>Nat.le_trans (w1 d hd) ak) ak ak ak with ⟨hf,hj⟩|hj
   ·have h:=hj.symm.trans h
    simp only [Option.some.injEq,Prod.mk.injEq] at h
    obtain ⟨rfl,rfl,rfl,rfl,rfl,rfl,_⟩:=h
    have hne:gv ds K6 xL yX≠ []:=by
     intro e
     rw [e] at w2
     simp at w2
    have hlt:(60 :: (gv ds K6 xL yX ++ [62])).length=(gv ds K6 xL yX).length + 2:=by
     rw [List.length_cons,List.length_append]
     rfl
    refine ⟨2 + m,60 :: (gv ds K6 xL yX ++ [62]),rfl,ak,⟨ak,fun k hk=>Gv d1 d2 hf d5 1048600 (fun d hd=>Nat.le_trans (w1 d hd) ak) ak ak _ ak,fun k hk=>M7 d1 d2 hf d5 1048600 (fun d hd=>Nat.le_trans (w1 d hd) ak) ak ak ak _ ak,fun k hk more hm=>?_,ak⟩⟩
    have hpb:=Gx d1 d2 hf 1048600 (fun d hd=>Nat.le_trans (w1 d hd) ak) ak ak hne k ak ak more ak ak
    rw [hlt]
    rw [← hpb]
    congr 2
    simp
   ·have h:=hj.symm.trans h
    simp only [Option.some.injEq,Prod.mk.injEq] at h
    exact absurd h.2.2.2.2.2.2 bh
theorem GK (d:List UInt8) (hl:d.length < 4294967281) (k:Nat) (hk:d.length + 3 < k):jk.f k (au d)=some (decide (eJ dS 46 d=(true,d.length)) && jx (au d)):=by
 unfold jk.f
 have h1:=domain_eq (au d) fZ k 0 (by rw [mX];omega) (Nat.zero_le _)
 rw [mX] at h1
 rw [show (0:Int)=((0:Nat):Int) from rfl,h1]
 simp only [Option.bind_some,Nat.zero_add]
 have e1:(mG d).1=(eJ dS 46 d).1:=rfl
 have e2:(mG d).2.2=(eJ dS 46 d).2:=rfl
 rw [e1,e2]
 by_cases h2:(eJ dS 46 d).1=true
 ·rw [if_pos h2]
  by_cases h3:(eJ dS 46 d).2=d.length
  ·rw [if_pos fZ,tu _ k fZ,decide_eq_true (Prod.ext h2 h3)]
   rfl
  ·rw [if_neg fZ,decide_eq_false (fun e=>h3 (by rw [e]))]
   rfl
 ·rw [if_neg h2,decide_eq_false (fun e=>h2 (by rw [e]))]
  rfl
end Go.Proofs.YtokpnfljjjjikaaGreatDoor.jI
namespace Go.Proofs.YtokpnfljjjjikaaGreatDoor.jI
open Go.RowKit Go.Proofs.YtokpnfljjjjikaaGreatDoor Go.Proofs.YtokpnfljjjjikaaGreatDoor.mY Go.Proofs.aj.bO Go.Proofs.aj.cK
set_option linter.unusedVariables false
set_option linter.unusedSimpArgs false
theorem IA (d:List UInt8) (hl:d.length < 4294967281):cS.f (au d)=some (au (d.map eX)):=by
 unfold cS.f
 rw [if_pos fZ,lN]
instance (d:List UInt8):Decidable (mK d):=by unfold mK;infer_instance
theorem Nh (d:List UInt8) (hl:d.length < 4294967281) (k:Nat) (hk:d.length + 3 < k):mE.f k (au d)=some (decide (mK d) && jx (au d)):=by
 unfold mE.f
 rw [GK d hl k hk]
 simp only [Option.bind_some]
 by_cases h1:eJ dS 46 d=(true,d.length)
 ·rw [decide_eq_true h1,Bool.true_and]
  cases hs:jx (au d) with
  |true=>
   rw [if_pos rfl,IA d hl]
   simp only [Option.bind_some]
   rw [toList_mk,toList_mk,Bool.and_true]
   by_cases h2:d.map eX=d
   ·rw [h2,decide_eq_true ⟨h1,h2⟩]
    simp
   ·rw [decide_eq_false (fun h:mK d=>h2 h.2)]
    simp [h2]
  |false=>
   rw [if_neg bh,Bool.and_false]
 ·rw [decide_eq_false h1,Bool.false_and,if_neg bh,decide_eq_false (fun h:mK d=>h1 h.1)]
  rfl
def yR (lo dom:List UInt8) (lit:Bool):Bool:=
 decide (lo.length≤64) && (if lit=true then tE dom && decide (dom.map eX=dom) else jx (au dom) && decide (mK dom))
def Ni (b:UInt8):Bool:=decide (yV b)
theorem IB (lo dom:List UInt8) (lit:Bool) (hlo:lo.length < 4294967281) (hl:dom.length < 4294967281):∀ (k i:Nat),lo.length - i + dom.length + 6 < k→i≤lo.length→
 dN.l0 k (lo.length:Int) (i:Int) (au lo) (au dom) lit=some ((lo.drop i).all Ni && yR lo dom lit)
 | 0,_,h,_ =>absurd h (Nat.not_lt_zero _)
 |k + 1,i,hk,hi=>by
  unfold dN.l0
  by_cases hlt:i < lo.length
  ·have hd:lo.drop i=lo[i] :: lo.drop (i + 1):=List.drop_eq_getElem_cons hlt
   have hb:bt (au lo) (i:Int)=(lo[i].toNat:Int):=by
    rw [rN lo i hlt,List.getD_eq_getElem?_getD,List.getElem?_eq_getElem hlt]
    rfl
   rw [if_pos ak,if_pos ak,if_pos fZ,hb,hd,List.all_cons]
   by_cases h1:lo[i] < 32
   ·rw [if_pos (F9.mpr h1)]
    have:Ni lo[i]=false:=decide_eq_false (fun h=>h (.inl h1))
    rw [this]
    rfl
   ·rw [if_neg (fun h=>h1 (F9.mp h))]
    by_cases h2: 126 < lo[i]
    ·rw [if_pos (xm.mpr h2)]
     have:Ni lo[i]=false:=decide_eq_false (fun h=>h (.inr h2))
     rw [this]
     rfl
    ·rw [if_neg (fun h=>h2 (xm.mp h)),jE i ak]
     have:Ni lo[i]=true:=decide_eq_true (fun h=>h.elim h1 h2)
     rw [this,Bool.true_and]
     exact IB lo dom lit hlo hl k (i + 1) ak ak
  ·rw [if_neg ak,List.drop_of_length_le ak,List.all_nil,Bool.true_and]
   unfold yR
   cases lit with
   |true=>
    rw [if_pos rfl,if_pos rfl,pJ lo dom true k ak]
    simp only [Option.bind_some,Bool.true_or,Bool.and_true]
    by_cases h64:lo.length≤64
    ·rw [decide_eq_true h64,if_pos rfl,vH dom hl k ak,Bool.true_and]
     simp only [Option.bind_some]
     cases hL:tE dom with
     |true=>
      rw [if_pos rfl,IA dom hl]
      simp only [Option.bind_some,Bool.true_and]
      rw [toList_mk,toList_mk]
      by_cases h2:dom.map eX=dom
      ·rw [decide_eq_true h2,h2];simp
      ·rw [decide_eq_false h2];simp [h2]
     |false=>rw [if_neg bh];rfl
    ·rw [decide_eq_false h64,if_neg bh];rfl
   |false=>
    rw [if_neg bh,if_neg bh,pJ lo dom false k ak]
    simp only [Option.bind_some,Bool.false_or]
    by_cases h64:lo.length≤64
    ·rw [decide_eq_true h64,Bool.true_and,Bool.true_and]
     cases hs:jx (au dom) with
     |true=>
      rw [if_pos rfl,Nh dom hl k ak,hs]
      simp
     |false=>rw [if_neg bh];rfl
    ·rw [decide_eq_false h64,Bool.false_and,if_neg bh];rfl
def boxedB (lo dom:List UInt8) (lit:Bool):Bool:=lo.all Ni && yR lo dom lit
theorem Nj (lo dom:List UInt8) (lit:Bool) (hlo:lo.length < 4294967281) (hl:dom.length < 4294967281) (k:Nat) (hk:lo.length + dom.length + 6 < k):dN.f k (au lo) (au dom) lit=some (boxedB lo dom lit):=by
 unfold dN.f boxedB
 rw [bN]
 have:=IB lo dom lit hlo hl k 0 ak (Nat.zero_le _)
 rw [List.drop_zero] at this
 exact this
theorem CI {lo dom:List UInt8} {lit:Bool} (hl:dom.length < 4294967281) (h:boxedB lo dom lit=true):vX lo dom lit∧lo.length≤64∧(lit=false→jx (au dom)=true)∧dom≠ []:=by
 unfold boxedB yR at h
 simp only [Bool.and_eq_true,decide_eq_true_eq,List.all_eq_true] at h
 obtain ⟨h1,h64,h2⟩:=h
 have hf:∀ b,b∈lo→yV b:=fun b hb=>of_decide_eq_true (h1 b hb)
 cases lit with
 |true=>
  simp only [if_true,Bool.and_eq_true,decide_eq_true_eq] at h2
  have hg:=Gp dom h2.1
  refine ⟨⟨hf,fun e=>(by cases e),fun _ =>⟨?_,hg.1,h2.2⟩⟩,h64,fun e=>(by cases e),?_⟩
  ·rw [yP dom hl];exact h2.1
  ·rintro rfl
   exact absurd h2.1 fk
 |false=>
  simp only [Bool.false_eq_true,if_false,Bool.and_eq_true,decide_eq_true_eq] at h2
  refine ⟨⟨hf,fun _ =>h2.2,fun e=>(by cases e)⟩,h64,fun _ =>h2.1,?_⟩
  obtain ⟨b,d',e,_⟩:=h2.2.head
  rw [e]
  simp
def nC (a:Bool) (ds:List (List UInt8)) (lo dom:List UInt8) (lit:Bool):Bool:=
 if a=true then decide (ds= []∧lo= []∧dom= []) && !lit
 else if lo= [112,111,115,116,109,97,115,116,101,114]∧dom= []∧lit=false then decide (ds= [])
 else boxedB lo dom lit && (decide (ds.length≤20) && ds.all fun d=>decide (mK d) && jx (au d))
theorem Yj (ds:List (List UInt8)) (M:Nat) (hM:∀ d,d∈ds→d.length≤M) (hl:M < 4294967281) (k:Nat) (hk:ds.length + M + 10 < k) (h20:ds.length≤20):
 cM.f k (ds.map au)=some (!(ds.all fun d=>decide (mK d) && jx (au d))):=by
 rw [M5 (g:=fun y=>!(decide (mK y.data.toList) && jx y)) (k0:=M + 4) (fun y hy k hk=>by
  obtain ⟨d,hd',rfl⟩:=List.mem_map.mp hy
  have:=hM d hd'
  unfold lf.f
  rw [Nh d ak k ak]
  rfl) k jX jX]
 congr 1
 clear hM hk h20
 induction ds with
 |nil=>rfl
 |cons d ds ih=>
  rw [List.map_cons,List.any_cons,List.all_cons,ih]
  exact (Bool.not_and ..).symm
theorem Dj (ds:List (List UInt8)) (lo dom:List UInt8) (lit:Bool):nC true ds lo dom lit=(decide (ds= []∧lo= []∧dom= []) && !lit):=rfl
theorem BI (ds:List (List UInt8)):nC false ds [112,111,115,116,109,97,115,116,101,114] [] false=decide (ds= []):=rfl
theorem GL (ds:List (List UInt8)) (lo dom:List UInt8) (lit:Bool) (hp: ¬ (lo= [112,111,115,116,109,97,115,116,101,114]∧dom= []∧lit=false)):
 nC false ds lo dom lit=(boxedB lo dom lit && (decide (ds.length≤20) && ds.all fun d=>decide (mK d) && jx (au d))):=by
 unfold nC
 rw [if_neg bh,if_neg hp]
theorem CJ (a:Bool) (ds:List (List UInt8)) (lo dom:List UInt8) (lit:Bool) (M:Nat) (hM:∀ d,d∈ds→d.length≤M) (hlo:lo.length≤M) (hd:dom.length≤M) (hl:M < 4294967281) (k:Nat) (hk: 2 * M + 110 < k):
 gq.f k a (ds.map au) (au lo) (au dom) lit=some (nC a ds lo dom lit):=by
 cases a with
 |true=>
  unfold gq.f
  rw [toList_mk,toList_mk,List.length_map,Dj,if_pos rfl]
  cases ds with
  |nil=>
   rw [if_pos (by rfl)]
   cases lo<;>cases dom<;>cases lit<;>rfl
  |cons d ds=>
   rw [if_neg D5]
   simp
 |false=>
  by_cases hp:lo= [112,111,115,116,109,97,115,116,101,114]∧dom= []∧lit=false
  ·obtain ⟨rfl,rfl,rfl⟩:=hp
   unfold gq.f
   rw [toList_mk,toList_mk,List.length_map,BI,if_neg bh,if_pos bh]
   cases ds with
   |nil=>rfl
   |cons d ds=>
    have e:(((d :: ds).length:Int) == 0)=false:=by
     rw [List.length_cons]
     exact beq_eq_false_iff_ne.mpr ak
    rw [e]
    simp
  ·unfold gq.f
   rw [toList_mk,toList_mk,List.length_map,GL ds lo dom lit hp,if_neg bh,if_neg (by
    intro h
    apply hp
    simp only [Bool.and_eq_true,beq_iff_eq,Bool.not_eq_true'] at h
    exact h),Nj lo dom lit ak ak k ak]
   simp only [Option.bind_some]
   cases hb:boxedB lo dom lit with
   |false=>
    rw [Bool.false_and]
    exact if_neg bh
   |true=>
    rw [if_pos rfl,Bool.true_and]
    by_cases h20:ds.length≤20
    ·rw [if_pos ak,Yj ds M hM hl k ak h20,decide_eq_true h20,Bool.true_and]
     simp
    ·rw [if_neg ak,decide_eq_false h20,Bool.false_and]
theorem Yk {lo dom:List UInt8} {lit:Bool} (h64:lo.length≤64) (hs:lit=false→jx (au dom)=true):Fits [] lo dom lit:=⟨h64,hs,Nat.zero_le _,fun d hd=>(by cases hd)⟩
theorem K9 (lo dom:List UInt8) (lit:Bool) (hlo:lo.length < 4294967281) (hl:dom.length < 4294967281) (k:Nat) (hk:lo.length + dom.length + 90 < k):
 gP.f k (au lo) (au dom) lit=some (if boxedB lo dom lit=true then (au (gL lo dom lit),0) else (⟨#[]⟩,150)):=by
 cases hb:boxedB lo dom lit with
 |true=>
  obtain ⟨h,h64,hs,hne⟩:=CI hl hb
  rw [if_pos rfl,De (ds:=[]) h (Yk h64 hs) hl k ak]
 |false=>
  unfold gP.f
  rw [Nj lo dom lit hlo hl k ak,hb]
  rfl
theorem Ux {a:Bool} {ds:List (List UInt8)} {lo dom:List UInt8} {lit:Bool} {k:Nat} (h:gq.f k a (ds.map au) (au lo) (au dom) lit=some false):
 jM.f k a (ds.map au) (au lo) (au dom) lit=some (⟨#[]⟩,150):=by
 unfold jM.f
 rw [h]
 rfl
theorem Uy {ds:List (List UInt8)} {lo dom:List UInt8} {lit:Bool} (hl:dom.length < 4294967281) (hp: ¬ (lo= [112,111,115,116,109,97,115,116,101,114]∧dom= []∧lit=false)) (h:nC false ds lo dom lit=true):
 boxedB lo dom lit=true∧(∀ d,d∈ds→mK d)∧vX lo dom lit∧Fits ds lo dom lit∧dom≠ []:=by
 unfold nC at h
 rw [if_neg bh,if_neg hp] at h
 simp only [Bool.and_eq_true,decide_eq_true_eq,List.all_eq_true] at h
 obtain ⟨h1,h2,h3⟩:=h
 obtain ⟨b1,b2,b3,b4⟩:=CI hl h1
 exact ⟨h1,fun d hd=>(h3 d hd).1,b1,⟨b2,b3,h2,fun d hd=>(h3 d hd).2⟩,b4⟩
theorem Nk (lo:List UInt8):boxedB lo [] false=false:=by
 cases h:boxedB lo [] false with
 |false=>rfl
 |true=>exact absurd rfl (CI bh h).2.2.2
end Go.Proofs.YtokpnfljjjjikaaGreatDoor.jI
namespace Go.Proofs.YtokpnfljjjjikaaGreatDoor.jI
open Go.RowKit Go.Proofs.YtokpnfljjjjikaaGreatDoor Go.Proofs.YtokpnfljjjjikaaGreatDoor.mY Go.Proofs.aj.bO Go.Proofs.aj.cK
set_option linter.unusedVariables false
set_option linter.unusedSimpArgs false
theorem ac6:∀ l:List UInt8,(qL l).length≤2 * l.length
 | []=>Nat.le_refl _
 |b :: l=>by
  have e:qL (b :: l)=qL [b] ++ qL l:=by
   have:=Ct [b] l
   simpa using this
  rw [e,List.length_append,List.length_cons]
  have:=X3 b
  have:=ac6 l
  omega
theorem Uz (l:List UInt8):(oN l).length≤2 * l.length + 2:=by
 unfold oN
 split
 ·omega
 ·have:=ac6 l
  simp only [List.length_cons,List.length_append,List.length_nil]
  omega
theorem GM (lo dom:List UInt8) (lit:Bool):(gL lo dom lit).length≤2 * lo.length + dom.length + 5:=by
 unfold gL
 have:=Uz lo
 rw [List.length_append]
 cases lit with
 |true=>
  rw [if_pos rfl]
  simp only [List.length_cons,List.length_append,List.length_nil]
  omega
 |false=>
  rw [if_neg bh,List.length_cons]
  omega
theorem CK (M:Nat):∀ ds:List (List UInt8),(∀ d,d∈ds→d.length≤M)→(dG ds).length≤ds.length * (M + 2)
 | [],_ =>Nat.zero_le _
 | [d],h=>by
   have:=h d (List.mem_cons_self ..)
   show (64 :: d).length≤_
   simp
   omega
 |d :: e :: ds,h=>by
  have h1:=h d (List.mem_cons_self ..)
  have h2:=CK M (e :: ds) (fun x hx=>h x (List.mem_cons_of_mem _ hx))
  show (64 :: (d ++ 44 :: dG (e :: ds))).length≤_
  rw [List.length_cons,List.length_append,List.length_cons,List.length_cons (a:=d),Nat.add_mul]
  omega
theorem UA {ds:List (List UInt8)} {lo dom:List UInt8} {lit:Bool} (hf:Fits ds lo dom lit):(gv ds lo dom lit).length≤dom.length + 6000:=by
 have h1:=GM lo dom lit
 have h2:=hf.los
 cases ds with
 |nil=>show (gL lo dom lit).length≤_;omega
 |cons d ds=>
  have h3:=CK 255 (d :: ds) (fun x hx=>by have:=PC _ (hf.each x hx);rwa [bN] at this)
  have h4:=hf.many
  have h5:(d :: ds).length * (255 + 2)≤20 * 257:=Nat.mul_le_mul_right 257 h4
  show (dG (d :: ds) ++ 58 :: gL lo dom lit).length≤_
  rw [List.length_append,List.length_cons]
  omega
end Go.Proofs.YtokpnfljjjjikaaGreatDoor.jI
namespace Go.Proofs.YtokpnfljjjjikaaGreatDoor.jI
open Go.RowKit Go.Proofs.YtokpnfljjjjikaaGreatDoor Go.Proofs.YtokpnfljjjjikaaGreatDoor.mY Go.Proofs.aj.bO Go.Proofs.aj.cK
set_option linter.unusedVariables false
set_option linter.unusedSimpArgs false
def vO:BA:=(false,[],⟨#[]⟩,⟨#[]⟩,false,0,3)
theorem PJ (x:List UInt8):lA (x.map eX)=lA x:=by
 unfold lA
 rw [vI Pm x,List.length_map,List.all_map]
 congr 2
 funext p
 show decide ((p.map eX).length≤63)=_
 rw [List.length_map]
theorem abq (xs:List (List UInt8)):(om xs).all lA=xs.all lA:=by
 unfold om
 rw [List.all_map]
 congr 1
 funext p
 exact PJ p
def qN (xs:List (List UInt8)) (lo dom:List UInt8) (lit:Bool):Bool:=xJ lo dom lit && (decide (xs.length≤20) && xs.all lA)
theorem Nl (xs:List (List UInt8)) (lo dom:List UInt8) (lit:Bool):qN (om xs) lo dom lit=qN xs lo dom lit:=by
 unfold qN
 rw [abq]
 unfold om
 rw [List.length_map]
def qz (l:List UInt8):BA:=match oG l with
 | .bad=>qy
 | .null=>BB
 | .alone=>(false,[],jz,⟨#[]⟩,false,12,0)
 | .box xs lo dom lit n=>if qN xs lo dom lit=true then (false,(om xs).map au,au lo,au dom,lit,(n:Int),0) else vO
theorem ae4 (k:Nat) (s:ByteArray) (q:Int) (ds:List (List UInt8)) (lo dom:List UInt8) (lit:Bool) (M:Nat) (hM:∀ d,d∈ds→d.length≤M) (hd:dom.length≤M) (hk:ds.length + M + 5 < k) (hl:ds.length < 4611686018427387904) (hM2:M < 4294967281):
 bZ.j0 k false s q false (ds.map au) (au lo) (au dom) lit=some (if qN ds lo dom lit=true then (false,ds.map au,au lo,au dom,lit,q,0) else vO):=by
 obtain ⟨k,rfl⟩:∃ k',k=k' + 1:=⟨k - 1,ak⟩
 rw [bZ.j0,if_neg bh,pJ lo dom lit k ak,Option.bind_some,BG dom ak]
 unfold qN xJ
 by_cases hw:(decide (lo.length≤64) && (lit || lA dom))=true
 ·rw [if_pos hw,List.length_map,hw,Bool.true_and]
  by_cases h20:ds.length≤20
  ·rw [if_neg ak,decide_eq_true h20,Bool.true_and]
   rw [BC (g:=fun y=>!jx y) (k0:=M + 3) (fun y hy k hk=>by
    obtain ⟨d,hd',rfl⟩:=List.mem_map.mp hy
    have:=hM d hd'
    exact CC _ k fZ) k jX (by rw [List.length_map];exact hl),Option.bind_some]
   have e:((ds.map au).any fun y=>!jx y)= !ds.all lA:=by
    clear hk hl h20
    induction ds with
    |nil=>rfl
    |cons d ds ih=>
     rw [List.map_cons,List.any_cons,List.all_cons,Bool.not_and,ih (fun x hx=>hM x (List.mem_cons_of_mem _ hx)),BG d (by have:=hM d (List.mem_cons_self ..);omega)]
   rw [e]
   cases ds.all lA<;>rfl
  ·rw [if_pos ak,decide_eq_false h20,Bool.false_and]
   rfl
 ·rw [if_neg hw,Bool.eq_false_iff.mpr hw,Bool.false_and]
  rfl
theorem GN (l:List UInt8) (hl:l.length≤1000000) (k:Nat) (hk: 3 * l.length + 100≤k):bZ.f k (au l)=some (qz l):=by
 have hs:(au l).size < 4294967281:=by rw [bN];omega
 unfold qz
 rcases Ul l ak with ⟨e,h⟩|⟨e,h1,h2,h3⟩|⟨xs,lo,dom,lit,n,e,h1,h2,h3,h4,h5⟩|⟨e,h1,h2⟩
 ·rw [e]
  exact tq (au l) hs k h
 ·rw [e,sx (au l) hs k fZ h1 h2]
  have hi:eK (l.drop 1)=(true,[],jz,⟨#[]⟩,false,10):=by
   unfold eK
   rw [if_pos h3]
  have hi2:eK ((au l).data.toList.drop 1)=(true,[],jz,⟨#[]⟩,false,10):=hi
  rw [hi2]
  exact GJ k ak _ _
 ·rw [e,sx (au l) hs k fZ h1 h2]
  have hi2:eK ((au l).data.toList.drop 1)=(true,(om xs).map au,au lo,au dom,lit,n):=h3
  rw [hi2]
  obtain ⟨z1,z2,z3⟩:=xq (l.drop 1)
  rw [h3,List.length_drop] at z1 z2 z3
  simp only [List.length_map,bN] at z1 z3
  simp only
  rw [ae4 k _ _ (om xs) lo dom lit l.length (fun d hd=>by
   have:=z2 (au d) (List.mem_map_of_mem hd)
   rw [bN] at this
   omega) ak ak ak ak,Nl,show ((2 + n:Nat):Int)=((n + 2:Nat):Int) by omega]
 ·rw [e]
  refine Cz (au l) hs k fZ (fun n h=>?_)
  rcases h with ⟨h,_⟩|⟨_,h,_⟩
  ·have:nN l=true:=h
   rw [h1] at this
   cases this
  ·have:xu l=true:=h
   rw [h2] at this
   cases this
def yS (n:Nat) (b:List UInt8) (lg:Bool) (R:List ByteArray):BA:=match l7 b with
 |none=>qy
 |some (lo,dom,lit)=>if (!lg && (decide (R.length≤20) && xJ lo dom lit))=true then (false,R,au lo,au dom,lit,((n + 1:Nat):Int),0) else vO
theorem Tf (n:Nat) (hn:n < 4294967281) (b:List UInt8) (hb:b.length < 4294967281) (lg:Bool) (R:List ByteArray) (c d:ByteArray) (e:Bool) (k:Nat) (hk: 3 * b.length + 40≤k):
 aG.j3 k (n:Int) (au b) lg false R c d e=some (yS n b lg R):=by
 obtain ⟨k,rfl⟩:∃ k',k=k' + 1:=⟨k - 1,ak⟩
 rw [aG.j3,Ng b hb k ak,Option.bind_some]
 unfold yS
 cases hx:l7 b with
 |none=>rfl
 |some p=>
  obtain ⟨lo,dom,lit⟩:=p
  have DK:dom.length≤b.length:=by
   obtain ⟨w,d,B⟩:=(tX b lo dom lit).mp hx
   rw [B.tx]
   rcases B.dd with ⟨_,x,rfl,_,rfl⟩|⟨_,_,rfl⟩
   ·simp only [List.length_append,List.length_cons,List.length_map];omega
   ·simp only [List.length_append,List.length_cons,List.length_map];omega
  show (if true=true then _ else _)=_
  rw [if_pos rfl]
  cases lg with
  |true=>rfl
  |false=>
   rw [if_neg bh]
   by_cases h20:R.length≤20
   ·rw [if_neg ak]
    show ((cF.f k (au lo) (au dom) lit).bind fun WZ=>if WZ=true then some (false,R,au lo,au dom,lit,wrap64 ((n:Int) + 1),0) else some (false,[],⟨#[]⟩,⟨#[]⟩,false,0,3))=_
    rw [Iz lo dom lit ak k ak,Option.bind_some,decide_eq_true h20,jE n ak]
    show _=some (if (!false && (true && xJ lo dom lit))=true then (false,R,au lo,au dom,lit,((n + 1:Nat):Int),0) else vO)
    cases xJ lo dom lit<;>rfl
   ·rw [if_pos ak,decide_eq_false h20]
    rfl
theorem GP (n i58:Nat) (t b:List UInt8) (hn:n < 4294967281) (ht:t.length < 4294967281) (hi:i58 < t.length) (hb:t.drop (i58 + 1)=b) (ps:List (List UInt8)) (hps:∀ p,p∈ps→p.length≤t.length) (hpl:ps.length < 4294967281):
 ∀ (m i:Nat),ps.length - i=m→i≤ps.length→∀ (lg:Bool) (acc:List ByteArray),acc.length + (ps.length - i) < 4294967290→∀ k,3 * t.length + 50 + 2 * m≤k→
   aG.l0 k (n:Int) (au t) lg (i58:Int) (ps.map au) (i:Int) false acc ⟨#[]⟩ ⟨#[]⟩ false=
     some (if (ps.drop i).all qK=true then yS n b (lg || (ps.drop i).any fun p=>!lA (p.drop 1)) (acc ++ (ps.drop i).map fun p=>au ((p.drop 1).map eX)) else qy)
 | 0,i,hm,hil,lg,acc,ha,k,hk=>by
   obtain ⟨k,rfl⟩:∃ k',k=k' + 1:=⟨k - 1,ak⟩
   have hbl:b.length < 4294967281:=by rw [← hb,List.length_drop];omega
   rw [aG.l0,List.length_map,if_neg ak,jE i58 ak,if_pos ak,if_pos fZ,Int.toNat_natCast,tB,hb,Tf n hn b hbl lg acc _ _ _ k (by rw [← hb,List.length_drop];omega),List.drop_of_length_le ak]
   simp
 |m + 1,i,hm,hil,lg,acc,ha,k,hk=>by
  obtain ⟨k,rfl⟩:∃ k',k=k' + 2:=⟨k - 2,ak⟩
  have hlt:i < ps.length:=by omega
  have hrd:=rd_mk ps i hlt
  have hd:ps.drop i=ps[i] :: ps.drop (i + 1):=List.drop_eq_getElem_cons hlt
  have hpt:=hps _ (List.getElem_mem hlt)
  obtain ⟨p,hp⟩:∃ p,ps[i]=p:=⟨_,rfl⟩
  rw [hp] at hrd hd hpt
  have hjt:aG.j2 (k + 1) (n:Int) (au t) lg (i58:Int) (ps.map au) (i:Int) true false acc ⟨#[]⟩ ⟨#[]⟩ false=some qy:=by
   rw [aG.j2,if_pos rfl]
   rfl
  have hjf: 1≤p.length→aG.j2 (k + 1) (n:Int) (au t) lg (i58:Int) (ps.map au) (i:Int) false false acc ⟨#[]⟩ ⟨#[]⟩ false=some (if (ps.drop (i + 1)).all qK=true then yS n b ((lg || !lA (p.drop 1)) || (ps.drop (i + 1)).any fun p=>!lA (p.drop 1)) ((acc ++ [au ((p.drop 1).map eX)]) ++ (ps.drop (i + 1)).map fun p=>au ((p.drop 1).map eX)) else qy):=by
   intro h1
   have hpd:(p.drop 1).length < 4294967281:=by rw [List.length_drop];omega
   have awW:(p.drop 1).length≤t.length:=by rw [List.length_drop];omega
   have he:(au p).extract 1 p.length=au (p.drop 1):=tB p 1
   have ih:=fun lg=>GP n i58 t b hn ht hi hb ps hps hpl m (i + 1) ak ak lg (acc ++ [au ((p.drop 1).map eX)]) (by rw [List.length_append,List.length_cons,List.length_nil];omega) k ak
   rw [aG.j2,if_neg bh,if_pos ak,List.length_map,if_pos ak,hrd,bN,if_pos ak,he,tv _ hpd k ak,Option.bind_some,if_pos ak,Option.bind_some,jE i ak]
   cases lg with
   |true=>
    rw [if_pos rfl,ih true]
    rfl
   |false=>
    rw [if_neg bh,zY _ hpd k ak,Option.bind_some,ih]
    rfl
  rw [aG.l0,List.length_map,if_pos ak,if_pos ak,hrd,toList_mk,bN,hd,List.all_cons,List.any_cons,List.map_cons]
  cases p with
  |nil=>
   rw [if_pos rfl,hjt]
   rfl
  |cons c x=>
   have h0:bt (au (c :: x)) 0=(c.toNat:Int):=rN (c :: x) 0 bw
   have he:(au (c :: x)).extract 1 (c :: x).length=au x:=tB (c :: x) 1
   have hxl:x.length < 4294967281:=by rw [List.length_cons] at hpt;omega
   rw [if_neg bw,if_pos bw,h0]
   by_cases hc:c=64
   ·subst hc
    rw [if_pos (show ((UInt8.toNat 64:Nat):Int)=64 from rfl),if_pos D5,he,CD x hxl k.succ (by rw [List.length_cons] at hpt;omega),Option.bind_some]
    have hok:qK (64 :: x)=kC x:=rfl
    rw [hok]
    cases kC x with
    |false=>
     rw [show (!false)=true from rfl,hjt]
     rfl
    |true=>
     rw [show (!true)=false from rfl,hjf D5,Bool.true_and]
     simp only [List.append_assoc,List.cons_append,List.nil_append,Bool.or_assoc]
   ·rw [if_neg (show ¬ (c.toNat:Int)=64 from fun e=>hc (iz (b:=64) e)),hjt]
    have hok:qK (c :: x)=false:=by
     show (c == 64 && kC x)=false
     rw [beq_eq_false_iff_ne.mpr hc]
     rfl
    rw [hok,Bool.false_and]
    rfl
theorem Tg (l:List UInt8) (hl:l.length≤1000000) (k:Nat) (hk: 5 * l.length + 100≤k):aG.f k (au l)=some (qz l):=by
 obtain ⟨k,rfl⟩:∃ k',k=k' + 1:=⟨k - 1,ak⟩
 have hbad:aG.j0 (k + 1) (au l) (Yh (nI false l)) true=some qy:=by
  rw [aG.j0,if_pos rfl]
  rfl
 unfold aG.f qz oG
 rw [Yi l ak (k + 1) ak,Option.bind_some]
 cases he:nI false l with
 |none=>
  rw [he] at hbad
  rw [if_pos bh]
  exact hbad
 |some n=>
  rw [he,show Yh (some n)=(n:Int) from rfl] at hbad
  rw [show Yh (some n)=(n:Int) from rfl]
  obtain ⟨t0,u,ht0,abj⟩:=tj _ false l n (Nat.lt_succ_self _) he
  have hlen:=congrArg List.length ht0
  rw [List.length_append,List.length_cons,abj] at hlen
  by_cases hn1:n < 1
  ·rw [if_pos ak]
   simp only
   rw [if_neg (fun e=>by omega)]
   exact hbad
  ·rw [if_neg ak,if_pos fZ]
   simp only
   cases l with
   |nil=>simp at hlen
   |cons c l2=>
    have h0:bt (au (c :: l2)) 0=(c.toNat:Int):=rN (c :: l2) 0 bw
    rw [h0]
    by_cases hc:c=60
    case neg=>
     rw [bne_iff_ne.mpr (show (c.toNat:Int)≠60 from fun e=>hc (iz (b:=60) e)),if_neg (fun e=>hc (beq_iff_eq.mp (show (c == 60)=true from e.1)))]
     exact hbad
    subst hc
    rw [if_pos ⟨rfl,ak⟩]
    have hin:(au (60 :: l2)).extract 1 ((n:Int)).toNat=au (((60 :: l2).drop 1).take (n - 1)):=by rw [Int.toNat_natCast,EG]
    obtain ⟨t,ht⟩:∃ t,((60 :: l2).drop 1).take (n - 1)=t:=⟨_,rfl⟩
    have htl:t.length + 1=n:=by
     rw [← ht,List.length_take,List.drop_one,List.tail_cons]
     rw [List.length_cons] at hlen
     omega
    have aj3:=hlen
    rw [List.length_cons] at hl hk aj3
    have htb:t.length + 1≤l2.length:=by omega
    rw [ht]
    rw [show ((((60:UInt8).toNat:Nat):Int) != 60)=false from rfl,aG.j0,if_neg bh]
    show (if 1≤(n:Int) then _ else _)=_
    rw [if_pos ak]
    show (if (n:Int)≤((au (60 :: l2)).size:Int) then _ else _)=_
    rw [if_pos fZ]
    show (if ((au (60 :: l2)).extract 1 ((n:Int)).toNat).toList= [] then _ else _)=_
    rw [hin,ht,toList_mk]
    by_cases hnil:t= []
    ·rw [if_pos hnil,if_pos hnil]
     rfl
    rw [if_neg hnil,if_neg hnil,tv t ak k ak,Option.bind_some,toList_mk]
    by_cases hal:t.map eX=xE
    ·have h10:t.length=10:=by
      have:=congrArg List.length hal
      rwa [List.length_map] at this
     rw [if_pos (show t.map eX= [112,111,115,116,109,97,115,116,101,114] from hal),if_pos hal]
     have ary:n=11:=by omega
     subst ary
     rw [show wrap64 (((11:Nat):Int) + 1)=12 by unfold wrap64;omega]
     rfl
    rw [if_neg (show ¬ t.map eX= [112,111,115,116,109,97,115,116,101,114] from hal),if_neg hal]
    have hpos: 0 < t.length:=List.length_pos_iff.mpr hnil
    rw [if_pos fZ]
    cases t with
    |nil=>exact absurd rfl hnil
    |cons c2 t2=>
     have h02:bt (au (c2 :: t2)) 0=(c2.toNat:Int):=rN (c2 :: t2) 0 bw
     rw [h02]
     have hfin:∀ (xs:List (List UInt8)) (b:List UInt8),yS n b (xs.any fun x=>!lA x) (xs.map fun x=>au (x.map eX))=(match ((l7 b).bind fun m=>some (xs,m.1,m.2.1,m.2.2):Option InR) with|none=>qy|some (xs,lo,dom,lit)=>if qN xs lo dom lit=true then (false,(om xs).map au,au lo,au dom,lit,((n + 1:Nat):Int),0) else vO):=by
      intro xs b
      unfold yS
      cases l7 b with
      |none=>rfl
      |some m=>
       obtain ⟨lo,dom,lit⟩:=m
       simp only [Option.bind_some]
       have e1:(xs.any fun x=>!lA x)= !xs.all lA:=by
        induction xs with
        |nil=>rfl
        |cons x xs ih=>rw [List.any_cons,List.all_cons,Bool.not_and,ih]
       have e2:(xs.map fun x=>au (x.map eX))=(om xs).map au:=by
        unfold om
        rw [List.map_map]
        rfl
       rw [e1,e2,List.length_map]
       unfold qN om
       rw [List.length_map]
       cases xs.all lA<;>cases decide (xs.length≤20)<;>cases xJ lo dom lit<;>rfl
     have ae5:∀ o:Option InR,(match (match o with|none=>ae2.bad|some (xs,lo,dom,lit)=>ae2.box xs lo dom lit (n + 1)) with| .bad=>qy| .null=>BB| .alone=>(false,[],jz,⟨#[]⟩,false,12,0)| .box xs lo dom lit n=>if qN xs lo dom lit=true then (false,(om xs).map au,au lo,au dom,lit,(n:Int),0) else vO)=(match o with|none=>qy|some (xs,lo,dom,lit)=>if qN xs lo dom lit=true then (false,(om xs).map au,au lo,au dom,lit,((n + 1:Nat):Int),0) else vO):=by
      intro o
      cases o with
      |none=>rfl
      |some p=>rfl
     refine Eq.trans ?_ (congrArg some (ae5 _).symm)
     unfold vN
     by_cases h64:c2=64
     ·subst h64
      rw [if_pos (show ((UInt8.toNat 64:Nat):Int)=64 from rfl),if_pos (show bX 64 (64 :: t2)=true from rfl),Iw (64 :: t2) 58 ak,Option.bind_some]
      rcases uG 58 (64 :: t2) with hno|⟨R,b,hRb,hR⟩
      ·rw [GC 58 _ hno,if_pos bh,uv 58 _ hno]
       rfl
      ·have hRl:=congrArg List.length hRb
       simp only [List.length_append,List.length_cons] at hRl
       have hlc:(64 :: t2).length=t2.length + 1:=rfl
       simp only [List.length_cons] at htl hpos htb
       rw [hRb,index_one 58 b R hR,qM 58 b R hR,if_neg ak,if_pos ak,if_pos (by rw [bN,List.length_append,List.length_cons];omega),Int.toNat_natCast,xH,List.take_left,xG R 44 ak,Option.bind_some]
       have hrun:=GP n R.length (R ++ 58 :: b) b ak (by rw [← hRb];omega) (by rw [List.length_append,List.length_cons];omega) (by rw [← List.drop_drop,List.drop_left];rfl) (pieces 44 R) (fun p hp=>by
        have:=Gm 44 R p hp
        rw [List.length_append]
        omega) (by have:=nP 44 R;omega) (pieces 44 R).length 0 ak (Nat.zero_le _) false [] (by simp only [List.length_nil];have:=nP 44 R;omega) k (by
        have:=nP 44 R
        rw [← hRb]
        omega)
       rw [List.drop_zero,List.nil_append,Bool.false_or,show ((0:Nat):Int)=0 from rfl] at hrun
       rw [hrun]
       congr 1
       simp only [Option.bind_some]
       unfold yQ
       by_cases hall:(pieces 44 R).all qK=true
       ·rw [if_pos hall,if_pos hall]
        have:=hfin ((pieces 44 R).map fun p=>p.drop 1) b
        rw [List.any_map,List.map_map] at this
        exact this
       ·rw [if_neg hall,if_neg hall]
        rfl
     ·rw [if_neg (show ¬ (c2.toNat:Int)=64 from fun e=>h64 (iz (b:=64) e)),if_neg (show ¬ bX 64 (c2 :: t2)=true from fun e=>h64 (beq_iff_eq.mp (show (c2 == 64)=true from e))),Tf n ak (c2 :: t2) ak false [] _ _ _ k ak]
      exact congrArg some (hfin [] (c2 :: t2))
end Go.Proofs.YtokpnfljjjjikaaGreatDoor.jI
namespace Go.Proofs.YtokpnfljjjjikaaGreatDoor.jI
open Go.RowKit Go.Proofs.YtokpnfljjjjikaaGreatDoor Go.Proofs.YtokpnfljjjjikaaGreatDoor.mY Go.Proofs.aj.bO Go.Proofs.aj.cK
set_option linter.unusedVariables false
set_option linter.unusedSimpArgs false
def IC (l:List UInt8):ByteArray×ByteArray×Bool×Int:=match l7 l with
 |none=>(⟨#[]⟩,⟨#[]⟩,false,150)
 |some (lo,dom,lit)=>if xJ lo dom lit=true then (au lo,au dom,lit,0) else (⟨#[]⟩,⟨#[]⟩,false,3)
theorem GQ {l lo dom:List UInt8} {lit:Bool} (h:l7 l=some (lo,dom,lit)):dom.length≤l.length:=by
 obtain ⟨w,d,B⟩:=(tX l lo dom lit).mp h
 rw [B.tx]
 rcases B.dd with ⟨_,x,rfl,_,rfl⟩|⟨_,_,rfl⟩
 ·simp only [List.length_append,List.length_cons,List.length_map];omega
 ·simp only [List.length_append,List.length_cons,List.length_map];omega
theorem UB (l:List UInt8) (hl:l.length < 4294967281) (k:Nat) (hk: 3 * l.length + 30≤k):fQ.f k (au l)=some (IC l):=by
 unfold fQ.f IC
 rw [Ng l hl k hk,Option.bind_some]
 cases h:l7 l with
 |none=>rfl
 |some p=>
  obtain ⟨lo,dom,lit⟩:=p
  have DK:=GQ h
  show ((cF.f k (au lo) (au dom) lit).bind fun OX=>if OX=true then some (au lo,au dom,lit,0) else some (⟨#[]⟩,⟨#[]⟩,false,3))=some (if xJ lo dom lit=true then (au lo,au dom,lit,0) else (⟨#[]⟩,⟨#[]⟩,false,3))
  rw [Iz lo dom lit ak k ak,Option.bind_some]
  cases xJ lo dom lit<;>rfl
theorem UC (l:List UInt8) (hl:l.length < 4294967281) (k:Nat) (hk: 3 * l.length + 30≤k):gI.f k (au l)=some (IC l):=by
 obtain ⟨k,rfl⟩:∃ k',k=k' + 1:=⟨k - 1,ak⟩
 have hb:=XM (au l) uT (k + 1) 0 (by rw [mX];omega) (Nat.zero_le _)
 rw [mX,Nat.zero_add] at hb
 have hnone:∀ x y z,gI.j0 (k + 1) true x y z=some (⟨#[]⟩,⟨#[]⟩,false,150):=fun x y z=>by
  rw [gI.j0,if_pos rfl]
 have ac7:∀ {lo dom:List UInt8} {lit:Bool},l7 l=some (lo,dom,lit)→jV l=(true,au lo,au dom,lit,l.length):=by
  intro lo dom lit h
  obtain ⟨w,d,B⟩:=(tX l lo dom lit).mp h
  have:=Cw B (u:=[]) (S7 _) rfl
  rwa [List.append_nil] at this
 have hno:(∀ lo dom lit,l7 l≠some (lo,dom,lit))→IC l=(⟨#[]⟩,⟨#[]⟩,false,150):=by
  intro h
  unfold IC
  cases hx:l7 l with
  |none=>rfl
  |some p=>exact absurd hx (h p.1 p.2.1 p.2.2)
 unfold gI.f
 rw [show (0:Int)=((0:Nat):Int) from rfl,hb,Option.bind_some]
 simp only
 by_cases h1:(jV l).1=true
 ·rw [if_pos h1,bN]
  obtain ⟨lo,dom,lit,w,d,B,e⟩:=Gs l hl h1
  obtain ⟨n,hn⟩:∃ n,(jV l).2.2.2.2=n:=⟨_,rfl⟩
  rw [hn] at B e ⊢
  rw [e]
  simp only
  by_cases hnl:n=l.length
  ·subst hnl
   rw [List.take_length] at B
   have h2:=(tX l lo dom lit).mpr ⟨w,d,B⟩
   have DK:=GQ h2
   rw [show ((l.length:Int) != (l.length:Int))=false by simp,gI.j0,if_neg bh,pJ lo dom lit k ak,Option.bind_some,BG dom ak]
   unfold IC
   rw [h2]
   show _=some (if (decide (lo.length≤64) && (lit || lA dom))=true then (au lo,au dom,lit,0) else (⟨#[]⟩,⟨#[]⟩,false,3))
   cases (decide (lo.length≤64) && (lit || lA dom))<;>rfl
  ·rw [bne_iff_ne.mpr (show (n:Int)≠(l.length:Int) by omega),hnone,hno]
   intro K6 xL yX h2
   have e2:=ac7 h2
   rw [e] at e2
   exact hnl (congrArg (fun x:Bool×ByteArray×ByteArray×Bool×Nat=>x.2.2.2.2) e2)
 ·rw [if_neg h1,hnone,hno]
  intro K6 xL yX h2
  rw [ac7 h2] at h1
  exact h1 rfl
theorem UD (l:List UInt8):xy l=lu true l:=by
 rw [Bw _ l (Nat.lt_succ_self _)]
 unfold xy
 by_cases h:eJ gJ 46 l=(true,l.length)
 ·rw [decide_eq_true h,h]
  simp
 ·rw [decide_eq_false h]
  cases h1:(eJ gJ 46 l).1 with
  |false=>rfl
  |true=>
   rw [Bool.true_and]
   exact beq_eq_false_iff_ne.mpr fun e=>h (Prod.ext h1 e)
def BJ (dom:List UInt8) (lit:Bool):List UInt8:=if lit=true then 64 :: 91 :: (dom ++ [93]) else 64 :: dom
theorem vP (lo dom:List UInt8) (lit:Bool) (hlo:lo.length < 1000000) (hd:dom.length < 1000000):∀ (k i:Nat) (acc:List UInt8),lo.length - i < k→i≤lo.length→acc.length≤2 * i + 1→
 bH.l0 k (au acc) (i:Int) (au lo) (au dom) lit=some (au (acc ++ (qL (lo.drop i) ++ (34 :: BJ dom lit))))
 | 0,_,_,h,_,_ =>absurd h (Nat.not_lt_zero _)
 |k + 1,i,acc,h,hi,ha=>by
  unfold bH.l0
  rw [bN]
  by_cases hlt:i < lo.length
  ·have hb:bt (au lo) (i:Int)=(lo[i].toNat:Int):=by
    rw [rN lo i hlt,List.getD_eq_getElem?_getD,List.getElem?_eq_getElem hlt]
    rfl
   have hdi:lo.drop i=lo[i] :: lo.drop (i + 1):=List.drop_eq_getElem_cons hlt
   have hw:=jE i ak
   have he:(au lo).extract ((i:Int)).toNat (((i + 1:Nat):Int)).toNat=au [lo[i]]:=by
    rw [Int.toNat_natCast,Int.toNat_natCast,EG,hdi,show i + 1 - i=1 by omega]
    rfl
   have q1:au acc ++ (⟨#[92]⟩:ByteArray)=au (acc ++ [92]):=iL acc [92]
   have eq:qL (lo[i] :: lo.drop (i + 1))=(if lo[i]=34∨lo[i]=92 then [92,lo[i]] else [lo[i]]) ++ qL (lo.drop (i + 1)):=rfl
   rw [if_pos ak,if_pos ak,hb,hw,he,q1,iL,iL,hdi,eq]
   have esc:(if (au acc).size + 1≤9223372036854775807 then (if (i:Int)≤(((i + 1:Nat):Int)) then (if (((i + 1:Nat):Int))≤(lo.length:Int) then (if (au (acc ++ [92])).size + (au [lo[i]]).size≤9223372036854775807 then (bH.l0 k (au (acc ++ [92] ++ [lo[i]])) (((i + 1:Nat):Int)) (au lo) (au dom) lit) else none) else none) else none) else none)=some (au (acc ++ (([92,lo[i]] ++ qL (lo.drop (i + 1))) ++ (34 :: BJ dom lit)))):=by
    rw [if_pos fZ,if_pos ak,if_pos ak,if_pos DY,vP lo dom lit hlo hd k (i + 1) _ ak ak DZ]
    simp
   by_cases Ws:lo[i]=34
   ·rw [if_pos (show (lo[i].toNat:Int)=34 by rw [Ws];rfl),if_pos (show lo[i]=34∨lo[i]=92 from .inl Ws)]
    exact esc
   ·rw [if_neg (show ¬ (lo[i].toNat:Int)=34 from fun e=>Ws (iz (b:=34) e))]
    by_cases Wt:lo[i]=92
    ·rw [if_pos (show (lo[i].toNat:Int)=92 by rw [Wt];rfl),if_pos (show lo[i]=34∨lo[i]=92 from .inr Wt)]
     exact esc
    ·rw [if_neg (show ¬ (lo[i].toNat:Int)=92 from fun e=>Wt (iz (b:=92) e)),if_neg (show ¬ (lo[i]=34∨lo[i]=92) from fun e=>e.elim Ws Wt),if_pos ak,if_pos ak,if_pos (by simp only [bN,List.length_cons,List.length_nil];omega),vP lo dom lit hlo hd k (i + 1) _ ak ak DZ]
     simp
  ·have q0:au acc ++ (⟨#[34]⟩:ByteArray)=au (acc ++ [34]):=iL acc [34]
   have q1:au (acc ++ [34]) ++ (⟨#[64,91]⟩:ByteArray)=au (acc ++ [34] ++ [64,91]):=iL _ [64,91]
   have q2:au (acc ++ [34]) ++ (⟨#[64]⟩:ByteArray)=au (acc ++ [34] ++ [64]):=iL _ [64]
   have q3:au (acc ++ [34] ++ [64,91] ++ dom) ++ (⟨#[93]⟩:ByteArray)=au (acc ++ [34] ++ [64,91] ++ dom ++ [93]):=iL _ [93]
   rw [if_neg ak,q0,q1,q2,iL,iL,q3,List.drop_of_length_le ak]
   simp only [bN,List.length_append,List.length_cons,List.length_nil]
   rw [if_pos ak]
   unfold BJ
   cases lit with
   |true=>
    rw [if_pos rfl,if_pos ak,if_pos ak,if_pos ak,if_pos rfl]
    simp [qL]
   |false=>
    rw [if_neg bh,if_pos ak,if_pos ak,if_neg bh]
    simp [qL]
theorem BK (lo dom:List UInt8) (lit:Bool) (hlo:lo.length < 1000000) (hd:dom.length < 1000000) (k:Nat) (hk:lo.length + 2≤k):bH.f k (au lo) (au dom) lit=some (au (gL lo dom lit)):=by
 unfold bH.f gL oN
 rw [GG lo ak k ak,Option.bind_some,UD]
 cases hp:lu true lo with
 |true=>
  have q1:au lo ++ (⟨#[64,91]⟩:ByteArray)=au (lo ++ [64,91]):=iL _ [64,91]
  have q2:au lo ++ (⟨#[64]⟩:ByteArray)=au (lo ++ [64]):=iL _ [64]
  have q3:au (lo ++ [64,91] ++ dom) ++ (⟨#[93]⟩:ByteArray)=au (lo ++ [64,91] ++ dom ++ [93]):=iL _ [93]
  rw [if_pos rfl,if_pos rfl,q1,q2,iL,iL,q3]
  simp only [bN,List.length_append,List.length_cons,List.length_nil]
  cases lit with
  |true=>
   rw [if_pos rfl,if_pos ak,if_pos ak,if_pos ak,if_pos rfl]
   simp
  |false=>
   rw [if_neg bh,if_pos ak,if_pos ak,if_neg bh]
   simp
 |false=>
  rw [if_neg bh,if_neg bh]
  have h:=vP lo dom lit hlo hd k 0 [34] ak (Nat.zero_le _) bw
  rw [List.drop_zero] at h
  refine Eq.trans h ?_
  unfold BJ
  cases lit<;>simp
def Yl:List (List UInt8)→List UInt8
 | []=>[]
 |d :: ds=>64 :: (d ++ (if ds= [] then 58 else 44) :: Yl ds)
theorem ae6 (ds:List (List UInt8)) (h:ds≠ []) (w:List UInt8):Yl ds ++ w=dG ds ++ 58 :: w:=by
 induction ds with
 |nil=>exact absurd rfl h
 |cons d ds ih=>
  by_cases hd:ds= []
  ·subst hd
   show 64 :: (d ++ (if ([]:List (List UInt8))= [] then 58 else 44) :: Yl []) ++ w=64 :: d ++ 58 :: w
   rw [if_pos rfl]
   simp [Yl]
  ·rw [mL d hd]
   show 64 :: (d ++ (if ds= [] then 58 else 44) :: Yl ds) ++ w=_
   rw [if_neg hd]
   have:=ih hd
   simp only [List.cons_append,List.append_assoc,this]
def qA (a:Bool) (ds:List (List UInt8)) (lo dom:List UInt8) (lit:Bool):List UInt8:=
 if a=true then [60,62] else if dom= []∧lit=false then 60 :: (lo ++ [62]) else 60 :: (gv ds lo dom lit ++ [62])
theorem Aa (a:Bool) (ds:List (List UInt8)) (lo dom:List UInt8) (lit:Bool) (hds:ds.length≤1000) (DK:∀ d,d∈ds→d.length≤1000) (hlo:lo.length≤1000) (hd:dom.length≤1000):∀ (m i:Nat) (acc:List UInt8),ds.length - i=m→i≤ds.length→acc.length≤2000 * i + 1→∀ k,lo.length + m + 10≤k→
 bq.l0 k (au acc) (i:Int) a (ds.map au) (au lo) (au dom) lit=some (au (acc ++ (Yl (ds.drop i) ++ (gL lo dom lit ++ [62]))))
 | 0,i,acc,hm,hi,ha,k,hk=>by
   obtain ⟨k,rfl⟩:∃ k',k=k' + 1:=⟨k - 1,ak⟩
   have hwl:=GM lo dom lit
   have q0:au (acc ++ gL lo dom lit) ++ (⟨#[62]⟩:ByteArray)=au (acc ++ gL lo dom lit ++ [62]):=iL _ [62]
   unfold bq.l0
   rw [List.length_map,if_neg ak,BK lo dom lit ak ak k ak,Option.bind_some,iL,q0,if_pos (by simp only [bN];omega),if_pos (by simp only [bN,List.length_append];omega),List.drop_of_length_le ak]
   simp [Yl]
 |m + 1,i,acc,hm,hi,ha,k,hk=>by
  obtain ⟨k,rfl⟩:∃ k',k=k' + 1:=⟨k - 1,ak⟩
  have hlt:i < ds.length:=by omega
  have hdi:ds.drop i=ds[i] :: ds.drop (i + 1):=List.drop_eq_getElem_cons hlt
  have hdd:=DK _ (List.getElem_mem hlt)
  have hw1:wrap64 ((ds.length:Int) - 1)=((ds.length - 1:Nat):Int):=by unfold wrap64;omega
  have q0:au acc ++ (⟨#[64]⟩:ByteArray)=au (acc ++ [64]):=iL _ [64]
  have q1:au (acc ++ [64] ++ ds[i]) ++ (⟨#[44]⟩:ByteArray)=au (acc ++ [64] ++ ds[i] ++ [44]):=iL _ [44]
  have q2:au (acc ++ [64] ++ ds[i]) ++ (⟨#[58]⟩:ByteArray)=au (acc ++ [64] ++ ds[i] ++ [58]):=iL _ [58]
  unfold bq.l0
  rw [List.length_map,if_pos ak,rd_mk ds i hlt,q0,iL,q1,q2,hw1,jE i ak,if_pos (by simp only [bN];omega),if_pos ak,if_pos DY,hdi]
  by_cases hlast:i < ds.length - 1
  ·have hne:ds.drop (i + 1)≠ []:=fun e=>by
    have:=congrArg List.length e
    rw [List.length_drop,List.length_nil] at this
    omega
   rw [if_pos ak,if_pos DY,Aa a ds lo dom lit hds DK hlo hd m (i + 1) _ ak ak DZ k ak]
   show some (au (acc ++ [64] ++ ds[i] ++ [44] ++ (Yl (ds.drop (i + 1)) ++ (gL lo dom lit ++ [62]))))=some (au (acc ++ ((64 :: (ds[i] ++ (if ds.drop (i + 1)= [] then 58 else 44) :: Yl (ds.drop (i + 1)))) ++ (gL lo dom lit ++ [62]))))
   rw [if_neg hne]
   simp
  ·have hnil:ds.drop (i + 1)= []:=List.drop_of_length_le ak
   rw [if_neg ak,if_pos DY,Aa a ds lo dom lit hds DK hlo hd m (i + 1) _ ak ak DZ k ak]
   show some (au (acc ++ [64] ++ ds[i] ++ [58] ++ (Yl (ds.drop (i + 1)) ++ (gL lo dom lit ++ [62]))))=some (au (acc ++ ((64 :: (ds[i] ++ (if ds.drop (i + 1)= [] then 58 else 44) :: Yl (ds.drop (i + 1)))) ++ (gL lo dom lit ++ [62]))))
   rw [if_pos hnil]
   simp
theorem GR (a:Bool) (ds:List (List UInt8)) (lo dom:List UInt8) (lit:Bool) (hds:ds.length≤1000) (DK:∀ d,d∈ds→d.length≤1000) (hlo:lo.length≤1000) (hd:dom.length≤1000) (k:Nat) (hk: 2100≤k):
 bq.f k a (ds.map au) (au lo) (au dom) lit=some (au (qA a ds lo dom lit)):=by
 obtain ⟨k,rfl⟩:∃ k',k=k' + 1:=⟨k - 1,ak⟩
 unfold bq.f qA
 cases a with
 |true=>rfl
 |false=>
  show (if (au dom).toList= [] then _ else _)=some (au (if dom= []∧lit=false then _ else _))
  rw [toList_mk]
  have cE:bq.j0 (k + 1) false false (ds.map au) (au lo) (au dom) lit=some (au (60 :: (gv ds lo dom lit ++ [62]))):=by
   have h:=Aa false ds lo dom lit hds DK hlo hd ds.length 0 [60] ak (Nat.zero_le _) bw k ak
   rw [bq.j0,if_neg bh]
   refine Eq.trans h ?_
   rw [List.drop_zero]
   cases ds with
   |nil=>rfl
   |cons d ds=>
    rw [ae6 _ bw]
    show some (au ([60] ++ (dG (d :: ds) ++ 58 :: (gL lo dom lit ++ [62]))))=some (au (60 :: (dG (d :: ds) ++ 58 :: gL lo dom lit ++ [62])))
    simp
  by_cases hdom:dom= []
  ·rw [if_pos hdom]
   cases lit with
   |true=>
    rw [if_neg (fun e=>by cases e.2)]
    exact cE
   |false=>
    have q0:(⟨#[60]⟩:ByteArray) ++ au lo=au (60 :: lo):=iL [60] lo
    have q1:au (60 :: lo) ++ (⟨#[62]⟩:ByteArray)=au (60 :: lo ++ [62]):=iL _ [62]
    rw [if_pos ⟨hdom,rfl⟩,show (!false)=true from rfl,bq.j0,if_pos rfl,q0,q1,if_pos fZ,if_pos (by simp only [bN,List.length_cons];omega)]
    rfl
  ·rw [if_neg hdom,if_neg (fun e=>hdom e.1)]
   exact cE
theorem ID (a a2:Bool) (lo dom K6 xL:ByteArray) (lit yX:Bool) (R R2:List ByteArray) (hl:R.length=R2.length) (hR:R.length < 4294967281):∀ (k i:Nat),R.length - i < k→i≤R.length→∃ b,bK.l0 k (i:Int) a R lo dom lit a2 R2 K6 xL yX=some b∧(b=true↔R.drop i=R2.drop i)
 | 0,_,h,_ =>absurd h (Nat.not_lt_zero _)
 |k + 1,i,h,hi=>by
  unfold bK.l0
  by_cases hlt:i < R.length
  ·have hlt2:i < R2.length:=by omega
   have e1:cV ByteArray.empty R (i:Int)=R[i]:=by simp [cV,hlt]
   have e2:cV ByteArray.empty R2 (i:Int)=R2[i]:=by simp [cV,hlt2]
   rw [if_pos ak,if_pos ak,if_pos ak,e1,e2,List.drop_eq_getElem_cons hlt,List.drop_eq_getElem_cons hlt2]
   by_cases he:R[i].toList=R2[i].toList
   ·rw [if_pos he,jE i ak]
    obtain ⟨b,hb,hb2⟩:=ID a a2 lo dom K6 xL lit yX R R2 hl hR k (i + 1) ak ak
    have hee:R[i]=R2[i]:=by
     rw [ByteArray.toList_eq,ByteArray.toList_eq] at he
     apply ByteArray.ext
     exact Array.toList_inj.mp he
    refine ⟨b,hb,hb2.trans ?_⟩
    rw [hee]
    exact ⟨fun h=>by rw [h],fun h=>(List.cons.inj h).2⟩
   ·rw [if_neg he]
    refine ⟨false,rfl,?_⟩
    constructor
    ·intro h;cases h
    ·intro h
     exact absurd (by rw [(List.cons.inj h).1]) he
  ·rw [if_neg ak,List.drop_of_length_le ak,List.drop_of_length_le ak]
   exact ⟨true,rfl,bw⟩
theorem bytes_inj {x y:ByteArray} (h:x.toList=y.toList):x=y:=by
 rw [ByteArray.toList_eq,ByteArray.toList_eq] at h
 apply ByteArray.ext
 exact Array.toList_inj.mp h
theorem IE (a a2:Bool) (lo dom K6 xL:ByteArray) (lit yX:Bool) (R R2:List ByteArray) (hR:R.length < 4294967281) (k:Nat) (hk:R.length + 3≤k):∃ b,bK.f k a R lo dom lit a2 R2 K6 xL yX=some b∧(b=true↔(a=a2∧R=R2∧lo=K6∧dom=xL∧lit=yX)):=by
 obtain ⟨k,rfl⟩:∃ k',k=k' + 1:=⟨k - 1,ak⟩
 have hj:bK.j0 (k + 1) true a R lo dom lit a2 R2 K6 xL yX=some false:=by rw [bK.j0,if_pos rfl]
 unfold bK.f
 by_cases ha:a=a2
 case neg=>
  rw [if_pos (bne_iff_ne.mpr ha),hj]
  exact ⟨false,rfl,by simp [ha]⟩
 rw [if_neg (by rw [bne_iff_ne];exact fun h=>h ha)]
 by_cases hb:lo=K6∧dom=xL∧lit=yX
 case neg=>
  rw [if_pos,hj]
  ·exact ⟨false,rfl,⟨fun h=>(by cases h),fun h=>absurd h.2.2 hb⟩⟩
  ·simp only [Bool.or_eq_true,Bool.not_eq_true',beq_eq_false_iff_ne]
   by_cases h1:lo=K6
   ·by_cases h2:dom=xL
    ·exact .inr (.inr fun h3=>hb ⟨h1,h2,h3⟩)
    ·exact .inr (.inl fun h=>h2 (bytes_inj h))
   ·exact .inl fun h=>h1 (bytes_inj h)
 obtain ⟨rfl,rfl,rfl⟩:=hb
 rw [if_neg bw]
 by_cases hl:R.length=R2.length
 ·obtain ⟨b,hb,hb2⟩:=ID a a2 lo dom lo dom lit lit R R2 hl hR k 0 ak (Nat.zero_le _)
  rw [List.drop_zero,List.drop_zero] at hb2
  rw [show ((R.length:Int) != (R2.length:Int))=false by rw [hl];simp,bK.j0,if_neg bh]
  exact ⟨b,hb,hb2.trans ⟨fun h=>⟨ha,h,rfl,rfl,rfl⟩,fun h=>h.2.1⟩⟩
 ·rw [bne_iff_ne.mpr (show (R.length:Int)≠(R2.length:Int) by omega),hj]
  exact ⟨false,rfl,⟨fun h=>(by cases h),fun h=>absurd (by rw [h.2.1]) hl⟩⟩
theorem Dk (a:Bool) (ds:List (List UInt8)) (lo dom:List UInt8) (lit:Bool) (hd:∀ d,d∈ds→d.length≤1048576) (hlo:lo.length≤1048576) (hdom:dom.length≤1048576) (hr:nC a ds lo dom lit=true):
 ac5 a (ds.map au) (au lo) (au dom) lit (qA a ds lo dom lit).length (qA a ds lo dom lit)∧ds.length≤20∧lo.length≤64:=by
 cases a with
 |true=>
  rw [Dj] at hr
  simp only [Bool.and_eq_true,decide_eq_true_eq,Bool.not_eq_true'] at hr
  obtain ⟨⟨rfl,rfl,rfl⟩,rfl⟩:=hr
  exact ⟨⟨Nat.le_refl _,fun k hk=>z7 _,fun k hk=>GI _,fun k hk more hm=>tq _ (by rw [bN];simp [qA];omega) k (by rfl),by simp [qA]⟩,bw,bw⟩
 |false=>
  by_cases hp:lo= [112,111,115,116,109,97,115,116,101,114]∧dom= []∧lit=false
  ·obtain ⟨rfl,rfl,rfl⟩:=hp
   rw [BI] at hr
   obtain rfl:=of_decide_eq_true hr
   exact ⟨⟨Nat.le_refl _,fun k hk=>xK _,fun k hk=>Dh _,fun k hk more hm=>Di more ak k ak,by simp [qA]⟩,bw,bw⟩
  ·obtain ⟨hb,d1,d2,d3,d4⟩:=Uy ak hp hr
   have hw:=UA d3
   obtain ⟨w1,w2⟩:=BH ds lo dom lit
   have hne:gv ds lo dom lit≠ []:=by
    intro e
    rw [e] at w2
    simp at w2
   have hlt:(60 :: (gv ds lo dom lit ++ [62])).length=(gv ds lo dom lit).length + 2:=by
    rw [List.length_cons,List.length_append]
    rfl
   have hwh:qA false ds lo dom lit=60 :: (gv ds lo dom lit ++ [62]):=by
    unfold qA
    rw [if_neg bh,if_neg (fun e=>d4 e.1)]
   rw [hwh]
   refine ⟨⟨Nat.le_refl _,fun k hk=>Gv d1 d2 d3 d4 1048576 hd hdom ak _ ak,fun k hk=>M7 d1 d2 d3 d4 1048576 hd hdom ak ak _ ak,fun k hk more hm=>?_,ak⟩,d3.many,d3.los⟩
   have hpb:=Gx d1 d2 d3 1048576 hd hdom ak hne k ak ak more ak ak
   rw [hlt,← hpb]
   congr 2
   simp
theorem UE (ds:List (List UInt8)) (lo dom:List UInt8) (lit:Bool):(gv ds lo dom lit).length≤(dG ds).length + ((gL lo dom lit).length + 1):=by
 cases ds with
 |nil=>
  have e:gv [] lo dom lit=gL lo dom lit:=rfl
  rw [e]
  omega
 |cons d ds=>
  have e:gv (d :: ds) lo dom lit=dG (d :: ds) ++ 58 :: gL lo dom lit:=rfl
  rw [e,List.length_append,List.length_cons (a:=(58:UInt8))]
  exact Nat.le_refl _
theorem UF (a:Bool) (ds:List (List UInt8)) (lo dom:List UInt8) (lit:Bool) (h20:ds.length≤20) (DK:∀ d,d∈ds→d.length≤1000) (hlo:lo.length≤1000) (hd:dom.length≤1000):(qA a ds lo dom lit).length≤30000:=by
 have h1:=GM lo dom lit
 have h2:=CK 1000 ds DK
 have h3:ds.length * (1000 + 2)≤20 * (1000 + 2):=Nat.mul_le_mul_right _ h20
 have h4:=UE ds lo dom lit
 unfold qA
 by_cases ha:a=true
 ·rw [if_pos ha,List.length_cons,List.length_cons,List.length_nil]
  omega
 ·rw [if_neg ha]
  by_cases hb:dom= []∧lit=false
  ·rw [if_pos hb,List.length_cons,List.length_append,List.length_cons,List.length_nil]
   omega
  ·rw [if_neg hb,List.length_cons,List.length_append,List.length_cons,List.length_nil]
   omega
theorem Nn (a:Bool) (ds:List (List UInt8)) (lo dom:List UInt8) (lit:Bool) (h: 20 < ds.length∨64 < lo.length):nC a ds lo dom lit=false:=by
 cases hr:nC a ds lo dom lit with
 |false=>rfl
 |true=>
  exfalso
  unfold nC at hr
  by_cases ha:a=true
  ·rw [if_pos ha] at hr
   simp only [Bool.and_eq_true,decide_eq_true_eq] at hr
   obtain ⟨⟨rfl,rfl,_⟩,_⟩:=hr
   simp at h
  ·rw [if_neg ha] at hr
   split at hr
   ·rename_i hp
    have hds:ds= []:=of_decide_eq_true hr
    rw [hds,hp.1] at h
    simp at h
   ·unfold boxedB yR at hr
    simp only [Bool.and_eq_true,decide_eq_true_eq] at hr
    rcases h with h|h
    ·have:=hr.2.1
     omega
    ·have:=hr.1.2.1
     omega
theorem Ac (a:Bool) (ds:List (List UInt8)) (lo dom:List UInt8) (lit:Bool) (hds:ds.length≤1000) (DK:∀ d,d∈ds→d.length≤1000) (hlo:lo.length≤1000) (hd:dom.length≤1000) (k:Nat) (hk: 3000001≤k):
 bP.f k a (ds.map au) (au lo) (au dom) lit=some (nC a ds lo dom lit):=by
 obtain ⟨k,rfl⟩:∃ k',k=k' + 1:=⟨k - 1,ak⟩
 unfold bP.f
 rw [List.length_map,bN]
 by_cases h20:(ds.length:Int) > 20
 ·rw [if_pos h20,bP.j0,if_pos rfl,Nn a ds lo dom lit (.inl ak)]
 rw [if_neg h20]
 by_cases h64:(lo.length:Int) > 64
 ·rw [decide_eq_true h64,bP.j0,if_pos rfl,Nn a ds lo dom lit (.inr ak)]
 rw [decide_eq_false h64,bP.j0,if_neg bh,GR a ds lo dom lit hds DK hlo hd k ak,Option.bind_some]
 obtain ⟨W,hW⟩:∃ W,qA a ds lo dom lit=W:=⟨_,rfl⟩
 have hlen:=UF a ds lo dom lit ak DK hlo hd
 rw [hW] at hlen ⊢
 have hpv:=GN W ak 3000000 ak
 rw [Tg W ak k ak,Option.bind_some,bN]
 have hDL:∀ d,d∈ds→d.length≤1048576:=fun d hd'=>by have:=DK d hd';omega
 cases hr:nC a ds lo dom lit with
 |true=>
  obtain ⟨ag,_,_⟩:=Dk a ds lo dom lit hDL ak ak hr
  rw [hW] at ag
  have hrd:=ag.rd 3000000 ak [] bw
  rw [List.append_nil,hpv] at hrd
  rw [Option.some.inj hrd]
  simp only
  obtain ⟨b,hb,hb2⟩:=IE a a (au lo) (au dom) (au lo) (au dom) lit lit (ds.map au) (ds.map au) jX k jX
  rw [if_pos trivial,if_pos trivial,hb,Option.bind_some,hb2.mpr ⟨rfl,rfl,rfl,rfl,rfl⟩]
 |false=>
  obtain ⟨⟨r1,r2,r3,r4,r5,r6,r7⟩,hpe⟩:∃ r,qz W=r:=⟨_,rfl⟩
  rw [hpe] at hpv ⊢
  simp only
  by_cases h7:r7=0
  case neg=>rw [if_neg h7]
  rw [if_pos h7]
  by_cases h6:r6=(W.length:Int)
  case neg=>rw [if_neg h6]
  rw [if_pos h6]
  obtain ⟨b,hb,hb2⟩:=IE a r1 (au lo) (au dom) r3 r4 lit r5 (ds.map au) r2 jX k jX
  rw [hb,Option.bind_some]
  cases b with
  |false=>rfl
  |true=>
   exfalso
   obtain ⟨e1,e2,e3,e4,e5⟩:=hb2.mp rfl
   subst e1
   subst e2
   subst e3
   subst e4
   subst e5
   subst h7
   obtain ⟨n,t,_,_,ag⟩:=PI 3000000 ak (au W) fZ _ _ _ _ _ _ hpv
   have h1:=ag.rt 3000000 ak
   have h2:=CJ a ds lo dom lit 1000 DK hlo hd ak 3000000 ak
   rw [h1,hr] at h2
   cases h2
def CL (a:Bool) (ds:List (List UInt8)) (lo dom:List UInt8) (lit:Bool):ByteArray×Int:=if nC a ds lo dom lit=true then (au (qA a ds lo dom lit),0) else (⟨#[]⟩,150)
theorem PK (a:Bool) (ds:List (List UInt8)) (lo dom:List UInt8) (lit:Bool) (DK:∀ d,d∈ds→d.length≤1000) (hlo:lo.length≤1000) (hd:dom.length≤1000) (k:Nat) (hk: 3000000≤k):jM.f k a (ds.map au) (au lo) (au dom) lit=some (CL a ds lo dom lit):=by
 unfold CL
 cases hr:nC a ds lo dom lit with
 |true=>
  obtain ⟨ag,_,_⟩:=Dk a ds lo dom lit (fun d hd'=>by have:=DK d hd';omega) ak ak hr
  rw [ag.pr k hk]
  rfl
 |false=>
  have h:=CJ a ds lo dom lit 1000 DK hlo hd ak k ak
  rw [hr] at h
  exact Ux h
theorem PL (a:Bool) (ds:List (List UInt8)) (lo dom:List UInt8) (lit:Bool) (hds:ds.length≤1000) (DK:∀ d,d∈ds→d.length≤1000) (hlo:lo.length≤1000) (hd:dom.length≤1000) (k:Nat) (hk: 3000001≤k):gA.f k a (ds.map au) (au lo) (au dom) lit=some (CL a ds lo dom lit):=by
 unfold gA.f CL
 rw [Ac a ds lo dom lit hds DK hlo hd k hk,Option.bind_some]
 cases nC a ds lo dom lit with
 |true=>
  rw [if_pos rfl,GR a ds lo dom lit hds DK hlo hd k ak]
  rfl
 |false=>rfl
theorem UG (lo:List UInt8) (lit:Bool):boxedB lo [] lit=false:=by
 cases lit with
 |false=>exact Nk lo
 |true=>
  unfold boxedB yR
  rw [if_pos rfl,show tE []=false by decide +kernel]
  simp
theorem He (lo dom:List UInt8) (lit:Bool) (hlo:lo.length≤1000) (hd:dom.length≤1000) (k:Nat) (hk: 3000001≤k):eO.f k (au lo) (au dom) lit=some (if boxedB lo dom lit=true then (au (gL lo dom lit),0) else (⟨#[]⟩,150)):=by
 unfold eO.f
 rw [toList_mk]
 by_cases h0:dom= []
 ·rw [if_pos h0,h0,UG]
  rfl
 ·have h:=Ac false [] lo dom lit bw (fun d hd=>by cases hd) hlo hd k hk
  have hp: ¬ (lo= [112,111,115,116,109,97,115,116,101,114]∧dom= []∧lit=false):=fun e=>h0 e.2.1
  rw [GL [] lo dom lit hp] at h
  rw [if_neg h0,show bP.f k false [] (au lo) (au dom) lit=_ from h,Option.bind_some]
  cases boxedB lo dom lit with
  |false=>rfl
  |true=>
   show ((bH.f k (au lo) (au dom) lit).bind fun O5=>some (O5,0))=_
   rw [BK lo dom lit ak ak k ak]
   rfl
end Go.Proofs.YtokpnfljjjjikaaGreatDoor.jI
namespace Go.Proofs.YtokpnfljjjjikaaGreatDoor.jI
open Go.RowKit Go.Proofs.YtokpnfljjjjikaaGreatDoor Go.Proofs.YtokpnfljjjjikaaGreatDoor.mY Go.Proofs.aj.bO Go.Proofs.aj.cK
set_option linter.unusedVariables false
set_option linter.unusedSimpArgs false
theorem Ym (l:List UInt8) (hl:l.length < 4294967281) (k:Nat) (hk: 3 * l.length + 10≤k):jk.f k (au l)=some (kC l && lA l)∧fK.f k (au l)=some (kC l && lA l):=by
 constructor
 ·rw [GK l hl k ak,BG l hl]
  congr 2
  cases hf:kC l with
  |true=>exact decide_eq_true ((uH l).mpr hf)
  |false=>
   refine decide_eq_false fun h=>?_
   rw [(uH l).mp h] at hf
   cases hf
 ·unfold fK.f
  rw [CD l hl k ak,Option.bind_some]
  cases kC l with
  |true=>
   rw [if_pos rfl,zY l hl k ak]
   rfl
  |false=>rfl
theorem BL (l:List UInt8) (hl:l.length≤1000000):(qz l).2.1.length≤1000010:=by
 have h:=GN l hl (3 * l.length + 100) (Nat.le_refl _)
 have:=M4 (au l) fZ _ fZ (show bZ.f _ (au l)=some ((qz l).1,(qz l).2.1,(qz l).2.2.1,(qz l).2.2.2.1,(qz l).2.2.2.2.1,(qz l).2.2.2.2.2.1,(qz l).2.2.2.2.2.2) from h)
 rw [bN] at this
 omega
theorem PM (s:List UInt8) (a:Bool) (ds:List (List UInt8)) (lo dom:List UInt8) (lit:Bool) (hs:s.length≤700) (hds:ds.length≤30) (DK:∀ d,d∈ds→d.length≤300) (hlo:lo.length≤300) (hdom:dom.length≤300) (k:Nat) (hk: 3100000≤k):
 aH.l0 k (au s) (ds.map au) ((ds.map au).length:Int) (((ds.map au).length:Nat):Int) a (ds.map au) (au lo) (au dom) lit=some true:=by
 obtain ⟨k,rfl⟩:∃ k',k=k' + 4:=⟨k - 4,ak⟩
 have abr:∀ d,d∈ds→d.length≤1000:=fun d hd=>by have:=DK d hd;omega
 obtain ⟨d1,d2⟩:=Ym s ak (k + 3) ak
 have hL:cI.f (k + 3) (au s)=some (tE s):=vH s ak _ ak
 rw [aH.l0,if_neg ak,GN s ak (k + 3) ak,Option.bind_some,Tg s ak (k + 3) ak,Option.bind_some,Um _ _ _ _ _ _ (by have:=BL s ak;omega) (by have:=BL s ak;omega),Option.bind_some,if_pos rfl,if_pos rfl,if_pos rfl,d1,Option.bind_some,d2,Option.bind_some,if_neg bw,hL,Option.bind_some,Nf s ak (k + 3) ak,Option.bind_some]
 rw [show (tE s != tE s)=false by simp,aH.j2,if_neg bh,UC s ak (k + 2) ak,Option.bind_some,UB s ak (k + 2) ak,Option.bind_some,if_neg bw,if_pos rfl,CJ a ds lo dom lit 1000 abr ak ak ak (k + 2) ak,Option.bind_some,Ac a ds lo dom lit ak abr ak ak (k + 2) ak,Option.bind_some]
 rw [show (nC a ds lo dom lit != nC a ds lo dom lit)=false by simp,aH.j3,if_neg bh,PK a ds lo dom lit abr ak ak (k + 1) ak,Option.bind_some,PL a ds lo dom lit ak abr ak ak (k + 1) ak,Option.bind_some,if_pos rfl]
 rw [show ((CL a ds lo dom lit).2 != (CL a ds lo dom lit).2)=false by simp,aH.j4,if_neg bh,K9 lo dom lit ak ak k ak,Option.bind_some,He lo dom lit ak ak k ak,Option.bind_some,if_pos rfl,if_pos rfl,zX k ak]
 rfl
theorem IG (s:List UInt8) (a:Bool) (ds:List (List UInt8)) (lo dom:List UInt8) (lit:Bool) (hs:s.length≤700) (hds:ds.length≤30) (hlo:lo.length≤300) (hdom:dom.length≤300):∀ (m i:Nat),ds.length - i=m→i≤ds.length→(∀ d,d∈ds.take i→d.length≤300)→∀ k,3100000 + m≤k→
 aH.l0 k (au s) (ds.map au) ((ds.map au).length:Int) (i:Int) a (ds.map au) (au lo) (au dom) lit=some true
 | 0,i,hm,hi,h,k,hk=>by
   have e:i=(ds.map au).length:=by rw [List.length_map];omega
   rw [e]
   refine PM s a ds lo dom lit hs hds (fun d hd=>h d ?_) hlo hdom k ak
   rw [List.take_of_length_le ak]
   exact hd
 |m + 1,i,hm,hi,h,k,hk=>by
  obtain ⟨k,rfl⟩:∃ k',k=k' + 1:=⟨k - 1,ak⟩
  have hlt:i < ds.length:=by omega
  rw [aH.l0,if_pos jX,if_pos ak,if_pos jX,rd_mk ds i hlt,bN]
  by_cases h3:(ds[i].length:Int) > 300
  ·rw [if_pos h3,zX k ak]
   rfl
  ·rw [if_neg h3,jE i ak]
   refine IG s a ds lo dom lit hs hds hlo hdom m (i + 1) ak ak (fun d hd=>?_) k ak
   rw [List.take_add_one,List.getElem?_eq_getElem hlt] at hd
   rcases List.mem_append.mp hd with hd|hd
   ·exact h d hd
   ·simp only [Option.toList_some,List.mem_singleton] at hd
    rw [hd]
    omega
theorem La (s:ByteArray):au s.data.toList=s:=by
 obtain ⟨⟨l⟩⟩:=s
 rfl
theorem GS (s:ByteArray) (a:Bool) (R:List ByteArray) (lo dom:ByteArray) (lit:Bool):
 ∃ k,aH.f k s a R lo dom lit=some true:=by
 refine ⟨3200001,?_⟩
 have aw:∀ x y z u v w,aH.j0 3200001 x true y z u v w=some true:=fun x y z u v w=>by
  show aH.j0 (3200000 + 1) _ _ _ _ _ _ _=_
  rw [aH.j0,if_pos rfl,zX _ ak]
  rfl
 unfold aH.f
 by_cases h1:(s.size:Int) > 700
 ·rw [if_pos h1,aw]
 rw [if_neg h1]
 by_cases h2:(R.length:Int) > 30
 ·rw [if_pos h2,aw]
 rw [if_neg h2]
 by_cases h3:(lo.size:Int) > 300
 ·rw [if_pos h3,aw]
 rw [if_neg h3]
 by_cases h4:(dom.size:Int) > 300
 ·rw [decide_eq_true h4,aw]
 rw [decide_eq_false h4]
 obtain ⟨s',rfl⟩:∃ x,s=au x:=⟨s.data.toList,(La s).symm⟩
 obtain ⟨lo',rfl⟩:∃ x,lo=au x:=⟨lo.data.toList,(La lo).symm⟩
 obtain ⟨arz,rfl⟩:∃ x,dom=au x:=⟨dom.data.toList,(La dom).symm⟩
 obtain ⟨ds,rfl⟩:∃ ds:List (List UInt8),R=ds.map au:=⟨R.map fun y=>y.data.toList,by
  rw [List.map_map]
  have:=List.map_congr_left (l:=R) (f:=au ∘fun y=>y.data.toList) (g:=id) fun y _ =>La y
  rw [this,List.map_id]⟩
 rw [bN] at h1 h3 h4
 rw [List.length_map] at h2
 show aH.j0 (3200000 + 1) _ _ _ _ _ _ _=_
 rw [aH.j0,if_neg bh]
 exact IG s' a ds lo' arz lit ak ak ak ak ds.length 0 ak (Nat.zero_le _) (fun d hd=>by rw [List.take_zero] at hd;cases hd) 3200000 ak
end Go.Proofs.YtokpnfljjjjikaaGreatDoor.jI
