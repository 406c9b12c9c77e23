import Derived.Test.YtokpnfljjjjikaaGreatDoorQCbx20
namespace Go.Proofs.YtokpnfljjjjikaaGreatDoor.jk
open Go.RowKit Go.Proofs.YtokpnfljjjjikaaGreatDoor Go.Proofs.YtokpnfljjjjikaaGreatDoor.n9 Go.Proofs.aj.bQ Go.Proofs.aj.cT
def rest (s:ByteArray) (p:Nat):List UInt8:=s.data.toList.drop p
theorem gT (s:ByteArray) (p:Nat):(rest s p).length=s.size - p:=by
 unfold rest
 rw [List.length_drop,dB]
theorem je (s:ByteArray) (p n:Nat):rest s (p + n)=(rest s p).drop n:=by
 unfold rest
 rw [List.drop_drop]
theorem pY {s:ByteArray} {p:Nat} {b:UInt8} {l:List UInt8} (h:rest s p=b :: l):p < s.size∧bt s (p:Int)=(b.toNat:Int)∧rest s (p + 1)=l:=by
 have hlen:=gT s p
 rw [h] at hlen
 have hp:p < s.size:=by simp at hlen;omega
 refine ⟨hp,?_,?_⟩
 ·have h0:(rest s p)[0]? =some b:=by rw [h];rfl
  unfold rest at h0
  rw [List.getElem?_drop] at h0
  unfold bt
  have hp':((p:Int)).toNat < s.size:=by omega
  rw [dif_pos hp']
  have h1:s[((p:Int)).toNat]'hp'=b:=by
   have h2:s.data.toList[p]? =some b:=by simpa using h0
   rw [List.getElem?_eq_getElem (by rw [dB];exact hp)] at h2
   have h3:=Option.some.inj h2
   rw [← h3]
   simp [ByteArray.getElem_eq_getElem_data]
  rw [h1]
 ·rw [je,h]
  rfl
theorem uk {s:ByteArray} {p:Nat} (h:rest s p= []):s.size≤p:=by
 have hlen:=gT s p
 rw [h] at hlen
 simp at hlen
 omega
theorem kS (s:ByteArray) (p q:Nat) (_h:p≤q):s.extract p q=au ((rest s p).take (q - p)):=by
 apply ByteArray.ext
 rw [← Array.toList_inj]
 simp [au,rest]
theorem nX {α:Type} (P:α→Bool):∀ l:List α,l.take (l.takeWhile P).length=l.takeWhile P
 | []=>rfl
 |b :: l=>by
  by_cases hb:P b=true
  ·simp [hb,nX P l]
  ·simp [hb]
theorem s9 (n:Nat) (h:n < 4611686018427387904):wrap64 ((n:Int) + 1)=((n + 1:Nat):Int):=by unfold wrap64;omega
def cX (c:UInt8):List UInt8→Bool
 | []=>false
 |b :: _ =>b == c
theorem ow (s:ByteArray) (p:Nat) (c:UInt8) (ci:Int) (hc:ci=(c.toNat:Int)) (hs:s.size < 4611686018427387904):
 bu.f s (p:Int) ci=some (cX c (rest s p),s,(((if cX c (rest s p)=true then p + 1 else p):Nat):Int)):=by
 subst hc
 unfold bu.f
 cases hr:rest s p with
 |nil=>
  have:=uk hr
  rw [if_neg aq]
  rfl
 |cons b l=>
  obtain ⟨h1,h2,_⟩:=pY hr
  rw [if_pos aq,if_pos aq,h2]
  by_cases hb:b=c
  ·subst hb
   rw [if_pos rfl,s9 p aq]
   simp [cX]
  ·rw [if_neg (by intro h;exact hb (UInt8.toNat_inj.mp aq))]
   simp [cX,hb]
def Uo:List UInt8→UInt8
 | []=>0
 |b :: _ =>b
theorem Uq (s:ByteArray) (p:Nat):dg.f s (p:Int)=some (((Uo (rest s p)).toNat:Int),s,(p:Int)):=by
 unfold dg.f
 cases hr:rest s p with
 |nil=>
  have:=uk hr
  rw [if_neg aq]
  rfl
 |cons b l=>
  obtain ⟨h1,h2,_⟩:=pY hr
  rw [if_pos aq,if_pos aq,h2]
  rfl
theorem fI {Q:UInt8→Prop} (h:∀ n,n < 256→Q (UInt8.ofNat n)) (b:UInt8):Q b:=by
 have:=h b.toNat (UInt8.toNat_lt b)
 rwa [UInt8.ofNat_toNat] at this
def nQ (b:UInt8):Bool:=(eV.f (b.toNat:Int)).getD false
theorem abl (b:UInt8):eV.f (b.toNat:Int)=some (nQ b):=by
 unfold nQ
 have h:(eV.f (b.toNat:Int)).isSome=true:=by
  have h2:∀ n,n < 256→(eV.f ((n:Nat):Int)).isSome=true:=by decide +kernel
  exact h2 _ (UInt8.toNat_lt b)
 cases hf:eV.f (b.toNat:Int) with
 |none=>rw [hf] at h;cases h
 |some x=>rfl
def kM (b:UInt8):Bool:=(iR.f (b.toNat:Int)).getD false
theorem Yr (b:UInt8):iR.f (b.toNat:Int)=some (kM b):=by
 unfold kM
 have h:(iR.f (b.toNat:Int)).isSome=true:=by
  have h2:∀ n,n < 256→(iR.f ((n:Nat):Int)).isSome=true:=by decide +kernel
  exact h2 _ (UInt8.toNat_lt b)
 cases hf:iR.f (b.toNat:Int) with
 |none=>rw [hf] at h;cases h
 |some x=>rfl
def jE (b:UInt8):Bool:=b != 93
theorem Yt (b:UInt8):gA.f (b.toNat:Int)=some (jE b):=by
 unfold gA.f jE
 congr 1
 by_cases hb:b=93
 ·subst hb;rfl
 ·have: ¬ ((b.toNat:Int)=93):=by
   intro h
   exact hb (UInt8.toNat_inj.mp (by simpa using (aq:b.toNat=93)))
  rw [bne_iff_ne.mpr this,bne_iff_ne.mpr hb]
theorem Ur (s:ByteArray) (hs:s.size < 4611686018427387904) (a:Nat):∀ (k p:Nat),(rest s p).length < k→a≤p→p≤s.size→
 aQ.l0 k (a:Int) s (p:Int)=some (s.extract a (p + ((rest s p).takeWhile nQ).length),decide (a < p + ((rest s p).takeWhile nQ).length),s,((p + ((rest s p).takeWhile nQ).length:Nat):Int))
 | 0,p,h,_,_ =>absurd h (Nat.not_lt_zero _)
 |k + 1,p,h,ha,hp=>by
  unfold aQ.l0
  cases hr:rest s p with
  |nil=>
   have:=uk hr
   rw [if_neg aq,if_pos aq,if_pos aq,if_pos aq]
   simp
   try exact decide_eq_decide.mpr Iff.rfl
  |cons c l=>
   obtain ⟨h1,h2,h3⟩:=pY hr
   rw [if_pos aq,if_pos aq,h2,abl]
   simp only [Option.bind_some]
   by_cases hb:nQ c=true
   ·rw [if_pos hb,s9 p aq,Ur s hs a k (p + 1) Fg aq aq,h3]
    have e:p + 1 + (l.takeWhile nQ).length=p + ((c :: l).takeWhile nQ).length:=by simp [hb];omega
    rw [e]
   ·rw [if_neg hb,if_pos aq,if_pos aq,if_pos aq]
    simp [hb]
theorem aeu (s:ByteArray) (hs:s.size < 4611686018427387904) (k p:Nat) (hk:(rest s p).length < k) (hp:p≤s.size):
 aQ.f k s (p:Int)=some (au ((rest s p).takeWhile nQ),decide (0 < ((rest s p).takeWhile nQ).length),s,((p + ((rest s p).takeWhile nQ).length:Nat):Int)):=by
 unfold aQ.f
 rw [Ur s hs p k p hk (Nat.le_refl _) hp,kS _ _ _ aq,Nat.add_sub_cancel_left,nX]
 congr 2
 simp
theorem Om (s:ByteArray) (hs:s.size < 4611686018427387904) (a:Nat):∀ (k p:Nat),(rest s p).length < k→a≤p→p≤s.size→
 bA.l0 k (a:Int) s (p:Int)=some (s.extract a (p + ((rest s p).takeWhile kM).length),decide (a < p + ((rest s p).takeWhile kM).length),s,((p + ((rest s p).takeWhile kM).length:Nat):Int))
 | 0,p,h,_,_ =>absurd h (Nat.not_lt_zero _)
 |k + 1,p,h,ha,hp=>by
  unfold bA.l0
  cases hr:rest s p with
  |nil=>
   have:=uk hr
   rw [if_neg aq,if_pos aq,if_pos aq,if_pos aq]
   simp
   try exact decide_eq_decide.mpr Iff.rfl
  |cons c l=>
   obtain ⟨h1,h2,h3⟩:=pY hr
   rw [if_pos aq,if_pos aq,h2,Yr]
   simp only [Option.bind_some]
   by_cases hb:kM c=true
   ·rw [if_pos hb,s9 p aq,Om s hs a k (p + 1) Fg aq aq,h3]
    have e:p + 1 + (l.takeWhile kM).length=p + ((c :: l).takeWhile kM).length:=by simp [hb];omega
    rw [e]
   ·rw [if_neg hb,if_pos aq,if_pos aq,if_pos aq]
    simp [hb]
theorem abm (s:ByteArray) (hs:s.size < 4611686018427387904) (k p:Nat) (hk:(rest s p).length < k) (hp:p≤s.size):
 bA.f k s (p:Int)=some (au ((rest s p).takeWhile kM),decide (0 < ((rest s p).takeWhile kM).length),s,((p + ((rest s p).takeWhile kM).length:Nat):Int)):=by
 unfold bA.f
 rw [Om s hs p k p hk (Nat.le_refl _) hp,kS _ _ _ aq,Nat.add_sub_cancel_left,nX]
 congr 2
 simp
theorem Oo (s:ByteArray) (hs:s.size < 4611686018427387904) (a:Nat):∀ (k p:Nat),(rest s p).length < k→a≤p→p≤s.size→
 aN.l0 k (a:Int) s (p:Int)=some (s.extract a (p + ((rest s p).takeWhile jE).length),decide (a < p + ((rest s p).takeWhile jE).length),s,((p + ((rest s p).takeWhile jE).length:Nat):Int))
 | 0,p,h,_,_ =>absurd h (Nat.not_lt_zero _)
 |k + 1,p,h,ha,hp=>by
  unfold aN.l0
  cases hr:rest s p with
  |nil=>
   have:=uk hr
   rw [if_neg aq,if_pos aq,if_pos aq,if_pos aq]
   simp
   try exact decide_eq_decide.mpr Iff.rfl
  |cons c l=>
   obtain ⟨h1,h2,h3⟩:=pY hr
   rw [if_pos aq,if_pos aq,h2,Yt]
   simp only [Option.bind_some]
   by_cases hb:jE c=true
   ·rw [if_pos hb,s9 p aq,Oo s hs a k (p + 1) Fg aq aq,h3]
    have e:p + 1 + (l.takeWhile jE).length=p + ((c :: l).takeWhile jE).length:=by simp [hb];omega
    rw [e]
   ·rw [if_neg hb,if_pos aq,if_pos aq,if_pos aq]
    simp [hb]
theorem abn (s:ByteArray) (hs:s.size < 4611686018427387904) (k p:Nat) (hk:(rest s p).length < k) (hp:p≤s.size):
 aN.f k s (p:Int)=some (au ((rest s p).takeWhile jE),decide (0 < ((rest s p).takeWhile jE).length),s,((p + ((rest s p).takeWhile jE).length:Nat):Int)):=by
 unfold aN.f
 rw [Oo s hs p k p hk (Nat.le_refl _) hp,kS _ _ _ aq,Nat.add_sub_cancel_left,nX]
 congr 2
 simp
theorem Us (l:List UInt8) (i:Nat) (h:i < l.length):bt (au l) (i:Int)=((l.getD i 0).toNat:Int):=by
 unfold bt
 have h':((i:Int)).toNat < (au l).size:=by show _ < l.length;omega
 rw [dif_pos h']
 have:(au l)[((i:Int)).toNat]'(h')=l.getD i 0:=by
  simp only [Int.toNat_natCast]
  rw [List.getD_eq_getElem?_getD,List.getElem?_eq_getElem h]
  rfl
 rw [this]
theorem br (l:List UInt8):(au l).size=l.length:=rfl
theorem oz {α:Type} (P:α→Bool) (l:List α):(l.takeWhile P).length≤l.length:=(List.takeWhile_sublist P).length_le
def fC (l:List UInt8):Bool×Nat:=
 (match l.takeWhile nQ with
  | []=>false
  |c :: t=>c != 45 && (c :: t).getD t.length 0 != 45,(l.takeWhile nQ).length)
theorem toNat_eq {a b:UInt8} (h:(a.toNat:Int)=(b.toNat:Int)):a=b:=UInt8.toNat_inj.mp aq
theorem label_eq (s:ByteArray) (hs:s.size < 4611686018427387904) (k p:Nat) (hk:(rest s p).length < k) (hp:p≤s.size):
 fH.f k s (p:Int)=some ((fC (rest s p)).1,s,((p + (fC (rest s p)).2:Nat):Int)):=by
 unfold fH.f fC
 rw [aeu s hs k p hk hp]
 simp only [Option.bind_some]
 have hle:=oz nQ (rest s p)
 have hrl:=gT s p
 generalize (rest s p).takeWhile nQ=w at hle ⊢
 cases w with
 |nil=>simp
 |cons c t=>
  have h0:bt (au (c :: t)) 0=(c.toNat:Int):=Us (c :: t) 0 bf
  have e1:wrap64 (((au (c :: t)).size:Int) - 1)=(t.length:Int):=by
   rw [br]
   unfold wrap64
   simp at hle ⊢
   omega
  have h1:bt (au (c :: t)) (t.length:Int)=(((c :: t).getD t.length 0).toNat:Int):=Us (c :: t) t.length bf
  rw [if_pos bf,if_pos (by rw [br];first|(simp;done)|(simp;omega)),h0,e1,h1]
  by_cases hc:c=45
  ·subst hc
   rw [if_pos (show ((UInt8.toNat 45:Nat):Int)=45 from rfl)]
   simp
  ·rw [if_neg (show ¬ (c.toNat:Int)=45 from fun h=>hc (toNat_eq (b:=45) h)),if_pos aq,if_pos (by rw [br];first|(simp;done)|(simp;omega))]
   have:((((c :: t).getD t.length 0).toNat:Int) != 45)=((c :: t).getD t.length 0 != 45):=by
    by_cases hl:(c :: t).getD t.length 0=45
    ·rw [hl];rfl
    ·rw [bne_iff_ne.mpr hl,bne_iff_ne.mpr (show (((c :: t).getD t.length 0).toNat:Int)≠45 from fun h=>hl (toNat_eq (b:=45) h))]
   rw [this]
   simp [hc]
def iD (l:List UInt8):Bool×Nat:=(decide (0 < (l.takeWhile kM).length),(l.takeWhile kM).length)
theorem Yu (s:ByteArray) (hs:s.size < 4611686018427387904) (k p:Nat) (hk:(rest s p).length < k) (hp:p≤s.size):
 fR.f k s (p:Int)=some ((iD (rest s p)).1,s,((p + (iD (rest s p)).2:Nat):Int)):=by
 unfold fR.f iD
 rw [abm s hs k p hk hp]
 rfl
theorem DF (l:List UInt8):(fC l).2≤l.length:=oz _ _
theorem zn (l:List UInt8):(iD l).2≤l.length:=oz _ _
def Hh (part:List UInt8→Bool×Nat) (c:UInt8):Nat→List UInt8→Bool×Nat
 | 0,_ =>(false,0)
 |n + 1,l=>if (part l).1=true then (if cX c (l.drop (part l).2)=true then ((Hh part c n (l.drop ((part l).2 + 1))).1,(part l).2 + 1 + (Hh part c n (l.drop ((part l).2 + 1))).2) else (true,(part l).2)) else (false,(part l).2)
def fN (part:List UInt8→Bool×Nat) (c:UInt8) (l:List UInt8):Bool×Nat:=Hh part c (l.length + 1) l
theorem gG {c:UInt8} {l:List UInt8} {n:Nat} (h:cX c (l.drop n)=true):n < l.length:=by
 rcases Nat.lt_or_ge n l.length with h1|h1
 ·exact h1
 ·rw [List.drop_of_length_le h1] at h
  cases h
theorem Jq (part:List UInt8→Bool×Nat) (c:UInt8):∀ (n m:Nat) (l:List UInt8),l.length < n→l.length < m→Hh part c n l=Hh part c m l
 | 0,_,_,h,_ =>absurd h (Nat.not_lt_zero _)
 |_,0,_,_,h=>absurd h (Nat.not_lt_zero _)
 |n + 1,m + 1,l,h1,h2=>by
  unfold Hh
  by_cases hp:(part l).1=true
  ·rw [if_pos hp,if_pos hp]
   by_cases hn:cX c (l.drop (part l).2)=true
   ·have:=gG hn
    rw [if_pos hn,if_pos hn,Jq part c n m _ lq lq]
   ·rw [if_neg hn,if_neg hn]
  ·rw [if_neg hp,if_neg hp]
theorem lK (part:List UInt8→Bool×Nat) (c:UInt8) (l:List UInt8):
 fN part c l=if (part l).1=true then (if cX c (l.drop (part l).2)=true then ((fN part c (l.drop ((part l).2 + 1))).1,(part l).2 + 1 + (fN part c (l.drop ((part l).2 + 1))).2) else (true,(part l).2)) else (false,(part l).2):=by
 unfold fN
 rw [Hh]
 by_cases hp:(part l).1=true
 ·rw [if_pos hp,if_pos hp]
  by_cases hn:cX c (l.drop (part l).2)=true
  ·have:=gG hn
   rw [if_pos hn,if_pos hn,Jq part c l.length ((l.drop ((part l).2 + 1)).length + 1) _ lq aq]
  ·rw [if_neg hn,if_neg hn]
 ·rw [if_neg hp,if_neg hp]
theorem zo (part:List UInt8→Bool×Nat) (c:UInt8) (hpart:∀ l,(part l).2≤l.length):∀ (n:Nat) (l:List UInt8),l.length < n→(fN part c l).2≤l.length
 | 0,_,h=>absurd h (Nat.not_lt_zero _)
 |n + 1,l,h=>by
  rw [lK]
  have hl:=hpart l
  by_cases hp:(part l).1=true
  ·rw [if_pos hp]
   by_cases hn:cX c (l.drop (part l).2)=true
   ·have h1:=gG hn
    have h2:=zo part c hpart n (l.drop ((part l).2 + 1)) lq
    rw [List.length_drop] at h2
    rw [if_pos hn]
    show _ + 1 + _≤_
    omega
   ·rw [if_neg hn]
    exact hl
  ·rw [if_neg hp]
   exact hl
theorem Hj (s:ByteArray) (hs:s.size < 4611686018427387904):∀ (k p:Nat),(rest s p).length + 1 < k→p≤s.size→
 aU.l0 k 46 s (p:Int)=some ((fN fC 46 (rest s p)).1,s,((p + (fN fC 46 (rest s p)).2:Nat):Int))
 | 0,p,h,_ =>absurd h aq
 |k + 1,p,h,hp=>by
  have hle:=DF (rest s p)
  have hrl:=gT s p
  unfold aU.l0
  rw [label_eq s hs k p aq hp,lK]
  simp only [Option.bind_some]
  by_cases h1:(fC (rest s p)).1=true
  ·rw [if_pos h1,if_pos h1,ow s _ 46 46 rfl hs]
   simp only [Option.bind_some,je]
   by_cases h2:cX 46 ((rest s p).drop (fC (rest s p)).2)=true
   ·have h3:=gG h2
    rw [if_pos h2,if_pos h2,if_pos h2]
    have h4:=Hj s hs k (p + (fC (rest s p)).2 + 1) qb aq
    rw [h4,Nat.add_assoc p,je]
    congr 3
    omega
   ·rw [if_neg h2,if_neg h2,if_neg h2]
  ·rw [if_neg h1,if_neg h1]
theorem DG (s:ByteArray) (hs:s.size < 4611686018427387904):∀ (k p:Nat),(rest s p).length + 1 < k→p≤s.size→
 aH.l0 k 46 s (p:Int)=some ((fN iD 46 (rest s p)).1,s,((p + (fN iD 46 (rest s p)).2:Nat):Int))
 | 0,p,h,_ =>absurd h aq
 |k + 1,p,h,hp=>by
  have hle:=zn (rest s p)
  have hrl:=gT s p
  unfold aH.l0
  rw [Yu s hs k p aq hp,lK]
  simp only [Option.bind_some]
  by_cases h1:(iD (rest s p)).1=true
  ·rw [if_pos h1,if_pos h1,ow s _ 46 46 rfl hs]
   simp only [Option.bind_some,je]
   by_cases h2:cX 46 ((rest s p).drop (iD (rest s p)).2)=true
   ·have h3:=gG h2
    rw [if_pos h2,if_pos h2,if_pos h2]
    have h4:=DG s hs k (p + (iD (rest s p)).2 + 1) qb aq
    rw [h4,Nat.add_assoc p,je]
    congr 3
    omega
   ·rw [if_neg h2,if_neg h2,if_neg h2]
  ·rw [if_neg h1,if_neg h1]
def pM (l:List UInt8):Bool×ByteArray×Nat:=((fN fC 46 l).1,cE.g (au (l.take (fN fC 46 l).2)),(fN fC 46 l).2)
theorem C8 (l:List UInt8):(pM l).2.2≤l.length:=zo fC 46 DF _ l (Nat.lt_succ_self _)
theorem domain_eq (s:ByteArray) (hs:s.size < 4611686018427387904) (k p:Nat) (hk:(rest s p).length + 1 < k) (hp:p≤s.size):
 ck.f k s (p:Int)=some ((pM (rest s p)).2.1,(pM (rest s p)).1,s,((p + (pM (rest s p)).2.2:Nat):Int)):=by
 have hle:=C8 (rest s p)
 have hrl:=gT s p
 unfold pM at hle ⊢
 simp only at hle ⊢
 unfold ck.f aU.f
 rw [Hj s hs k p hk hp]
 simp only [Option.bind_some]
 rw [if_pos aq,if_pos aq,if_pos aq]
 have e:s.extract ((p:Int)).toNat (((p + (fN fC 46 (rest s p)).2:Nat):Int)).toNat=au ((rest s p).take (fN fC 46 (rest s p)).2):=by
  rw [Int.toNat_natCast,Int.toNat_natCast,kS _ _ _ aq,Nat.add_sub_cancel_left]
 rw [e]
 have hf:cE.f (au ((rest s p).take (fN fC 46 (rest s p)).2))=some (cE.g (au ((rest s p).take (fN fC 46 (rest s p)).2))):=by
  unfold cE.f
  rw [if_pos]
  rw [br,List.length_take]
  omega
 rw [hf]
 rfl
def kO:List UInt8→List UInt8→Bool×List UInt8×Nat
 | [],_ =>(false,[],0)
 |b :: l,acc=>
  if b=34 then (true,acc,1)
  else if b=92 then
   match l with
   | []=>(false,[],2)
   |c :: l'=>if c < 32∨126 < c then (false,[],2) else ((kO l' (acc ++ [c])).1,(kO l' (acc ++ [c])).2.1,(kO l' (acc ++ [c])).2.2 + 2)
  else if b < 32∨126 < b then (false,[],1)
  else ((kO l (acc ++ [b])).1,(kO l (acc ++ [b])).2.1,(kO l (acc ++ [b])).2.2 + 1)
def pN (l:List UInt8):List Int:=l.map fun b=>(b.toNat:Int)
theorem Oq (l:List UInt8):strOfNums (pN l)=au l:=by
 unfold strOfNums pN au
 congr 1
 rw [List.map_map,← Array.toList_inj]
 show List.map _ l=l
 rw [show ((fun n:Int=>UInt8.ofNat n.toNat) ∘fun b:UInt8=>(b.toNat:Int))=id from by funext b;simp]
 simp
theorem ltI {b c:UInt8}:((b.toNat:Int) < (c.toNat:Int))↔b < c:=by
 rw [UInt8.lt_iff_toNat_lt]
 omega
theorem QG {b:UInt8}:((b.toNat:Int) < 32)↔b < 32:=ltI (c:=32)
theorem Hl {b:UInt8}:((b.toNat:Int) > 126)↔126 < b:=ltI (b:=126)
theorem Ho (s:ByteArray) (hs:s.size < 70368744177664):∀ (k p:Nat) (acc:List UInt8),(rest s p).length + 1 < k→p≤s.size→acc.length + (rest s p).length≤s.size→
 cm.l0 k (pN acc) s (p:Int)=some (au (kO (rest s p) acc).2.1,(kO (rest s p) acc).1,s,((p + (kO (rest s p) acc).2.2:Nat):Int))
 | 0,p,acc,h,_,_ =>absurd h aq
 |k + 1,p,acc,h,hp,ha=>by
  unfold cm.l0
  have hrl:=gT s p
  cases hr:rest s p with
  |nil=>
   have:=uk hr
   rw [if_neg aq]
   rfl
  |cons b l=>
   obtain ⟨h1,h2,h3⟩:=pY hr
   have hlen:l.length + 1=s.size - p:=by rw [hr] at hrl;simpa using hrl
   rw [if_pos aq,if_pos aq,h2]
   unfold kO
   by_cases hq:b=34
   ·subst hq
    rw [if_pos rfl,if_pos (show ((UInt8.toNat 34:Nat):Int)=34 from rfl),Oq,s9 p aq]
   ·rw [if_neg hq,if_neg (show ¬ (b.toNat:Int)=34 from fun h=>hq (toNat_eq (b:=34) h))]
    by_cases hb:b=92
    ·subst hb
     rw [if_pos rfl,if_pos (show ((UInt8.toNat 92:Nat):Int)=92 from rfl),s9 p aq,Uq,h3]
     simp only [Option.bind_some]
     cases l with
     |nil=>
      have e:wrap64 (((p + 1:Nat):Int) + 1)=((p + 2:Nat):Int):=by unfold wrap64;omega
      rw [if_pos bL,e]
      rfl
     |cons c l'=>
      have e:wrap64 (((p + 1:Nat):Int) + 1)=((p + 2:Nat):Int):=by unfold wrap64;omega
      rw [e]
      show (if ((c.toNat:Int) < 32) then _ else if ((c.toNat:Int) > 126) then _ else _)=_
      by_cases hc:c < 32
      ·rw [if_pos (QG.mpr hc)]
       simp only [if_pos (Or.inl hc:c < 32∨126 < c)]
       rfl
      ·rw [if_neg (fun h=>hc (QG.mp h))]
       by_cases hd: 126 < c
       ·rw [if_pos (Hl.mpr hd)]
        simp only [if_pos (Or.inr hd:c < 32∨126 < c)]
        rfl
       ·rw [if_neg (fun h=>hd (Hl.mp h)),if_pos (by simp [pN];rw [hr] at ha;simp at ha;omega)]
        have hcd: ¬ (c < 32∨126 < c):=fun h=>h.elim hc hd
        simp only [if_neg hcd]
        have hr2:rest s (p + 2)=l':=by rw [je,hr];rfl
        have hn:pN acc ++ [(c.toNat:Int)]=pN (acc ++ [c]):=by simp [pN]
        have:=Ho s hs k (p + 2) (acc ++ [c]) (by rw [hr2];simp at hlen;rw [hr] at h;simp at h;omega) (by simp at hlen;omega) (by rw [hr2];rw [hr] at ha;simp at ha ⊢;omega)
        rw [show Uo (c :: l')=c from rfl,hn,this,hr2,Nat.add_assoc,Nat.add_comm 2]
    ·rw [if_neg hb,if_neg (show ¬ (b.toNat:Int)=92 from fun h=>hb (toNat_eq (b:=92) h)),s9 p aq]
     by_cases hc:b < 32
     ·rw [if_pos (QG.mpr hc),if_pos (Or.inl hc)]
      rfl
     ·rw [if_neg (fun h=>hc (QG.mp h))]
      by_cases hd: 126 < b
      ·rw [if_pos (Hl.mpr hd),if_pos (Or.inr hd)]
       rfl
      ·rw [if_neg (fun h=>hd (Hl.mp h)),if_pos (by simp [pN];rw [hr] at ha;simp at ha;omega),if_neg (fun h=>h.elim hc hd)]
       have hn:pN acc ++ [(b.toNat:Int)]=pN (acc ++ [b]):=by simp [pN]
       have:=Ho s hs k (p + 1) (acc ++ [b]) Fg aq (by rw [h3];rw [hr] at ha;simp at ha ⊢;omega)
       rw [hn,this,h3,Nat.add_assoc,Nat.add_comm 1]
theorem Hp:∀ (n:Nat) (l acc:List UInt8),l.length < n→(kO l acc).1=true→(kO l acc).2.2≤l.length
 | 0,_,_,h,_ =>absurd h (Nat.not_lt_zero _)
 |n + 1,l,acc,h,ho=>by
  cases l with
  |nil=>unfold kO at ho;cases ho
  |cons b l=>
   unfold kO at ho ⊢
   by_cases hq:b=34
   ·rw [if_pos hq] at ho ⊢
    simp
   ·rw [if_neg hq] at ho ⊢
    by_cases hb:b=92
    ·rw [if_pos hb] at ho ⊢
     cases l with
     |nil=>cases ho
     |cons c l'=>
      by_cases hc:c < 32∨126 < c
      ·simp only [if_pos hc] at ho
       cases ho
      ·simp only [if_neg hc] at ho ⊢
       have:=Hp n l' (acc ++ [c]) zI ho
       simp
       omega
    ·rw [if_neg hb] at ho ⊢
     by_cases hc:b < 32∨126 < b
     ·rw [if_pos hc] at ho
      cases ho
     ·rw [if_neg hc] at ho ⊢
      have:=Hp n l (acc ++ [b]) zI ho
      simp
      omega
def eY (l:List UInt8):Bool×ByteArray×Nat:=
 if cX 34 l=true then ((kO (l.drop 1) []).1,au (kO (l.drop 1) []).2.1,1 + (kO (l.drop 1) []).2.2)
 else ((fN iD 46 l).1,au (l.take (fN iD 46 l).2),(fN iD 46 l).2)
theorem pO {c:UInt8} {l:List UInt8} (h:cX c l=true): 0 < l.length:=by
 cases l with
 |nil=>cases h
 |cons _ _ =>simp
theorem Vj (l:List UInt8) (h:(eY l).1=true):(eY l).2.2≤l.length:=by
 unfold eY at h ⊢
 by_cases hq:cX 34 l=true
 ·rw [if_pos hq] at h ⊢
  have h1:=pO hq
  have h2:=Hp _ (l.drop 1) [] (Nat.lt_succ_self _) h
  rw [List.length_drop] at h2
  show 1 + _≤_
  omega
 ·rw [if_neg hq]
  exact zo iD 46 zn _ l (Nat.lt_succ_self _)
theorem Yv (s:ByteArray) (hs:s.size < 70368744177664) (k p:Nat) (hk:(rest s p).length + 1 < k) (hp:p≤s.size):
 cm.f k s (p:Int)=some ((eY (rest s p)).2.1,(eY (rest s p)).1,s,((p + (eY (rest s p)).2.2:Nat):Int)):=by
 have hrl:=gT s p
 unfold cm.f eY
 rw [ow s p 34 34 rfl aq]
 simp only [Option.bind_some]
 by_cases hq:cX 34 (rest s p)=true
 ·have h1:=pO hq
  have:=Ho s hs k (p + 1) [] qb aq (by rw [gT];simp)
  rw [if_pos hq,if_pos hq,if_pos hq]
  rw [show ([]:List Int)=pN [] from rfl,this,je,Nat.add_assoc]
 ·rw [if_neg hq,if_neg hq,if_neg hq]
  have hle:=zo iD 46 zn _ (rest s p) (Nat.lt_succ_self _)
  unfold aH.f
  rw [DG s aq k p hk hp]
  simp only [Option.bind_some]
  rw [if_pos aq,if_pos aq,if_pos aq,Int.toNat_natCast,Int.toNat_natCast,kS _ _ _ aq,Nat.add_sub_cancel_left]
theorem more {α:Type} {f:Nat→Option α} (hm:∀ k,cN (f k) (f (k + 1))) {k1 k2:Nat} (h:k1≤k2) {r:α} (hf:f k1=some r):f k2=some r:=by
 induction h with
 |refl=>exact hf
 |step _ ih=>exact hm _ _ ih
theorem Hq (k0:Nat) {xs:List ByteArray} (hf:∀ y,y∈xs→∀ k,k0≤k→∃ r,gz.f y=some r):∀ (k i:Nat),xs.length - i + k0 < k→i≤xs.length→xs.length < 4611686018427387904→∃ r,aA.l0 k xs (xs.length:Int) (i:Int)=some r
 | 0,_,h,_,_ =>absurd h (Nat.not_lt_zero _)
 |k + 1,i,h,hi,hl=>by
  unfold aA.l0
  by_cases hlt:i < xs.length
  ·rw [if_pos aq,if_pos aq,if_pos aq]
   have hrd:kG ByteArray.empty xs (i:Int)=xs[i]:=by simp [kG,hlt]
   obtain ⟨r,hr⟩:=hf xs[i] (List.getElem_mem hlt) k aq
   rw [hrd,hr]
   simp only [Option.bind_some]
   split
   ·exact ⟨_,rfl⟩
   ·rw [s9 i aq]
    exact Hq k0 hf k (i + 1) aq aq hl
  ·rw [if_neg aq]
   exact ⟨_,rfl⟩
theorem Ot (k0 k:Nat) {xs:List ByteArray} (hf:∀ y,y∈xs→∀ k,k0≤k→∃ r,gz.f y=some r) (hk:xs.length + k0 < k) (hl:xs.length < 4611686018427387904):∃ r,aA.f k xs=some r:=Hq k0 hf k 0 aq (Nat.zero_le _) hl
theorem C9 (k0:Nat) {xs:List ByteArray} (hf:∀ y,y∈xs→∀ k,k0≤k→∃ r,kr.f y=some r):∀ (k i:Nat),xs.length - i + k0 < k→i≤xs.length→xs.length < 4611686018427387904→∃ r,aB.l0 k xs (xs.length:Int) (i:Int)=some r
 | 0,_,h,_,_ =>absurd h (Nat.not_lt_zero _)
 |k + 1,i,h,hi,hl=>by
  unfold aB.l0
  by_cases hlt:i < xs.length
  ·rw [if_pos aq,if_pos aq,if_pos aq]
   have hrd:kG ByteArray.empty xs (i:Int)=xs[i]:=by simp [kG,hlt]
   obtain ⟨r,hr⟩:=hf xs[i] (List.getElem_mem hlt) k aq
   rw [hrd,hr]
   simp only [Option.bind_some]
   split
   ·exact ⟨_,rfl⟩
   ·rw [s9 i aq]
    exact C9 k0 hf k (i + 1) aq aq hl
  ·rw [if_neg aq]
   exact ⟨_,rfl⟩
theorem I2 (k0 k:Nat) {xs:List ByteArray} (hf:∀ y,y∈xs→∀ k,k0≤k→∃ r,kr.f y=some r) (hk:xs.length + k0 < k) (hl:xs.length < 4611686018427387904):∃ r,aB.f k xs=some r:=C9 k0 hf k 0 aq (Nat.zero_le _) hl
theorem Da (k0:Nat) {xs:List ByteArray} (hf:∀ y,y∈xs→∀ k,k0≤k→∃ r,fZ.f k y=some r):∀ (k i:Nat),xs.length - i + k0 < k→i≤xs.length→xs.length < 4611686018427387904→∃ r,aG.l0 k xs (xs.length:Int) (i:Int)=some r
 | 0,_,h,_,_ =>absurd h (Nat.not_lt_zero _)
 |k + 1,i,h,hi,hl=>by
  unfold aG.l0
  by_cases hlt:i < xs.length
  ·rw [if_pos aq,if_pos aq,if_pos aq]
   have hrd:kG ByteArray.empty xs (i:Int)=xs[i]:=by simp [kG,hlt]
   obtain ⟨r,hr⟩:=hf xs[i] (List.getElem_mem hlt) k aq
   rw [hrd,hr]
   simp only [Option.bind_some]
   split
   ·exact ⟨_,rfl⟩
   ·rw [s9 i aq]
    exact Da k0 hf k (i + 1) aq aq hl
  ·rw [if_neg aq]
   exact ⟨_,rfl⟩
theorem I3 (k0 k:Nat) {xs:List ByteArray} (hf:∀ y,y∈xs→∀ k,k0≤k→∃ r,fZ.f k y=some r) (hk:xs.length + k0 < k) (hl:xs.length < 4611686018427387904):∃ r,aG.f k xs=some r:=Da k0 hf k 0 aq (Nat.zero_le _) hl
theorem rI (x:ByteArray) (c:UInt8) (hx:x.size < 4294967281):strings_Split.f x ⟨#[c]⟩=some ((pieces c x.data.toList).map au):=by
 unfold strings_Split.f
 rw [show one? ⟨#[c]⟩=some c from rfl]
 simp only [if_pos hx]
theorem Hr (c:UInt8) (x:ByteArray):((pieces c x.data.toList).map au).length≤x.size + 1:=by
 rw [List.length_map,lO]
 have:=List.count_le_length (a:=c) (l:=x.data.toList)
 rw [dB] at this
 omega
theorem En (x:ByteArray) (hx:x.size < 4294967281):∃ r,fy.f x=some r:=by
 unfold fy.f
 rw [if_pos hx]
 exact ⟨_,rfl⟩
theorem Yw (x:ByteArray) (hx:x.size < 4294967281):∃ r,qD.f x=some r:=by
 unfold qD.f strings_Cut.f
 rw [if_pos hx]
 simp only [Option.bind_some]
 have h1:(au (Lib.cut x.data.toList [58,58]).1).size < 4294967281:=by
  show (Lib.cut x.data.toList [58,58]).1.length < _
  have:=dB x
  unfold Lib.cut
  split
  ·simp only [List.length_take];omega
  ·simp only;omega
 have h2:(au (Lib.cut x.data.toList [58,58]).2.1).size < 4294967281:=by
  show (Lib.cut x.data.toList [58,58]).2.1.length < _
  have:=dB x
  unfold Lib.cut
  split
  ·simp only [List.length_drop];omega
  ·simp only [List.length_nil];omega
 obtain ⟨a,ha⟩:=En _ h1
 obtain ⟨b,hb⟩:=En _ h2
 show ∃ r,((fy.f (au (Lib.cut x.data.toList [58,58]).1)).bind fun t151=>((fy.f (au (Lib.cut x.data.toList [58,58]).2.1)).bind fun t152=>_))=some r
 rw [ha,hb]
 simp only [Option.bind_some]
 split
 ·split
  ·split<;>exact ⟨_,rfl⟩
  ·exact ⟨_,rfl⟩
 ·exact ⟨_,rfl⟩
theorem Vk (x:ByteArray) (hx:x.size < 4294967281):∃ r,gz.f x=some r:=by
 unfold gz.f
 rw [if_pos aq]
 exact ⟨_,rfl⟩
theorem Mz (x:ByteArray) (hx:x.size < 4294967281) (k:Nat) (hk:x.size + 4 < k):∃ r,bZ.f k x=some r:=by
 obtain ⟨k,rfl⟩:∃ k',k=k' + 1:=⟨k - 1,aq⟩
 have hj:∀ b,∃ r,bZ.j0 (k + 1) x b=some r∨b=true∧x.size < 5:=by
  intro b
  rw [bZ.j0]
  cases b with
  |true=>
   by_cases h5:x.size < 5
   ·exact ⟨true,.inr ⟨rfl,h5⟩⟩
   ·obtain ⟨r,hr⟩:=Yw (x.extract 5 x.size) (by rw [ByteArray.size_extract];omega)
    exact ⟨r,.inl (by rw [if_pos rfl,if_pos aq,hr];rfl)⟩
  |false=>
   rw [if_neg bL,rI x 46 hx]
   simp only [Option.bind_some]
   split
   ·have hn:=Hr 46 x
    obtain ⟨r,hr⟩:=Ot 0 k (xs:=(pieces 46 x.data.toList).map au) (fun y hy _ _ =>Vk y (by have:=Eh 46 x y hy;omega)) aq aq
    unfold bE.f
    rw [hr]
    exact ⟨_,.inl rfl⟩
   ·exact ⟨_,.inl rfl⟩
 unfold bZ.f
 split
 ·rename_i h5
  rw [if_pos bL,if_pos aq]
  have hf:cE.f (x.extract 0 5)=some (cE.g (x.extract 0 5)):=by
   unfold cE.f
   rw [if_pos]
   rw [ByteArray.size_extract]
   omega
  rw [hf]
  simp only [Option.bind_some]
  obtain ⟨r,hr|⟨_,hr⟩⟩:=hj ((cE.g (x.extract 0 5)).toList == ([105,112,118,54,58]:List UInt8))
  ·exact ⟨r,hr⟩
  ·omega
 ·obtain ⟨r,hr|⟨hr,_⟩⟩:=hj false
  ·exact ⟨r,hr⟩
  ·cases hr
def QH (w:ByteArray):Bool:=(bZ.f (w.size + 5) w).getD false
theorem QI (x:ByteArray) (hx:x.size < 4294967281) (k:Nat) (hk:x.size + 4 < k):bZ.f k x=some (QH x):=by
 obtain ⟨r,hr⟩:=Mz x hx (x.size + 5) aq
 have h1:QH x=r:=by unfold QH;rw [hr];rfl
 rw [h1]
 exact nA (fun k=>bZ.mono x k) aq hr
def l8 (l:List UInt8):Bool×ByteArray×ByteArray×Bool×Nat:=
 if (eY l).1=true then
  if cX 64 (l.drop (eY l).2.2)=true then
   if cX 91 (l.drop ((eY l).2.2 + 1))=true then
    if cX 93 (l.drop ((eY l).2.2 + 2 + ((l.drop ((eY l).2.2 + 2)).takeWhile jE).length))=true then
     (QH (au ((l.drop ((eY l).2.2 + 2)).takeWhile jE)),(eY l).2.1,cE.g (au ((l.drop ((eY l).2.2 + 2)).takeWhile jE)),true,(eY l).2.2 + 2 + ((l.drop ((eY l).2.2 + 2)).takeWhile jE).length + 1)
    else (false,(eY l).2.1,cE.g (au ((l.drop ((eY l).2.2 + 2)).takeWhile jE)),true,(eY l).2.2 + 2 + ((l.drop ((eY l).2.2 + 2)).takeWhile jE).length)
   else ((pM (l.drop ((eY l).2.2 + 1))).1,(eY l).2.1,(pM (l.drop ((eY l).2.2 + 1))).2.1,false,(eY l).2.2 + 1 + (pM (l.drop ((eY l).2.2 + 1))).2.2)
  else (false,⟨#[]⟩,⟨#[]⟩,false,(eY l).2.2)
 else (false,⟨#[]⟩,⟨#[]⟩,false,(eY l).2.2)
theorem Jr {c:UInt8} {s:ByteArray} {p:Nat} (h:cX c (rest s p)=true):p < s.size:=by
 have:=pO h
 rw [gT] at this
 omega
theorem aev (s:ByteArray) (hs:s.size < 4294967281) (k p:Nat) (hk:(rest s p).length + 6 < k) (hp:p≤s.size):
 cz.f k s (p:Int)=some ((l8 (rest s p)).2.1,(l8 (rest s p)).2.2.1,(l8 (rest s p)).2.2.2.1,(l8 (rest s p)).1,s,((p + (l8 (rest s p)).2.2.2.2:Nat):Int)):=by
 obtain ⟨k,rfl⟩:∃ k',k=k' + 1:=⟨k - 1,aq⟩
 have hrl:=gT s p
 unfold cz.f l8
 rw [Yv s aq (k + 1) p aq hp]
 simp only [Option.bind_some]
 by_cases h1:(eY (rest s p)).1=true
 ·have hle:=Vj _ h1
  rw [if_pos h1,if_pos h1,ow s _ 64 64 rfl aq]
  simp only [Option.bind_some,je]
  by_cases h2:cX 64 ((rest s p).drop (eY (rest s p)).2.2)=true
  ·have hl2:=Jr (by rw [je];exact h2)
   rw [if_pos h2,if_pos h2,h2,cz.j0,if_neg bL,ow s _ 91 91 rfl aq]
   simp only [Option.bind_some]
   rw [Nat.add_assoc p,je]
   by_cases h3:cX 91 ((rest s p).drop ((eY (rest s p)).2.2 + 1))=true
   ·have hl3:=Jr (by rw [je];exact h3)
    rw [if_pos h3,if_pos h3,if_pos h3,Nat.add_assoc p,abn s aq k _ qb aq,je]
    simp only [Option.bind_some]
    have hw:=oz jE ((rest s p).drop ((eY (rest s p)).2.2 + 1 + 1))
    rw [List.length_drop] at hw
    have hf:cE.f (au (((rest s p).drop ((eY (rest s p)).2.2 + 1 + 1)).takeWhile jE))=some (cE.g (au (((rest s p).drop ((eY (rest s p)).2.2 + 1 + 1)).takeWhile jE))):=by
     unfold cE.f
     rw [if_pos]
     rw [br]
     omega
    rw [hf]
    simp only [Option.bind_some]
    rw [ow s _ 93 93 rfl aq]
    simp only [Option.bind_some]
    rw [Nat.add_assoc p,je]
    by_cases h4:cX 93 ((rest s p).drop ((eY (rest s p)).2.2 + 1 + 1 + (((rest s p).drop ((eY (rest s p)).2.2 + 1 + 1)).takeWhile jE).length))=true
    ·rw [if_pos h4,if_pos h4,if_pos h4,QI _ j6 k j6]
     rfl
    ·rw [if_neg h4,if_neg h4,if_neg h4]
   ·rw [if_neg h3,if_neg h3,if_neg h3,domain_eq s aq k _ qb aq,je]
    simp only [Option.bind_some]
    rw [Nat.add_assoc p]
  ·rw [if_neg h2,if_neg h2,Bool.eq_false_iff.mpr h2,cz.j0,if_pos (show (!false)=true from rfl)]
 ·rw [if_neg h1,if_neg h1,cz.j0,if_pos rfl]
def jW (l:List UInt8):Bool×ByteArray×Nat:=
 if cX 64 l=true then ((pM (l.drop 1)).1,(pM (l.drop 1)).2.1,1 + (pM (l.drop 1)).2.2) else (false,(pM l).2.1,(pM l).2.2)
theorem Ut (l:List UInt8):(jW l).2.2≤l.length:=by
 unfold jW
 split
 ·rename_i h
  have h1:=pO h
  have:=C8 (l.drop 1)
  rw [List.length_drop] at this
  show 1 + _≤_
  omega
 ·exact C8 l
theorem aew (s:ByteArray) (hs:s.size < 4294967281) (k p:Nat) (rs:List ByteArray) (hr:rs.length < 8000000000000) (hk:(rest s p).length + 1 < k) (hp:p≤s.size):
 iz.f k s (p:Int) rs=some ((jW (rest s p)).1,s,((p + (jW (rest s p)).2.2:Nat):Int),rs ++ [(jW (rest s p)).2.1]):=by
 have hrl:=gT s p
 unfold iz.f jW
 rw [ow s p 64 64 rfl aq]
 simp only [Option.bind_some]
 by_cases h:cX 64 (rest s p)=true
 ·have h1:=pO h
  rw [if_pos h,if_pos h,h,domain_eq s aq k _ qb aq,je]
  simp only [Option.bind_some]
  rw [if_pos hr,Bool.true_and,Nat.add_assoc]
 ·rw [if_neg h,if_neg h,Bool.eq_false_iff.mpr h,domain_eq s aq k _ hk hp]
  simp only [Option.bind_some]
  rw [if_pos hr,Bool.false_and]
def zq:Nat→List UInt8→Bool×List ByteArray×Nat
 | 0,_ =>(false,[],0)
 |n + 1,l=>if (jW l).1=true then (if cX 44 (l.drop (jW l).2.2)=true then ((zq n (l.drop ((jW l).2.2 + 1))).1,(jW l).2.1 :: (zq n (l.drop ((jW l).2.2 + 1))).2.1,(jW l).2.2 + 1 + (zq n (l.drop ((jW l).2.2 + 1))).2.2) else (true,[(jW l).2.1],(jW l).2.2)) else (false,[(jW l).2.1],(jW l).2.2)
def iL (l:List UInt8):Bool×List ByteArray×Nat:=zq (l.length + 1) l
theorem Hs:∀ (n m:Nat) (l:List UInt8),l.length < n→l.length < m→zq n l=zq m l
 | 0,_,_,h,_ =>absurd h (Nat.not_lt_zero _)
 |_,0,_,_,h=>absurd h (Nat.not_lt_zero _)
 |n + 1,m + 1,l,h1,h2=>by
  unfold zq
  by_cases hp:(jW l).1=true
  ·rw [if_pos hp,if_pos hp]
   by_cases hn:cX 44 (l.drop (jW l).2.2)=true
   ·have:=gG hn
    rw [if_pos hn,if_pos hn,Hs n m _ lq lq]
   ·rw [if_neg hn,if_neg hn]
  ·rw [if_neg hp,if_neg hp]
theorem tS (l:List UInt8):
 iL l=if (jW l).1=true then (if cX 44 (l.drop (jW l).2.2)=true then ((iL (l.drop ((jW l).2.2 + 1))).1,(jW l).2.1 :: (iL (l.drop ((jW l).2.2 + 1))).2.1,(jW l).2.2 + 1 + (iL (l.drop ((jW l).2.2 + 1))).2.2) else (true,[(jW l).2.1],(jW l).2.2)) else (false,[(jW l).2.1],(jW l).2.2):=by
 unfold iL
 rw [zq]
 by_cases hp:(jW l).1=true
 ·rw [if_pos hp,if_pos hp]
  by_cases hn:cX 44 (l.drop (jW l).2.2)=true
  ·have:=gG hn
   rw [if_pos hn,if_pos hn,Hs l.length ((l.drop ((jW l).2.2 + 1)).length + 1) _ lq aq]
  ·rw [if_neg hn,if_neg hn]
 ·rw [if_neg hp,if_neg hp]
theorem Js:∀ (n:Nat) (l:List UInt8),l.length < n→(iL l).2.2≤l.length
 | 0,_,h=>absurd h (Nat.not_lt_zero _)
 |n + 1,l,h=>by
  rw [tS]
  have hl:=Ut l
  by_cases hp:(jW l).1=true
  ·rw [if_pos hp]
   by_cases hn:cX 44 (l.drop (jW l).2.2)=true
   ·have h1:=gG hn
    have h2:=Js n (l.drop ((jW l).2.2 + 1)) lq
    rw [List.length_drop] at h2
    rw [if_pos hn]
    show _ + 1 + _≤_
    omega
   ·rw [if_neg hn]
    exact hl
  ·rw [if_neg hp]
   exact hl
theorem Jt (s:ByteArray) (hs:s.size < 4294967281):∀ (k p:Nat) (rs:List ByteArray),(rest s p).length + 2 < k→p≤s.size→rs.length + (rest s p).length≤s.size→
 dD.l0 k s (p:Int) rs=some ((iL (rest s p)).1,s,((p + (iL (rest s p)).2.2:Nat):Int),rs ++ (iL (rest s p)).2.1)
 | 0,p,_,h,_,_ =>absurd h aq
 |k + 1,p,rs,h,hp,hr=>by
  have hle:=Ut (rest s p)
  have hrl:=gT s p
  unfold dD.l0
  rw [aew s hs k p rs aq aq hp,tS]
  simp only [Option.bind_some]
  by_cases h1:(jW (rest s p)).1=true
  ·rw [if_pos h1,if_pos h1,ow s _ 44 44 rfl aq]
   simp only [Option.bind_some,je]
   by_cases h2:cX 44 ((rest s p).drop (jW (rest s p)).2.2)=true
   ·have h3:=gG h2
    rw [if_pos h2,if_pos h2,if_pos h2]
    have h4:=Jt s hs k (p + (jW (rest s p)).2.2 + 1) (rs ++ [(jW (rest s p)).2.1]) qb aq (by rw [gT,List.length_append];simp;omega)
    rw [h4,Nat.add_assoc p,je,List.append_assoc]
    congr 4
    dsimp only
    omega
   ·rw [if_neg h2,if_neg h2,if_neg h2]
  ·rw [if_neg h1,if_neg h1]
def j3 (l:List UInt8):Bool:=decide (10 < l.length) && (cE.g (au (l.take 10))).toList == ([112,111,115,116,109,97,115,116,101,114]:List UInt8) && cX 62 (l.drop 10)
theorem QJ (s:ByteArray) (p:Nat) (_hp:p≤s.size):qG s (p:Int)=j3 (rest s p):=by
 have hrl:=gT s p
 unfold qG j3
 by_cases h:p + 10 < s.size
 ·rw [decide_eq_true aq,decide_eq_true aq]
  have e:s.extract ((p:Int)).toNat ((p:Int) + 10).toNat=au ((rest s p).take 10):=by
   rw [show ((p:Int) + 10).toNat=p + 10 from by omega,Int.toNat_natCast,kS _ _ _ aq,Nat.add_sub_cancel_left]
  rw [e]
  congr 1
  rw [← je]
  cases hr:rest s (p + 10) with
  |nil=>
   have:=uk hr
   omega
  |cons b l=>
   obtain ⟨_,h2,_⟩:=pY hr
   rw [show ((p:Int) + 10)=((p + 10:Nat):Int) from by omega,h2]
   show ((b.toNat:Int) == 62)=(b == 62)
   by_cases hb:b=62
   ·subst hb;rfl
   ·rw [beq_eq_false_iff_ne.mpr hb,beq_eq_false_iff_ne.mpr (show (b.toNat:Int)≠62 from fun h=>hb (toNat_eq (b:=62) h))]
 ·rw [decide_eq_false aq,decide_eq_false aq]
  rfl
def gq (l:List UInt8):Bool×List ByteArray×ByteArray×ByteArray×Bool×Nat:=
 if j3 l=true then (true,[],lC,⟨#[]⟩,false,10)
 else if cX 64 l=true then
  (if (iL l).1=true then
    (if cX 58 (l.drop (iL l).2.2)=true then
      ((l8 (l.drop ((iL l).2.2 + 1))).1,(iL l).2.1,(l8 (l.drop ((iL l).2.2 + 1))).2.1,(l8 (l.drop ((iL l).2.2 + 1))).2.2.1,(l8 (l.drop ((iL l).2.2 + 1))).2.2.2.1,(iL l).2.2 + 1 + (l8 (l.drop ((iL l).2.2 + 1))).2.2.2.2)
    else (false,[],⟨#[]⟩,⟨#[]⟩,false,(iL l).2.2))
  else (false,[],⟨#[]⟩,⟨#[]⟩,false,(iL l).2.2))
 else ((l8 l).1,[],(l8 l).2.1,(l8 l).2.2.1,(l8 l).2.2.2.1,(l8 l).2.2.2.2)
theorem Ju (s:ByteArray) (hs:s.size < 4294967281) (k p:Nat) (rs:List ByteArray) (hk:(rest s p).length + 6 < k) (hp:p≤s.size):
 dh.f3 k s (p:Int) rs=some (false,rs,(l8 (rest s p)).2.1,(l8 (rest s p)).2.2.1,(l8 (rest s p)).2.2.2.1,(l8 (rest s p)).1,s,((p + (l8 (rest s p)).2.2.2.2:Nat):Int)):=by
 unfold dh.f3
 rw [aev s hs k p hk hp]
 rfl
theorem Uu (l:List UInt8):((Uo l).toNat:Int)=64↔cX 64 l=true:=by
 cases l with
 |nil=>simp [Uo,cX]
 |cons b l=>
  show (b.toNat:Int)=64↔(b == 64)=true
  rw [beq_iff_eq]
  exact ⟨fun h=>toNat_eq (b:=64) h,fun h=>by rw [h];rfl⟩
theorem inner_eq (s:ByteArray) (hs:s.size < 4294967281) (k p:Nat) (hk:(rest s p).length + 6 < k) (hp:p≤s.size):
 dh.f k s (p:Int)=some (false,(gq (rest s p)).2.1,(gq (rest s p)).2.2.1,(gq (rest s p)).2.2.2.1,(gq (rest s p)).2.2.2.2.1,(gq (rest s p)).1,s,((p + (gq (rest s p)).2.2.2.2.2:Nat):Int)):=by
 have hrl:=gT s p
 unfold dh.f gq
 rw [if_pos ⟨aq,aq,aq⟩,QJ s p hp]
 by_cases h0:j3 (rest s p)=true
 ·rw [if_pos h0,if_pos h0]
  rfl
 ·rw [if_neg h0,if_neg h0]
  unfold dh.f2
  rw [Uq]
  simp only [Option.bind_some]
  by_cases h1:cX 64 (rest s p)=true
  ·have hle:=Js _ (rest s p) (Nat.lt_succ_self _)
   rw [if_pos ((Uu _).mpr h1),if_pos h1,Jt s hs k p [] aq hp qd]
   simp only [Option.bind_some]
   by_cases h2:(iL (rest s p)).1=true
   ·rw [if_pos h2,if_pos h2,ow s _ 58 58 rfl aq]
    simp only [Option.bind_some,je]
    by_cases h3:cX 58 ((rest s p).drop (iL (rest s p)).2.2)=true
    ·have h3':=gG h3
     rw [if_pos h3,if_pos h3,if_pos h3,Nat.add_assoc p,Ju s hs k _ _ qb aq,je,List.nil_append,Nat.add_assoc p]
    ·rw [if_neg h3,if_neg h3,if_neg h3]
   ·rw [if_neg h2,if_neg h2]
  ·rw [if_neg (fun h=>h1 ((Uu _).mp h)),if_neg h1,Ju s hs k p [] hk hp]
theorem Bq (x:ByteArray) (k:Nat) (hk:x.size + 2 < k):∃ r,eX.f k x=some r:=by
 unfold eX.f
 split
 ·rename_i h
  have hn:=Hr 46 x
  rw [rI x 46 aq]
  simp only [Option.bind_some]
  obtain ⟨r,hr⟩:=I2 0 k (xs:=(pieces 46 x.data.toList).map au) (fun y _ _ _ =>⟨_,rfl⟩) aq aq
  unfold bM.f
  rw [hr]
  exact ⟨_,rfl⟩
 ·exact ⟨_,rfl⟩
theorem Ou (a b:ByteArray) (c:Bool) (k:Nat) (hk:b.size + 2 < k):∃ r,eJ.f k a b c=some r:=by
 unfold eJ.f
 obtain ⟨r,hr⟩:=Bq b k hk
 split
 ·split
  ·exact ⟨_,rfl⟩
  ·rw [hr]
   exact ⟨_,rfl⟩
 ·exact ⟨_,rfl⟩
theorem Vl (k:Nat) (s:ByteArray) (q:Int) (nul:Bool) (route:List ByteArray) (lo dom:ByteArray) (lit:Bool) (M:Nat) (hM:∀ y,y∈route→y.size≤M) (hd:dom.size≤M) (hk:route.length + M + 5 < k) (hr:route.length < 4611686018427387904):
 ∃ r,bU.j0 k false s q nul route lo dom lit=some r:=by
 obtain ⟨k,rfl⟩:∃ k',k=k' + 1:=⟨k - 1,aq⟩
 rw [bU.j0,if_neg bL]
 obtain ⟨a,ha⟩:=Ou lo dom lit k aq
 rw [ha]
 simp only [Option.bind_some]
 split
 ·split
  ·exact ⟨_,rfl⟩
  ·obtain ⟨c,hc⟩:=I3 (M + 3) k (xs:=route) (fun y hy k1 hk1=>by
    obtain ⟨d,hd⟩:=Bq y k1 (by have:=hM y hy;omega)
    unfold fZ.f
    rw [hd]
    exact ⟨_,rfl⟩) aq hr
   unfold bC.f
   rw [hc]
   simp only [Option.bind_some]
   split<;>exact ⟨_,rfl⟩
 ·exact ⟨_,rfl⟩
end Go.Proofs.YtokpnfljjjjikaaGreatDoor.jk
namespace Go.Proofs.YtokpnfljjjjikaaGreatDoor.jk
open Go.RowKit Go.Proofs.YtokpnfljjjjikaaGreatDoor Go.Proofs.YtokpnfljjjjikaaGreatDoor.n9 Go.Proofs.aj.bQ Go.Proofs.aj.cT
def Agree (n:Nat) (l l2:List UInt8):Prop:=l2.take (n + 1)=l.take (n + 1)
theorem Agree.le {n m:Nat} {l l2:List UInt8} (h:Agree n l l2) (hm:m≤n):Agree m l l2:=by
 unfold Agree at h ⊢
 have:=congrArg (List.take (m + 1)) h
 rwa [List.take_take,List.take_take,Nat.min_eq_left aq] at this
theorem Agree.drop {n a:Nat} {l l2:List UInt8} (h:Agree (a + n) l l2):Agree n (l.drop a) (l2.drop a):=by
 unfold Agree at h ⊢
 rw [List.take_drop,List.take_drop,show a + (n + 1)=a + n + 1 from rfl,h]
theorem Agree.take {n m:Nat} {l l2:List UInt8} (h:Agree n l l2) (hm:m≤n + 1):l2.take m=l.take m:=by
 cases m with
 |zero=>simp
 |succ m=>exact h.le aq
end Go.Proofs.YtokpnfljjjjikaaGreatDoor.jk
namespace Go.Proofs.YtokpnfljjjjikaaGreatDoor.jk
open Go.RowKit Go.Proofs.YtokpnfljjjjikaaGreatDoor Go.Proofs.YtokpnfljjjjikaaGreatDoor.n9 Go.Proofs.aj.bQ Go.Proofs.aj.cT
theorem Ht (x:ByteArray):(cE.g x).size=x.size:=by
 unfold cE.g
 rw [strOfNums_size,List.length_map,bytesOf_length]
theorem DI (l:List UInt8):(pM l).2.1.size≤l.length:=by
 unfold pM
 show (cE.g _).size≤_
 rw [Ht,br,List.length_take]
 omega
theorem Jv (l:List UInt8):(l8 l).2.2.1.size≤l.length:=by
 have hw:=oz jE (l.drop ((eY l).2.2 + 2))
 have hd:=DI (l.drop ((eY l).2.2 + 1))
 rw [List.length_drop] at hw hd
 have hs:(cE.g (au ((l.drop ((eY l).2.2 + 2)).takeWhile jE))).size≤l.length:=by
  rw [Ht,br]
  omega
 unfold l8
 split
 ·split
  ·split
   ·split
    ·exact hs
    ·exact hs
   ·exact Nat.le_trans hd aq
  ·exact Nat.zero_le _
 ·exact Nat.zero_le _
theorem Vm (l:List UInt8):(jW l).2.1.size≤l.length:=by
 unfold jW
 split
 ·exact Nat.le_trans (DI _) lq
 ·exact DI l
theorem Eo:∀ (n:Nat) (l:List UInt8),l.length < n→(iL l).2.1.length≤l.length + 1∧∀ y,y∈(iL l).2.1→y.size≤l.length
 | 0,_,h=>absurd h (Nat.not_lt_zero _)
 |n + 1,l,h=>by
  have hi:=Vm l
  have h1:∀ y,y∈ [(jW l).2.1]→y.size≤l.length:=by
   intro y hy
   rw [List.mem_singleton.mp hy]
   exact hi
  rw [tS]
  split
  ·split
   ·rename_i h2
    have h3:=gG h2
    obtain ⟨h4,h5⟩:=Eo n (l.drop ((jW l).2.2 + 1)) lq
    rw [List.length_drop] at h4 h5
    refine ⟨?_,?_⟩
    ·show ((jW l).2.1 :: _).length≤_
     rw [List.length_cons]
     omega
    ·intro y hy
     rcases List.mem_cons.mp hy with rfl|hy
     ·exact hi
     ·exact Nat.le_trans (h5 y hy) aq
   ·exact ⟨bf,h1⟩
  ·exact ⟨bf,h1⟩
theorem zu (l:List UInt8):(gq l).2.1.length≤l.length + 1∧(∀ y,y∈(gq l).2.1→y.size≤l.length)∧(gq l).2.2.2.1.size≤l.length:=by
 have hr:=Eo _ l (Nat.lt_succ_self _)
 have hb:=Jv l
 have hb2:=Jv (l.drop ((iL l).2.2 + 1))
 rw [List.length_drop] at hb2
 have hn:([]:List ByteArray).length≤l.length + 1∧∀ y,y∈([]:List ByteArray)→y.size≤l.length:=⟨Nat.zero_le _,fun _ h=>by cases h⟩
 unfold gq
 split
 ·exact ⟨hn.1,hn.2,Nat.zero_le _⟩
 ·split
  ·split
   ·split
    ·exact ⟨hr.1,hr.2,Nat.le_trans hb2 aq⟩
    ·exact ⟨hn.1,hn.2,Nat.zero_le _⟩
   ·exact ⟨hn.1,hn.2,Nat.zero_le _⟩
  ·exact ⟨hn.1,hn.2,hb⟩
def yB (l:List UInt8):Bool:=cX 60 l && cX 62 (l.drop 1)
def I4 (l:List UInt8):Bool:=cX 60 l && (gq (l.drop 1)).1 && cX 62 (l.drop (1 + (gq (l.drop 1)).2.2.2.2.2))
def Hu (l:List UInt8) (n:Nat):Prop:=(yB l=true∧n=2)∨(yB l=false∧I4 l=true∧n=2 + (gq (l.drop 1)).2.2.2.2.2)
theorem Vn {l:List UInt8} {n:Nat} (h:Hu l n): 2≤n∧n≤l.length:=by
 rcases h with ⟨h,rfl⟩|⟨_,h,rfl⟩
 ·unfold yB at h
  simp only [Bool.and_eq_true] at h
  have:=gG h.2
  omega
 ·unfold I4 at h
  simp only [Bool.and_eq_true] at h
  have:=gG h.2
  omega
end Go.Proofs.YtokpnfljjjjikaaGreatDoor.jk
namespace Go.Proofs.YtokpnfljjjjikaaGreatDoor.jk
open Go.RowKit Go.Proofs.YtokpnfljjjjikaaGreatDoor Go.Proofs.YtokpnfljjjjikaaGreatDoor.n9 Go.Proofs.aj.bQ Go.Proofs.aj.cT
set_option linter.unusedVariables false
set_option linter.unusedSimpArgs false
def q8 (P:UInt8→Bool) (t:List UInt8):Prop:=∀ b t',t=b :: t'→P b=false
theorem MA {P:UInt8→Bool} {t:List UInt8} (h:q8 P t):∀ l:List UInt8,(l ++ t).takeWhile P=l.takeWhile P
 | []=>by
   cases t with
   |nil=>rfl
   |cons b t=>rw [List.nil_append,List.takeWhile_cons_of_neg (by rw [h b t rfl];decide)];rfl
 |b :: l=>by
  by_cases hb:P b=true
  ·rw [List.cons_append,List.takeWhile_cons_of_pos hb,List.takeWhile_cons_of_pos hb,MA h l]
  ·rw [List.cons_append,List.takeWhile_cons_of_neg hb,List.takeWhile_cons_of_neg hb]
theorem MB (P:UInt8→Bool):∀ l:List UInt8,q8 P (l.drop (l.takeWhile P).length)
 | []=>by intro b t' h;simp at h
 |b :: l=>by
  by_cases hb:P b=true
  ·rw [List.takeWhile_cons_of_pos hb]
   exact MB P l
  ·rw [List.takeWhile_cons_of_neg hb]
   intro c t' h
   cases h
   exact Bool.eq_false_iff.mpr hb
theorem Vo {c:UInt8} {l t:List UInt8} {n:Nat} (hn:n≤l.length) (h:cX c t=false):cX c ((l ++ t).drop n)=cX c (l.drop n):=by
 rw [List.drop_append_of_le_length hn]
 cases l.drop n with
 |nil=>rw [List.nil_append,h];rfl
 |cons b l=>rfl
theorem Ov {t:List UInt8} (h:q8 nQ t) (l:List UInt8):fC (l ++ t)=fC l:=by
 unfold fC
 rw [MA h l]
theorem QK {t:List UInt8} (h:q8 kM t) (l:List UInt8):iD (l ++ t)=iD l:=by
 unfold iD
 rw [MA h l]
theorem Br {part:List UInt8→Bool×Nat} {c:UInt8} {t:List UInt8} (hp:∀ l,(part l).2≤l.length) (hpt:∀ l,part (l ++ t)=part l) (hc:cX c t=false):
 ∀ (n:Nat) (l:List UInt8),l.length < n→fN part c (l ++ t)=fN part c l
 | 0,_,h=>absurd h (Nat.not_lt_zero _)
 |n + 1,l,h=>by
  rw [lK part c (l ++ t),lK part c l,hpt,Vo (hp l) hc]
  by_cases h1:(part l).1=true
  ·rw [if_pos h1,if_pos h1]
   by_cases h2:cX c (l.drop (part l).2)=true
   ·have h3:=gG h2
    rw [if_pos h2,if_pos h2,List.drop_append_of_le_length aq,Br hp hpt hc n _ lq]
   ·rw [if_neg h2,if_neg h2]
  ·rw [if_neg h1,if_neg h1]
theorem Bt {part:List UInt8→Bool×Nat} {P:UInt8→Bool} {c:UInt8} (hp:∀ l:List UInt8,q8 P (l.drop (part l).2)):
 ∀ (n:Nat) (l:List UInt8),l.length < n→(fN part c l).1=true→q8 P (l.drop (fN part c l).2)∧cX c (l.drop (fN part c l).2)=false
 | 0,_,h,_ =>absurd h (Nat.not_lt_zero _)
 |n + 1,l,h,h1=>by
  rw [lK] at h1 ⊢
  by_cases h2:(part l).1=true
  ·rw [if_pos h2] at h1 ⊢
   by_cases h3:cX c (l.drop (part l).2)=true
   ·have h4:=gG h3
    rw [if_pos h3] at h1 ⊢
    have h5:=Bt hp n (l.drop ((part l).2 + 1)) lq h1
    rw [List.drop_drop] at h5
    exact h5
   ·rw [if_neg h3]
    exact ⟨hp l,Bool.eq_false_iff.mpr h3⟩
  ·rw [if_neg h2] at h1
   cases h1
theorem Ow (l:List UInt8):q8 nQ (l.drop (fC l).2):=MB nQ l
theorem QL (l:List UInt8):q8 kM (l.drop (iD l).2):=MB kM l
theorem zw {t:List UInt8} (h:q8 nQ t) (h2:cX 46 t=false) (l:List UInt8):fN fC 46 (l ++ t)=fN fC 46 l:=
 Br DF (Ov h) h2 _ l (Nat.lt_succ_self _)
theorem Hv {t:List UInt8} (h:q8 kM t) (h2:cX 46 t=false) (l:List UInt8):fN iD 46 (l ++ t)=fN iD 46 l:=
 Br zn (QK h) h2 _ l (Nat.lt_succ_self _)
theorem Ox (l:List UInt8) (h:(fN fC 46 l).1=true):fN fC 46 (l.take (fN fC 46 l).2)=(true,(fN fC 46 l).2):=by
 obtain ⟨h1,h2⟩:=Bt (P:=nQ) Ow _ l (Nat.lt_succ_self _) h
 have h3:=zw h1 h2 (l.take (fN fC 46 l).2)
 rw [List.take_append_drop] at h3
 rw [← h3,← h]
theorem QM (l:List UInt8) (h:(fN iD 46 l).1=true):fN iD 46 (l.take (fN iD 46 l).2)=(true,(fN iD 46 l).2):=by
 obtain ⟨h1,h2⟩:=Bt (P:=kM) QL _ l (Nat.lt_succ_self _) h
 have h3:=Hv h1 h2 (l.take (fN iD 46 l).2)
 rw [List.take_append_drop] at h3
 rw [← h3,← h]
def fO (b:UInt8):UInt8:=UInt8.ofNat (J9 (b.toNat:Int)).toNat
theorem nY (l:List UInt8):cE.g (au l)=au (l.map fO):=by
 unfold cE.g strOfNums bytesOf au
 congr 1
 simp only [List.map_map]
 rfl
theorem abo (b:UInt8):nQ (fO b)=nQ b:=fI (Q:=fun b=>nQ (fO b)=nQ b) gL b
theorem abp (b:UInt8):fO (fO b)=fO b:=fI (Q:=fun b=>fO (fO b)=fO b) gL b
theorem Yx (b:UInt8):(fO b != 45)=(b != 45):=fI (Q:=fun b=>(fO b != 45)=(b != 45)) gL b
theorem QN (b:UInt8):(fO b == 46)=(b == 46):=fI (Q:=fun b=>(fO b == 46)=(b == 46)) gL b
theorem sU (l:List UInt8):(l.map fO).map fO=l.map fO:=by
 rw [List.map_map]
 congr 1
 funext b
 exact abp b
theorem aex (l:List UInt8):(l.map fO).takeWhile nQ=(l.takeWhile nQ).map fO:=by
 rw [List.takeWhile_map]
 congr 2
 funext b
 exact abo b
theorem Hw (l:List UInt8) (n:Nat):(l.map fO).getD n 0=fO (l.getD n 0):=by
 rw [List.getD_eq_getElem?_getD,List.getD_eq_getElem?_getD,List.getElem?_map]
 cases l[n]? with
 |none=>rfl
 |some b=>rfl
theorem QO (l:List UInt8):fC (l.map fO)=fC l:=by
 unfold fC
 rw [aex,List.length_map]
 cases l.takeWhile nQ with
 |nil=>rfl
 |cons c t=>
  show (fO c != 45 && ((c :: t).map fO).getD (t.map fO).length 0 != 45,_)=(c != 45 && (c :: t).getD t.length 0 != 45,_)
  rw [Hw,Yx,Yx,List.length_map]
theorem Yy (l:List UInt8):cX 46 (l.map fO)=cX 46 l:=by
 cases l with
 |nil=>rfl
 |cons b l=>exact QN b
theorem Bu:∀ (n:Nat) (l:List UInt8),l.length < n→fN fC 46 (l.map fO)=fN fC 46 l
 | 0,_,h=>absurd h (Nat.not_lt_zero _)
 |n + 1,l,h=>by
  rw [lK fC 46 (l.map fO),lK fC 46 l,QO,← List.map_drop,Yy]
  by_cases h1:(fC l).1=true
  ·rw [if_pos h1,if_pos h1]
   by_cases h2:cX 46 (l.drop (fC l).2)=true
   ·have h3:=gG h2
    rw [if_pos h2,if_pos h2,← List.map_drop,Bu n _ lq]
   ·rw [if_neg h2,if_neg h2]
  ·rw [if_neg h1,if_neg h1]
def wJ (l:List UInt8):List UInt8:=(l.take (fN fC 46 l).2).map fO
theorem DJ (l:List UInt8):(pM l).2.1=au (wJ l):=nY _
theorem zx (l:List UInt8):(wJ l).length=(pM l).2.2:=by
 have h:=C8 l
 unfold wJ
 rw [List.length_map,List.length_take]
 exact Nat.min_eq_left h
theorem Yz (l t:List UInt8) (h:(pM l).1=true) (ht:q8 nQ t) (h2:cX 46 t=false):pM (wJ l ++ t)=(true,au (wJ l),(wJ l).length):=by
 have h1:fN fC 46 (wJ l ++ t)=(true,(wJ l).length):=by
  rw [zw ht h2]
  unfold wJ
  rw [Bu _ _ (Nat.lt_succ_self _),Ox l h,List.length_map,List.length_take,Nat.min_eq_left (show (fN fC 46 l).2≤l.length from C8 l)]
 unfold pM
 rw [h1]
 simp only
 rw [List.take_left',nY]
 ·unfold wJ
  rw [sU]
 ·rfl
theorem Ep {part:List UInt8→Bool×Nat} {R:UInt8→Prop} {c:UInt8} (hc:R c) (hp:∀ (l:List UInt8) (b:UInt8),b∈l.take (part l).2→R b):
 ∀ (n:Nat) (l:List UInt8),l.length < n→∀ b,b∈l.take (fN part c l).2→R b
 | 0,_,h=>absurd h (Nat.not_lt_zero _)
 |n + 1,l,h=>by
  intro b hb
  rw [lK] at hb
  by_cases h1:(part l).1=true
  ·rw [if_pos h1] at hb
   by_cases h2:cX c (l.drop (part l).2)=true
   ·have h3:=gG h2
    rw [if_pos h2] at hb
    simp only at hb
    rw [List.take_add,List.mem_append,List.take_add,List.mem_append] at hb
    rcases hb with (hb|hb)|hb
    ·exact hp l b hb
    ·cases hl:l.drop (part l).2 with
     |nil=>rw [hl] at hb;simp at hb
     |cons d l'=>
      rw [hl] at hb h2
      simp at hb
      have:d=c:=by simpa [cX] using h2
      rw [hb,this]
      exact hc
    ·exact Ep hc hp n _ lq b hb
   ·rw [if_neg h2] at hb
    exact hp l b hb
  ·rw [if_neg h1] at hb
   exact hp l b hb
def AQ (b:UInt8):Prop:=¬ (b < 32∨126 < b)
instance (b:UInt8):Decidable (AQ b):=by unfold AQ;infer_instance
theorem Vp (b:UInt8):kM b=true→AQ b:=fI (Q:=fun b=>kM b=true→AQ b) gL b
theorem Hx (b:UInt8):kM b=true→b≠34:=fI (Q:=fun b=>kM b=true→b≠34) gL b
theorem YA {P:UInt8→Bool}:∀ (l:List UInt8) (b:UInt8),b∈l.takeWhile P→P b=true
 | [],_,h=>by cases h
 |c :: l,b,h=>by
  by_cases hc:P c=true
  ·rw [List.takeWhile_cons_of_pos hc] at h
   rcases List.mem_cons.mp h with rfl|h
   ·exact hc
   ·exact YA l b h
  ·rw [List.takeWhile_cons_of_neg hc] at h
   cases h
theorem QS (l:List UInt8) (b:UInt8) (hb:b∈l.take (fN iD 46 l).2):AQ b:=
 Ep (R:=AQ) bL (fun l b hb=>Vp b (YA l b (by
  have e:l.take (iD l).2=l.takeWhile kM:=nX kM l
  rwa [e] at hb))) _ l (Nat.lt_succ_self _) b hb
theorem Bv:∀ (n:Nat) (l acc:List UInt8),l.length < n→(∀ b,b∈acc→AQ b)→∀ b,b∈(kO l acc).2.1→AQ b
 | 0,_,_,h,_ =>absurd h (Nat.not_lt_zero _)
 |n + 1,l,acc,h,ha=>by
  intro d hd
  cases l with
  |nil=>unfold kO at hd;cases hd
  |cons b l=>
   unfold kO at hd
   by_cases hq:b=34
   ·rw [if_pos hq] at hd
    exact ha d hd
   ·rw [if_neg hq] at hd
    by_cases hb:b=92
    ·rw [if_pos hb] at hd
     cases l with
     |nil=>cases hd
     |cons c l'=>
      by_cases hc:c < 32∨126 < c
      ·simp only [if_pos hc] at hd
       cases hd
      ·simp only [if_neg hc] at hd
       refine Bv n l' (acc ++ [c]) zI (fun x hx=>?_) d hd
       rcases List.mem_append.mp hx with hx|hx
       ·exact ha x hx
       ·rw [List.mem_singleton.mp hx];exact hc
    ·rw [if_neg hb] at hd
     by_cases hc:b < 32∨126 < b
     ·rw [if_pos hc] at hd
      cases hd
     ·rw [if_neg hc] at hd
      refine Bv n l (acc ++ [b]) zI (fun x hx=>?_) d hd
      rcases List.mem_append.mp hx with hx|hx
      ·exact ha x hx
      ·rw [List.mem_singleton.mp hx];exact hc
def zy (l:List UInt8):List UInt8:=if cX 34 l=true then (kO (l.drop 1) []).2.1 else l.take (fN iD 46 l).2
theorem Er (l:List UInt8):(eY l).2.1=au (zy l):=by
 unfold eY zy
 split<;>rfl
theorem Es (l:List UInt8) (b:UInt8) (hb:b∈zy l):AQ b:=by
 unfold zy at hb
 split at hb
 ·exact Bv _ _ [] (Nat.lt_succ_self _) (fun _ h=>by cases h) b hb
 ·exact QS l b hb
def qB (b:UInt8):List UInt8:=if b=34∨b=92 then [92,b] else [b]
def qL (l:List UInt8):List UInt8:=l.flatMap qB
theorem Hy (t:List UInt8):∀ (l acc:List UInt8),(∀ b,b∈l→AQ b)→kO (qL l ++ 34 :: t) acc=(true,acc ++ l,(qL l).length + 1)
 | [],acc,_ =>by
   show kO (34 :: t) acc=_
   unfold kO
   simp [qL]
 |b :: l,acc,h=>by
  have hf:=h b (List.mem_cons_self ..)
  have ih:=Hy t l (acc ++ [b]) (fun x hx=>h x (List.mem_cons_of_mem _ hx))
  have e:qL (b :: l)=qB b ++ qL l:=rfl
  rw [e,List.append_assoc]
  unfold qB
  by_cases hb:b=34∨b=92
  ·rw [if_pos hb]
   show kO (92 :: b :: (qL l ++ 34 :: t)) acc=_
   unfold kO
   rw [if_neg bL,if_pos rfl]
   simp only
   rw [if_neg hf,ih]
   simp
  ·rw [if_neg hb]
   show kO (b :: (qL l ++ 34 :: t)) acc=_
   unfold kO
   rw [if_neg (fun h=>hb (.inl h)),if_neg (fun h=>hb (.inr h)),if_neg hf,ih]
   simp
def DK (l:List UInt8):Bool:=(fN iD 46 l).1 && (fN iD 46 l).2 == l.length
def qN (l:List UInt8):List UInt8:=if DK l=true then l else 34 :: (qL l ++ [34])
theorem Hz (l t:List UInt8) (h:∀ b,b∈l→AQ b) (ht:q8 kM t) (h2:cX 46 t=false):eY (qN l ++ t)=(true,au l,(qN l).length):=by
 unfold qN
 by_cases hp:DK l=true
 ·rw [if_pos hp]
  unfold DK at hp
  simp only [Bool.and_eq_true,beq_iff_eq] at hp
  have hn:cX 34 (l ++ t)=false:=by
   have h1:(fN iD 46 l).1=true:=hp.1
   rw [lK] at h1
   cases l with
   |nil=>simp [iD] at h1
   |cons b l=>
    have hb:kM b=true:=by
     by_cases hb:kM b=true
     ·exact hb
     ·exfalso
      have:(iD (b :: l)).1=false:=by
       unfold iD
       rw [List.takeWhile_cons_of_neg hb]
       rfl
      rw [this] at h1
      simp at h1
    have:=Hx b hb
    show (b == 34)=false
    simpa using this
  unfold eY
  rw [if_neg (by rw [hn];decide),Hv ht h2,hp.1,hp.2,List.take_left']
  rfl
 ·rw [if_neg hp]
  unfold eY
  rw [if_pos (show cX 34 (34 :: (qL l ++ [34]) ++ t)=true from rfl)]
  have e:((34:UInt8) :: (qL l ++ [34]) ++ t).drop 1=qL l ++ 34 :: t:=by simp
  rw [e,Hy t l [] h]
  simp
  omega
end Go.Proofs.YtokpnfljjjjikaaGreatDoor.jk
namespace Go.Proofs.YtokpnfljjjjikaaGreatDoor.jk
open Go.RowKit Go.Proofs.YtokpnfljjjjikaaGreatDoor Go.Proofs.YtokpnfljjjjikaaGreatDoor.n9 Go.Proofs.aj.bQ Go.Proofs.aj.cT
set_option linter.unusedVariables false
set_option linter.unusedSimpArgs false
def mz (d:List UInt8):Prop:=fN fC 46 d=(true,d.length)∧d.map fO=d
theorem Uv (l:List UInt8) (h:(pM l).1=true):mz (wJ l):=by
 refine ⟨?_,?_⟩
 ·have h1:=Yz l [] h (by intro b t' e;cases e) rfl
  rw [List.append_nil] at h1
  have h2:(fN fC 46 (wJ l)).1=true:=congrArg (·.1) h1
  have h3:(fN fC 46 (wJ l)).2=(wJ l).length:=congrArg (·.2.2) h1
  exact Prod.ext h2 h3
 ·unfold wJ
  rw [sU]
theorem mz.read {d:List UInt8} (h:mz d) {t:List UInt8} (ht:q8 nQ t) (h2:cX 46 t=false):pM (d ++ t)=(true,au d,d.length):=by
 unfold pM
 rw [zw ht h2,h.1]
 simp only
 rw [List.take_left',nY,h.2]
 rfl
theorem mz.head {d:List UInt8} (h:mz d):∃ b d',d=b :: d'∧nQ b=true:=by
 have h1:(fN fC 46 d).1=true:=by rw [h.1]
 rw [lK] at h1
 cases d with
 |nil=>simp [fC] at h1
 |cons b d'=>
  refine ⟨b,d',rfl,?_⟩
  by_cases hb:nQ b=true
  ·exact hb
  ·exfalso
   have:(fC (b :: d')).1=false:=by
    unfold fC
    rw [List.takeWhile_cons_of_neg hb]
   rw [this] at h1
   simp at h1
theorem Vq (b:UInt8):nQ b=true→(b == 91)=false:=fI (Q:=fun b=>nQ b=true→(b == 91)=false) gL b
structure yC (lo dom:List UInt8) (lit:Bool):Prop where
 los:∀ b,b∈lo→AQ b
 doms:lit=false→mz dom
 words:lit=true→QH (au dom)=true∧(∀ b,b∈dom→jE b=true)∧dom.map fO=dom
def iX (lo dom:List UInt8) (lit:Bool):List UInt8:=qN lo ++ (if lit=true then 64 :: 91 :: (dom ++ [93]) else 64 :: dom)
theorem Uw (t:List UInt8):q8 kM (64 :: t):=by
 intro b t' e
 cases e
 decide +kernel
theorem QT {P:UInt8→Bool} {t:List UInt8} (ht:q8 P t):∀ l:List UInt8,(∀ b,b∈l→P b=true)→(l ++ t).takeWhile P=l
 | [],_ =>by
   cases t with
   |nil=>rfl
   |cons b t=>rw [List.nil_append,List.takeWhile_cons_of_neg (by rw [ht b t rfl];decide)]
 |b :: l,h=>by rw [List.cons_append,List.takeWhile_cons_of_pos (h b (List.mem_cons_self ..)),QT ht l (fun x hx=>h x (List.mem_cons_of_mem _ hx))]
theorem drop_left (l t:List UInt8) (n:Nat):(l ++ t).drop (l.length + n)=t.drop n:=by
 rw [← List.drop_drop,List.drop_left]
theorem YB {lo dom:List UInt8} {lit:Bool} (h:yC lo dom lit) {t:List UInt8} (ht:q8 nQ t) (h2:cX 46 t=false):
 l8 (iX lo dom lit ++ t)=(true,au lo,au dom,lit,(iX lo dom lit).length):=by
 unfold iX
 cases lit with
 |true=>
  obtain ⟨hl,hw,hs⟩:=h.words rfl
  simp only [if_true]
  rw [List.append_assoc]
  have e0:((64:UInt8) :: 91 :: (dom ++ [93])) ++ t=64 :: 91 :: (dom ++ 93 :: t):=by simp
  rw [e0]
  have e1:=Hz lo (64 :: 91 :: (dom ++ 93 :: t)) h.los (Uw _) rfl
  unfold l8
  rw [e1]
  simp only
  rw [if_pos trivial,show ((qN lo ++ 64 :: 91 :: (dom ++ 93 :: t)).drop (qN lo).length)=64 :: 91 :: (dom ++ 93 :: t) from List.drop_left]
  rw [if_pos (show cX 64 (64 :: 91 :: (dom ++ 93 :: t))=true from rfl),drop_left _ _ 1]
  rw [if_pos (show cX 91 ((64 :: 91 :: (dom ++ 93 :: t)).drop 1)=true from rfl),drop_left _ _ 2]
  have e2:((64:UInt8) :: 91 :: (dom ++ 93 :: t)).drop 2=dom ++ 93 :: t:=rfl
  rw [e2,QT (P:=jE) (t:=93 :: t) (by intro b t' e;cases e;rfl) dom hw,Nat.add_assoc,drop_left _ _ (2 + dom.length)]
  have e3:((64:UInt8) :: 91 :: (dom ++ 93 :: t)).drop (2 + dom.length)=93 :: t:=by
   rw [← List.drop_drop,e2,List.drop_left]
  rw [e3,if_pos (show cX 93 (93 :: t)=true from rfl),hl,nY,hs]
  simp
  omega
 |false=>
  have hd:=h.doms rfl
  obtain ⟨b,d',hb,hlb⟩:=hd.head
  simp only [Bool.false_eq_true,if_false]
  rw [List.append_assoc]
  have e1:=Hz lo ((64 :: dom) ++ t) h.los (by rw [List.cons_append];exact Uw _) rfl
  unfold l8
  rw [e1]
  simp only
  rw [if_pos trivial,show ((qN lo ++ ((64 :: dom) ++ t)).drop (qN lo).length)=(64 :: dom) ++ t from List.drop_left]
  rw [if_pos (show cX 64 ((64 :: dom) ++ t)=true from rfl),drop_left _ _ 1]
  have e2:(((64:UInt8) :: dom) ++ t).drop 1=dom ++ t:=rfl
  rw [e2,if_neg (by rw [hb];show ¬ (b == 91)=true;rw [Vq b hlb];decide),hd.read ht h2]
  simp
  omega
def gi:List (List UInt8)→List UInt8
 | []=>[]
 | [d]=>64 :: d
 |d :: ds=>64 :: (d ++ 44 :: gi ds)
theorem zz (c:UInt8) (h:nQ c=false) (t:List UInt8):q8 nQ (c :: t):=by
 intro b t' e
 cases e
 exact h
theorem HJ (t:List UInt8):∀ ds:List (List UInt8),ds≠ []→(∀ d,d∈ds→mz d)→iL (gi ds ++ 58 :: t)=(true,ds.map au,(gi ds).length)
 | [],h,_ =>absurd rfl h
 | [d],_,h=>by
   have hd:=h d (List.mem_cons_self ..)
   rw [tS]
   have e:jW (gi [d] ++ 58 :: t)=(true,au d,1 + d.length):=by
    unfold jW
    rw [if_pos (show cX 64 (gi [d] ++ 58 :: t)=true from rfl)]
    have e2:(gi [d] ++ 58 :: t).drop 1=d ++ 58 :: t:=rfl
    rw [e2,hd.read (zz 58 gL t) rfl]
   rw [e]
   have e3:(gi [d] ++ 58 :: t).drop (1 + d.length)=58 :: t:=by
    show ((64:UInt8) :: (d ++ 58 :: t)).drop (1 + d.length)=_
    rw [Nat.add_comm,List.drop_succ_cons,List.drop_left]
   simp only [if_true]
   rw [e3,if_neg (show ¬ cX 44 (58 :: t)=true by simp [cX])]
   simp [gi]
   omega
 |d :: d2 :: ds,_,h=>by
  have hd:=h d (List.mem_cons_self ..)
  have ih:=HJ t (d2 :: ds) bf (fun x hx=>h x (List.mem_cons_of_mem _ hx))
  have e0:gi (d :: d2 :: ds) ++ 58 :: t=64 :: (d ++ 44 :: (gi (d2 :: ds) ++ 58 :: t)):=by
   show (64 :: (d ++ 44 :: gi (d2 :: ds))) ++ 58 :: t=_
   simp
  rw [tS,e0]
  have e:jW (64 :: (d ++ 44 :: (gi (d2 :: ds) ++ 58 :: t)))=(true,au d,1 + d.length):=by
   unfold jW
   rw [if_pos (show cX 64 (64 :: (d ++ 44 :: (gi (d2 :: ds) ++ 58 :: t)))=true from rfl)]
   have e2:((64:UInt8) :: (d ++ 44 :: (gi (d2 :: ds) ++ 58 :: t))).drop 1=d ++ 44 :: (gi (d2 :: ds) ++ 58 :: t):=rfl
   rw [e2,hd.read (zz 44 gL _) rfl]
  rw [e]
  have e3:((64:UInt8) :: (d ++ 44 :: (gi (d2 :: ds) ++ 58 :: t))).drop (1 + d.length)=44 :: (gi (d2 :: ds) ++ 58 :: t):=by
   rw [Nat.add_comm,List.drop_succ_cons,List.drop_left]
  have e4:((64:UInt8) :: (d ++ 44 :: (gi (d2 :: ds) ++ 58 :: t))).drop (1 + d.length + 1)=gi (d2 :: ds) ++ 58 :: t:=by
   rw [← List.drop_drop,e3]
   rfl
  simp only [if_true]
  rw [e3,if_pos (show cX 44 (44 :: (gi (d2 :: ds) ++ 58 :: t))=true from rfl),e4,ih]
  simp [gi]
  omega
theorem YC (b:UInt8):fO b∈([112,111,115,116,109,97,115,116,101,114]:List UInt8)→kM b=true:=fI (Q:=fun b=>fO b∈([112,111,115,116,109,97,115,116,101,114]:List UInt8)→kM b=true) gL b
theorem Vr (l:List UInt8) (h:j3 l=true):(l8 l).1=false:=by
 unfold j3 at h
 simp only [Bool.and_eq_true,decide_eq_true_eq] at h
 obtain ⟨⟨h1,h2⟩,h3⟩:=h
 rw [nY,ByteArray.toList_eq] at h2
 have h2':(l.take 10).map fO= [112,111,115,116,109,97,115,116,101,114]:=by simpa [au] using h2
 have ha:∀ b,b∈l.take 10→kM b=true:=fun b hb=>YC b (by rw [← h2'];exact List.mem_map_of_mem hb)
 obtain ⟨c,t,hc⟩:∃ c t,l.drop 10=c :: t:=by
  cases hd:l.drop 10 with
  |nil=>rw [hd] at h3;cases h3
  |cons c t=>exact ⟨c,t,rfl⟩
 have apE:c=62:=by rw [hc] at h3;simpa [cX] using h3
 subst apE
 have e:l=l.take 10 ++ 62 :: t:=by rw [← hc,List.take_append_drop]
 have hlen:(l.take 10).length=10:=by rw [List.length_take];omega
 have hst:q8 kM (62 :: t):=by
  intro b t' e
  cases e
  decide +kernel
 have htw:l.takeWhile kM=l.take 10:=by
  conv=>lhs;rw [e]
  exact QT hst _ ha
 have hat:iD l=(true,10):=by
  unfold iD
  rw [htw,hlen]
  rfl
 have hli:fN iD 46 l=(true,10):=by
  rw [lK,hat]
  simp only [if_true]
  rw [hc,if_neg (show ¬ cX 46 (62 :: t)=true by simp [cX])]
 have hn:cX 34 l=false:=by
  cases hl:l with
  |nil=>rfl
  |cons b l'=>
   have hb:kM b=true:=ha b (by rw [hl];simp)
   show (b == 34)=false
   simpa using Hx b hb
 have hlo:eY l=(true,au (l.take 10),10):=by
  unfold eY
  rw [if_neg (by rw [hn];decide),hli]
 unfold l8
 rw [hlo]
 simp only [if_true]
 rw [hc,if_neg (show ¬ cX 64 (62 :: t)=true by simp [cX])]
theorem YD (l:List UInt8):j3 (64 :: l)=false:=by
 cases h:j3 (64 :: l) with
 |false=>rfl
 |true=>
  exfalso
  unfold j3 at h
  simp only [Bool.and_eq_true,decide_eq_true_eq] at h
  obtain ⟨⟨h1,h2⟩,h3⟩:=h
  rw [nY,ByteArray.toList_eq] at h2
  have h2':((64 :: l).take 10).map fO= [112,111,115,116,109,97,115,116,101,114]:=by simpa [au] using h2
  rw [List.take_succ_cons,List.map_cons] at h2'
  have:=(List.cons.inj h2').1
  revert this
  decide
def gB (ds:List (List UInt8)) (lo dom:List UInt8) (lit:Bool):List UInt8:=match ds with
 | []=>iX lo dom lit
 |_ =>gi ds ++ 58 :: iX lo dom lit
theorem Oy (ds:List (List UInt8)) (h:ds≠ []):∃ l,gi ds=64 :: l:=by
 match ds,h with
 | [d],_ =>exact ⟨_,rfl⟩
 |d :: d2 :: ds,_ =>exact ⟨_,rfl⟩
theorem QU {ds:List (List UInt8)} {lo dom:List UInt8} {lit:Bool} (hds:∀ d,d∈ds→mz d) (h:yC lo dom lit) (t:List UInt8):
 gq (gB ds lo dom lit ++ 62 :: t)=(true,ds.map au,au lo,au dom,lit,(gB ds lo dom lit).length):=by
 have hb:=YB h (t:=62 :: t) (zz 62 gL t) rfl
 cases ds with
 |nil=>
  show gq (iX lo dom lit ++ 62 :: t)=_
  unfold gq
  have ha:j3 (iX lo dom lit ++ 62 :: t)=false:=by
   cases ha:j3 (iX lo dom lit ++ 62 :: t) with
   |false=>rfl
   |true=>
    have:=Vr _ ha
    rw [hb] at this
    cases this
  have hn:cX 64 (iX lo dom lit ++ 62 :: t)=false:=by
   cases hn:cX 64 (iX lo dom lit ++ 62 :: t) with
   |false=>rfl
   |true=>
    exfalso
    have h1:(l8 (iX lo dom lit ++ 62 :: t)).1=true:=by rw [hb]
    generalize iX lo dom lit ++ 62 :: t=l at hn h1
    cases l with
    |nil=>cases hn
    |cons b l=>
     have apF:b=64:=by simpa [cX] using hn
     subst apF
     have hlo:(eY (64 :: l)).1=false:=by
      unfold eY
      rw [if_neg (show ¬ cX 34 (64 :: l)=true by simp [cX])]
      show (fN iD 46 (64 :: l)).1=false
      rw [lK]
      have:(iD (64 :: l)).1=false:=by
       unfold iD
       rw [List.takeWhile_cons_of_neg gL]
       rfl
      rw [this]
      rfl
     unfold l8 at h1
     rw [hlo] at h1
     simp at h1
  rw [if_neg (by rw [ha];decide),if_neg (by rw [hn];decide),hb]
  rfl
 |cons d ds=>
  show gq ((gi (d :: ds) ++ 58 :: iX lo dom lit) ++ 62 :: t)=_
  rw [List.append_assoc,List.cons_append]
  have hr:=HJ (iX lo dom lit ++ 62 :: t) (d :: ds) bf hds
  obtain ⟨l,hl⟩:=Oy (d :: ds) bf
  have hh:gi (d :: ds) ++ 58 :: (iX lo dom lit ++ 62 :: t)=64 :: (l ++ 58 :: (iX lo dom lit ++ 62 :: t)):=by rw [hl];rfl
  unfold gq
  rw [if_neg (by rw [hh,YD];decide),if_pos (by rw [hh];rfl),hr]
  simp only [if_true]
  rw [List.drop_left,if_pos (show cX 58 (58 :: (iX lo dom lit ++ 62 :: t))=true from rfl),drop_left _ _ 1]
  have e:((58:UInt8) :: (iX lo dom lit ++ 62 :: t)).drop 1=iX lo dom lit ++ 62 :: t:=rfl
  rw [e,hb]
  simp [gB]
  omega
end Go.Proofs.YtokpnfljjjjikaaGreatDoor.jk
namespace Go.Proofs.YtokpnfljjjjikaaGreatDoor.jk
open Go.RowKit Go.Proofs.YtokpnfljjjjikaaGreatDoor Go.Proofs.YtokpnfljjjjikaaGreatDoor.n9 Go.Proofs.aj.bQ Go.Proofs.aj.cT
set_option linter.unusedVariables false
set_option linter.unusedSimpArgs false
theorem Jw {g:ByteArray→Bool} {xs:List ByteArray} (hf:∀ y,y∈xs→gz.f y=some (g y)):∀ (k i:Nat),xs.length - i < k→i≤xs.length→xs.length < 4611686018427387904→
 ∃ r,aA.l0 k xs (xs.length:Int) (i:Int)=some r∧decide (r≥0)=(xs.drop i).any g
 | 0,_,h,_,_ =>absurd h (Nat.not_lt_zero _)
 |k + 1,i,h,hi,hl=>by
  unfold aA.l0
  by_cases hlt:i < xs.length
  ·rw [if_pos aq,if_pos aq,if_pos aq]
   have hrd:kG ByteArray.empty xs (i:Int)=xs[i]:=by simp [kG,hlt]
   have hd:xs.drop i=xs[i] :: xs.drop (i + 1):=List.drop_eq_getElem_cons hlt
   rw [hrd,hf xs[i] (List.getElem_mem hlt),hd,List.any_cons]
   simp only [Option.bind_some]
   cases hg:g xs[i] with
   |true=>exact ⟨_,if_pos rfl,bf⟩
   |false=>
    rw [if_neg bL,s9 i aq]
    obtain ⟨r,h1,h2⟩:=Jw hf k (i + 1) aq aq hl
    exact ⟨r,h1,by rw [h2];rfl⟩
  ·rw [if_neg aq,List.drop_of_length_le aq]
   exact ⟨_,rfl,rfl⟩
theorem aey {g:ByteArray→Bool} {xs:List ByteArray} (hf:∀ y,y∈xs→gz.f y=some (g y)) (k:Nat) (hk:xs.length < k) (hl:xs.length < 4611686018427387904):bE.f k xs=some (xs.any g):=by
 obtain ⟨r,h1,h2⟩:=Jw hf k 0 aq (Nat.zero_le _) hl
 unfold bE.f aA.f
 rw [show (0:Int)=((0:Nat):Int) from rfl,h1]
 simp only [Option.bind_some]
 rw [show decide (r≥((0:Nat):Int))=decide (r≥0) from rfl,h2,List.drop_zero]
def oC (l:List UInt8):Bool:=(pu 10 255 (au l)).isNone || decide (3 < l.length)
def uw (l:List UInt8):Int:=if l.length=0 then 0 else if (pieces 58 l).any (fun p=>jd (au p)) then -1 else ((pieces 58 l).length:Int)
def MC (l:List UInt8):Bool:=
 if (Lib.cut l [58,58]).2.2=true then (decide (0≤uw (Lib.cut l [58,58]).1) && (decide (0≤uw (Lib.cut l [58,58]).2.1) && decide (uw (Lib.cut l [58,58]).1 + uw (Lib.cut l [58,58]).2.1≤6)))
 else uw (Lib.cut l [58,58]).1 == 8
def Et (l:List UInt8):Bool:=decide ((pieces 46 l).length=4) && !((pieces 46 l).any oC)
def wu (l:List UInt8):Bool:=decide (5 < l.length) && ((l.take 5).map fO == [105,112,118,54,58])
def H6 (l:List UInt8):Bool:=if wu l=true then MC (l.drop 5) else Et l
theorem Jx (l:List UInt8) (hl:l.length < 4294967281):fy.f (au l)=some (uw l):=by
 unfold fy.f uw
 rw [if_pos (by exact hl)]
 congr 1
 rw [br]
 by_cases h0:l.length=0
 ·rw [if_pos h0,if_pos h0]
 ·rw [if_neg h0,if_neg h0]
  rw [List.any_map]
  rfl
theorem H7 (c:UInt8) (l:List UInt8):(pieces c l).length≤l.length + 1:=by
 rw [lO]
 have:=List.count_le_length (a:=c) (l:=l)
 omega
theorem Eu (l:List UInt8): -1≤uw l∧uw l≤l.length + 1:=by
 have h:=H7 58 l
 unfold uw
 split
 ·omega
 ·split
  ·omega
  ·omega
theorem abq (l:List UInt8):(Lib.cut l [58,58]).1.length≤l.length∧(Lib.cut l [58,58]).2.1.length≤l.length:=by
 unfold Lib.cut
 split
 ·refine ⟨?_,?_⟩
  ·rw [List.length_take];omega
  ·rw [List.length_drop];omega
 ·exact ⟨Nat.le_refl _,Nat.zero_le _⟩
theorem aez (l:List UInt8) (hl:l.length < 4294967281):qD.f (au l)=some (MC l):=by
 obtain ⟨h1,h2⟩:=abq l
 have g1:=Eu (Lib.cut l [58,58]).1
 have g2:=Eu (Lib.cut l [58,58]).2.1
 unfold qD.f strings_Cut.f
 rw [if_pos (by exact hl)]
 simp only [Option.bind_some]
 show ((fy.f (au (Lib.cut l [58,58]).1)).bind fun t151=>((fy.f (au (Lib.cut l [58,58]).2.1)).bind fun t152=>_))=some (MC l)
 rw [Jx _ aq,Jx _ aq]
 simp only [Option.bind_some]
 show (if (Lib.cut l [58,58]).2.2=true then _ else _)=_
 unfold MC
 by_cases hg:(Lib.cut l [58,58]).2.2=true
 ·rw [if_pos hg,if_pos hg]
  by_cases ha: 0≤uw (Lib.cut l [58,58]).1
  ·rw [if_pos aq,decide_eq_true ha,Bool.true_and]
   by_cases hb: 0≤uw (Lib.cut l [58,58]).2.1
   ·rw [if_pos aq,decide_eq_true hb,Bool.true_and]
    have e:wrap64 (uw (Lib.cut l [58,58]).1 + uw (Lib.cut l [58,58]).2.1)=uw (Lib.cut l [58,58]).1 + uw (Lib.cut l [58,58]).2.1:=by unfold wrap64;omega
    rw [e]
   ·rw [if_neg aq,decide_eq_false hb,Bool.false_and]
  ·rw [if_neg aq,decide_eq_false ha,Bool.false_and]
 ·rw [if_neg hg,if_neg hg]
theorem YE (l:List UInt8) (hl:l.length < 4294967281):gz.f (au l)=some (oC l):=by
 unfold gz.f oC
 rw [if_pos j6]
 rfl
theorem Ia (c:UInt8) (l x:List UInt8) (h:x∈pieces c l):x.length≤l.length:=qC c l x h
theorem yg (l:List UInt8) (hl:l.length < 4294967281) (k:Nat) (hk:l.length + 4 < k):bZ.f k (au l)=some (H6 l):=by
 obtain ⟨k,rfl⟩:∃ k',k=k' + 1:=⟨k - 1,aq⟩
 have acG:bZ.j0 (k + 1) (au l) false=some (Et l):=by
  rw [bZ.j0,if_neg bL,rI _ 46 zH]
  simp only [Option.bind_some]
  show (if (((pieces 46 l).map au).length:Int)=4 then _ else _)=_
  unfold Et
  have hp:=H7 46 l
  by_cases h4:(pieces 46 l).length=4
  ·rw [if_pos ld,decide_eq_true h4,Bool.true_and]
   have ha:=aey (g:=fun y=>oC y.data.toList) (xs:=(pieces 46 l).map au) (fun y hy=>by
    obtain ⟨p,hp,rfl⟩:=List.mem_map.mp hy
    have:=Ia 46 l p hp
    exact YE p aq) k ld ld
   show ((bE.f k ((pieces 46 l).map au)).bind _)=_
   rw [ha]
   simp only [Option.bind_some]
   rw [List.any_map]
   rfl
  ·rw [if_neg ld,decide_eq_false h4,Bool.false_and]
 unfold bZ.f H6
 rw [br]
 by_cases h5: 5 < l.length
 ·rw [if_pos aq,if_pos bL,if_pos aq]
  have e1:(au l).extract 0 5=au (l.take 5):=by
   have:=kS (au l) 0 5 aq
   exact this
  have hf:cE.f (au (l.take 5))=some (au ((l.take 5).map fO)):=by
   unfold cE.f
   rw [if_pos (by rw [br,List.length_take];omega),nY]
  rw [e1,hf]
  simp only [Option.bind_some]
  rw [show (au ((l.take 5).map fO)).toList=(l.take 5).map fO from ByteArray.toList_eq ..]
  have hi:wu l=((l.take 5).map fO == [105,112,118,54,58]):=by unfold wu;rw [decide_eq_true h5,Bool.true_and]
  rw [← hi]
  cases hs:wu l with
  |true=>
   rw [if_pos rfl,bZ.j0,if_pos rfl,if_pos j6]
   have e2:(au l).extract 5 (au l).size=au (l.drop 5):=by
    rw [kS (au l) 5 (au l).size j6,br]
    congr 1
    show (l.drop 5).take (l.length - 5)=l.drop 5
    exact List.take_of_length_le lq
   rw [e2,aez _ lq]
   rfl
  |false=>
   rw [if_neg bL]
   exact acG
 ·rw [if_neg aq,acG,if_neg (by unfold wu;rw [decide_eq_false h5];simp)]
theorem Gf (l:List UInt8) (hl:l.length < 4294967281):QH (au l)=H6 l:=by
 unfold QH
 rw [yg l hl _ j6]
 rfl
theorem aeA (b:UInt8):(fO b == 58)=(b == 58):=fI (Q:=fun b=>(fO b == 58)=(b == 58)) gL b
theorem abr (b:UInt8):((58:UInt8) == fO b)=((58:UInt8) == b):=fI (Q:=fun b=>((58:UInt8) == fO b)=((58:UInt8) == b)) gL b
theorem abt (b:UInt8):ue ((fO b).toNat:Int)=ue (b.toNat:Int):=fI (Q:=fun b=>ue ((fO b).toNat:Int)=ue (b.toNat:Int)) gL b
theorem yh {c:UInt8} (hc:∀ b,(fO b == c)=(b == c)):∀ l:List UInt8,pieces c (l.map fO)=(pieces c l).map (fun p=>p.map fO)
 | []=>rfl
 |b :: l=>by
  have ih:=yh hc l
  rw [List.map_cons]
  unfold pieces
  rw [hc b,ih]
  by_cases hb:(b == c)=true
  ·rw [if_pos hb,if_pos hb]
   rfl
  ·rw [if_neg hb,if_neg hb]
   cases pieces c l with
   |nil=>rfl
   |cons p ps=>rfl
theorem Ib (l:List UInt8):bytesOf (au l)=l.map fun b=>(b.toNat:Int):=rfl
theorem Oz (base most:Int):∀ (l:List UInt8) (n:Int),tX base most ((l.map fO).map fun b=>(b.toNat:Int)) n=tX base most (l.map fun b=>(b.toNat:Int)) n
 | [],_ =>rfl
 |b :: l,n=>by
  rw [List.map_cons,List.map_cons,List.map_cons]
  unfold tX
  rw [abt,Oz base most l]
theorem YF (base most:Int) (l:List UInt8):pu base most (au (l.map fO))=pu base most (au l):=by
 unfold pu
 rw [br,br,List.length_map,Ib,Ib,Oz]
theorem OA (l:List UInt8):uw (l.map fO)=uw l:=by
 unfold uw
 rw [List.length_map,yh aeA,List.any_map,List.length_map]
 have e:((fun p=>jd (au p)) ∘fun p=>List.map fO p)=fun p=>jd (au p):=by
  funext p
  show jd (au (p.map fO))=jd (au p)
  unfold jd
  rw [YF,br,br,List.length_map]
 rw [e]
theorem Jy:∀ l:List UInt8,Lib.index (l.map fO) [58,58]=Lib.index l [58,58]
 | []=>rfl
 |b :: l=>by
  rw [List.map_cons]
  unfold Lib.index
  rw [Jy l]
  have e:List.isPrefixOf [58,58] (fO b :: l.map fO)=List.isPrefixOf [58,58] (b :: l):=by
   cases l with
   |nil=>simp [List.isPrefixOf]
   |cons c l=>simp only [List.map_cons,List.isPrefixOf,abr]
  rw [e]
theorem abu (l:List UInt8):Lib.cut (l.map fO) [58,58]=((Lib.cut l [58,58]).1.map fO,(Lib.cut l [58,58]).2.1.map fO,(Lib.cut l [58,58]).2.2):=by
 unfold Lib.cut
 rw [Jy]
 split
 ·rw [List.map_take,List.map_drop]
 ·rfl
theorem YG (l:List UInt8):MC (l.map fO)=MC l:=by
 unfold MC
 rw [abu,OA,OA]
theorem Vs (l:List UInt8):Et (l.map fO)=Et l:=by
 unfold Et
 rw [yh QN,List.length_map,List.any_map]
 have e:(oC ∘fun p=>List.map fO p)=oC:=by
  funext p
  show oC (p.map fO)=oC p
  unfold oC
  rw [YF,List.length_map]
 rw [e]
theorem OB (l:List UInt8):H6 (l.map fO)=H6 l:=by
 have h:wu (l.map fO)=wu l:=by
  unfold wu
  rw [List.length_map,← List.map_take,sU]
 unfold H6
 rw [h,← List.map_drop,YG,Vs]
theorem yj (c:UInt8):∀ (l:List UInt8) (b:UInt8),b∈l→b=c∨∃ p,p∈pieces c l∧b∈p
 | [],_,h=>by cases h
 |d :: l,b,h=>by
  unfold pieces
  by_cases hd:(d == c)=true
  ·rw [if_pos hd]
   rcases List.mem_cons.mp h with rfl|h
   ·exact .inl (by simpa using hd)
   ·rcases yj c l b h with h1|⟨p,hp,hb⟩
    ·exact .inl h1
    ·exact .inr ⟨p,List.mem_cons_of_mem _ hp,hb⟩
  ·rw [if_neg hd]
   have ih:=yj c l b
   cases hq:pieces c l with
   |nil=>exact absurd hq (tP c l)
   |cons p ps=>
    rw [hq] at ih
    rcases List.mem_cons.mp h with rfl|h
    ·exact .inr ⟨_,List.mem_cons_self ..,List.mem_cons_self ..⟩
    ·rcases ih h with h1|⟨p',hp,hb⟩
     ·exact .inl h1
     ·rcases List.mem_cons.mp hp with rfl|hp
      ·exact .inr ⟨_,List.mem_cons_self ..,List.mem_cons_of_mem _ hb⟩
      ·exact .inr ⟨p',List.mem_cons_of_mem _ hp,hb⟩
theorem Ic (c:UInt8):∀ l:List UInt8,((pieces c l).map fun p=>p.length + 1).sum=l.length + 1
 | []=>rfl
 |d :: l=>by
  have ih:=Ic c l
  unfold pieces
  by_cases hd:(d == c)=true
  ·rw [if_pos hd,List.map_cons,List.sum_cons,ih,List.length_cons,List.length_nil]
   omega
  ·rw [if_neg hd]
   cases hq:pieces c l with
   |nil=>exact absurd hq (tP c l)
   |cons p ps=>
    rw [hq,List.map_cons,List.sum_cons] at ih
    simp only [List.map_cons,List.sum_cons,List.length_cons]
    omega
theorem YH (m:Nat):∀ L:List (List UInt8),(∀ p,p∈L→p.length≤m)→(L.map fun p=>p.length + 1).sum≤L.length * (m + 1)
 | [],_ =>Nat.zero_le _
 |p :: L,h=>by
  have ih:=YH m L (fun q hq=>h q (List.mem_cons_of_mem _ hq))
  have h1:=h p (List.mem_cons_self ..)
  rw [List.map_cons,List.sum_cons,List.length_cons,Nat.add_mul]
  omega
theorem Db (c:UInt8) (m:Nat) (l:List UInt8) (h:∀ p,p∈pieces c l→p.length≤m):l.length + 1≤(pieces c l).length * (m + 1):=by
 rw [← Ic c l]
 exact YH m _ h
theorem OC (base most:Int):∀ (l:List Int) (n r:Int),tX base most l n=some r→∀ c,c∈l→ue c < base
 | [],_,_,_ =>fun c h=>by cases h
 |d :: l,n,r,h=>by
  intro c hc
  unfold tX at h
  split at h
  ·cases h
  ·rename_i h1
   split at h
   ·cases h
   ·rcases List.mem_cons.mp hc with rfl|hc
    ·omega
    ·exact OC base most l _ r h c hc
theorem YI (base most:Int) (l:List UInt8) (h:(pu base most (au l)).isNone=false) (b:UInt8) (hb:b∈l):ue (b.toNat:Int) < base:=by
 unfold pu at h
 split at h
 ·cases h
 ·cases hr:tX base most (bytesOf (au l)) 0 with
  |none=>rw [hr] at h;cases h
  |some r=>exact OC base most _ 0 r hr _ (List.mem_map_of_mem hb)
theorem OD (b:UInt8):ue (b.toNat:Int) < 16→jE b=true:=fI (Q:=fun b=>ue (b.toNat:Int) < 16→jE b=true) gL b
theorem Ie (l:List UInt8) (h: 0≤uw l):(∀ b,b∈l→jE b=true)∧(l.length:Int)≤5 * uw l:=by
 unfold uw at h ⊢
 by_cases h0:l.length=0
 ·rw [if_pos h0]
  have:l= []:=List.eq_nil_of_length_eq_zero h0
  subst this
  exact ⟨fun b hb=>(by cases hb),bf⟩
 ·rw [if_neg h0] at h ⊢
  by_cases ha:((pieces 58 l).any fun p=>jd (au p))=true
  ·rw [if_pos ha] at h
   omega
  ·rw [if_neg ha]
   have hg:∀ p,p∈pieces 58 l→jd (au p)=false:=fun p hp=>by
    cases hb:jd (au p) with
    |false=>rfl
    |true=>exact absurd (List.any_eq_true.mpr ⟨p,hp,hb⟩) ha
   refine ⟨fun b hb=>?_,?_⟩
   ·rcases yj 58 l b hb with rfl|⟨p,hp,hb⟩
    ·decide
    ·have h1:=hg p hp
     unfold jd at h1
     rw [Bool.or_eq_false_iff] at h1
     exact OD b (YI 16 65535 p h1.1 b hb)
   ·have h2:=Db 58 4 l (fun p hp=>by
     have h1:=hg p hp
     unfold jd at h1
     rw [Bool.or_eq_false_iff,br] at h1
     have:=of_decide_eq_false h1.2
     omega)
    omega
theorem Ew:∀ l:List UInt8,0≤Lib.index l [58,58]→l=l.take (Lib.index l [58,58]).toNat ++ 58 :: 58 :: l.drop ((Lib.index l [58,58]).toNat + 2)
 | [],h=>by simp [Lib.index] at h
 |b :: l,h=>by
  unfold Lib.index at h ⊢
  by_cases hp:List.isPrefixOf [58,58] (b :: l)=true
  ·rw [if_pos hp]
   cases l with
   |nil=>simp [List.isPrefixOf] at hp
   |cons c l=>
    simp [List.isPrefixOf] at hp
    obtain ⟨rfl,rfl⟩:=hp
    rfl
  ·rw [if_neg hp] at h ⊢
   by_cases h1:(Lib.index l [58,58] == -1)=true
   ·rw [if_pos h1] at h
    omega
   ·rw [if_neg h1] at h ⊢
    have h2: 0≤Lib.index l [58,58]:=by
     have: ¬ Lib.index l [58,58]= -1:=by simpa using h1
     omega
    have ih:=Ew l h2
    obtain ⟨n,hn⟩:∃ n:Nat,Lib.index l [58,58]=n:=⟨_,(Int.toNat_of_nonneg h2).symm⟩
    rw [hn] at ih ⊢
    rw [show ((n:Int) + 1).toNat=n + 1 from by omega]
    rw [Int.toNat_natCast] at ih
    rw [List.take_succ_cons,List.cons_append,show n + 1 + 2=(n + 2) + 1 from by omega,List.drop_succ_cons,← ih]
theorem YJ (l:List UInt8) (h:MC l=true):(∀ b,b∈l→jE b=true)∧l.length≤100:=by
 unfold MC at h
 unfold Lib.cut at h
 by_cases hi: 0≤Lib.index l [58,58]
 ·simp only [if_pos hi,if_true,Bool.and_eq_true,decide_eq_true_eq] at h
  obtain ⟨h1,h2,h3⟩:=h
  obtain ⟨w1,n1⟩:=Ie _ h1
  obtain ⟨w2,n2⟩:=Ie _ h2
  have e:=Ew l hi
  have e2:(Lib.index l [58,58]).toNat + [58,58].length=(Lib.index l [58,58]).toNat + 2:=rfl
  rw [show ([58,58]:List UInt8).length=2 from rfl] at w2 n2 h3
  refine ⟨fun b hb=>?_,?_⟩
  ·rw [e] at hb
   rcases List.mem_append.mp hb with hb|hb
   ·exact w1 b hb
   ·rcases List.mem_cons.mp hb with rfl|hb
    ·decide
    ·rcases List.mem_cons.mp hb with rfl|hb
     ·decide
     ·exact w2 b hb
  ·rw [e,List.length_append,List.length_cons,List.length_cons]
   omega
 ·simp only [if_neg hi,Bool.false_eq_true,if_false,beq_iff_eq] at h
  obtain ⟨w1,n1⟩:=Ie l aq
  exact ⟨w1,aq⟩
theorem Vt (l:List UInt8) (h:Et l=true):(∀ b,b∈l→jE b=true)∧l.length≤100:=by
 unfold Et at h
 simp only [Bool.and_eq_true,decide_eq_true_eq,Bool.not_eq_true'] at h
 obtain ⟨h1,h2⟩:=h
 have hg:∀ p,p∈pieces 46 l→oC p=false:=fun p hp=>by
  cases hb:oC p with
  |false=>rfl
  |true=>rw [List.any_eq_true.mpr ⟨p,hp,hb⟩] at h2;cases h2
 refine ⟨fun b hb=>?_,?_⟩
 ·rcases yj 46 l b hb with rfl|⟨p,hp,hb⟩
  ·decide
  ·have h3:=hg p hp
   unfold oC at h3
   rw [Bool.or_eq_false_iff] at h3
   have:=YI 10 255 p h3.1 b hb
   exact OD b aq
 ·have h4:=Db 46 3 l (fun p hp=>by
   have h3:=hg p hp
   unfold oC at h3
   rw [Bool.or_eq_false_iff] at h3
   have:=of_decide_eq_false h3.2
   omega)
  rw [h1] at h4
  omega
theorem YK (b:UInt8):fO b∈([105,112,118,54,58]:List UInt8)→jE b=true:=fI (Q:=fun b=>fO b∈([105,112,118,54,58]:List UInt8)→jE b=true) gL b
theorem OE (l:List UInt8) (h:H6 l=true):(∀ b,b∈l→jE b=true)∧l.length≤255:=by
 unfold H6 at h
 by_cases hs:wu l=true
 ·rw [if_pos hs] at h
  obtain ⟨w,n⟩:=YJ _ h
  unfold wu at hs
  simp only [Bool.and_eq_true,beq_iff_eq] at hs
  refine ⟨fun b hb=>?_,by rw [List.length_drop] at n;omega⟩
  have e:l=l.take 5 ++ l.drop 5:=(List.take_append_drop 5 l).symm
  rw [e] at hb
  rcases List.mem_append.mp hb with hb|hb
  ·exact YK b (by rw [← hs.2];exact List.mem_map_of_mem hb)
  ·exact w b hb
 ·rw [if_neg hs] at h
  obtain ⟨w,n⟩:=Vt _ h
  exact ⟨w,aq⟩
theorem Vu (b:UInt8):jE (fO b)=jE b:=fI (Q:=fun b=>jE (fO b)=jE b) gL b
end Go.Proofs.YtokpnfljjjjikaaGreatDoor.jk
namespace Go.Proofs.YtokpnfljjjjikaaGreatDoor.jk
open Go.RowKit Go.Proofs.YtokpnfljjjjikaaGreatDoor Go.Proofs.YtokpnfljjjjikaaGreatDoor.n9 Go.Proofs.aj.bQ Go.Proofs.aj.cT
set_option linter.unusedVariables false
set_option linter.unusedSimpArgs false
theorem DL (a b:List UInt8):qL (a ++ b)=qL a ++ qL b:=List.flatMap_append
theorem YL (b:UInt8):(qL [b]).length≤2:=by
 show (qB b ++ []).length≤2
 unfold qB
 split<;>simp
theorem abv (b:UInt8) (h1: ¬ b=34) (h2: ¬ b=92):(qL [b]).length=1:=by
 show (qB b ++ []).length=1
 unfold qB
 rw [if_neg (fun h=>h.elim h1 h2)]
 rfl
theorem acH:∀ l:List UInt8,l.length≤(qL l).length
 | []=>Nat.le_refl _
 |b :: l=>by
  have ih:=acH l
  have e:qL (b :: l)=qB b ++ qL l:=rfl
  rw [e,List.length_append]
  unfold qB
  split<;>simp<;>omega
theorem yl:∀ (n:Nat) (l acc:List UInt8),l.length < n→(kO l acc).1=true→∃ x,(kO l acc).2.1=acc ++ x∧(qL x).length + 1≤(kO l acc).2.2
 | 0,_,_,h,_ =>absurd h (Nat.not_lt_zero _)
 |n + 1,l,acc,h,ho=>by
  cases l with
  |nil=>unfold kO at ho;cases ho
  |cons b l=>
   unfold kO at ho ⊢
   by_cases hq:b=34
   ·rw [if_pos hq] at ho ⊢
    exact ⟨[],bf,by simp [qL]⟩
   ·rw [if_neg hq] at ho ⊢
    by_cases hb:b=92
    ·rw [if_pos hb] at ho ⊢
     cases l with
     |nil=>cases ho
     |cons c l'=>
      by_cases hc:c < 32∨126 < c
      ·simp only [if_pos hc] at ho
       cases ho
      ·simp only [if_neg hc] at ho ⊢
       obtain ⟨x,h1,h2⟩:=yl n l' (acc ++ [c]) zI ho
       refine ⟨c :: x,by rw [h1];simp,?_⟩
       have e:qL (c :: x)=qL [c] ++ qL x:=DL [c] x
       rw [e,List.length_append]
       have:=YL c
       omega
    ·rw [if_neg hb] at ho ⊢
     by_cases hc:b < 32∨126 < b
     ·rw [if_pos hc] at ho
      cases ho
     ·rw [if_neg hc] at ho ⊢
      obtain ⟨x,h1,h2⟩:=yl n l (acc ++ [b]) zI ho
      refine ⟨b :: x,by rw [h1];simp,?_⟩
      have e:qL (b :: x)=qL [b] ++ qL x:=DL [b] x
      rw [e,List.length_append,abv b hq hb]
      show _≤_ + 1
      omega
theorem I5 (l:List UInt8) (h:(eY l).1=true):(qN (zy l)).length≤(eY l).2.2:=by
 unfold eY at h ⊢
 unfold zy
 by_cases hq:cX 34 l=true
 ·rw [if_pos hq] at h ⊢
  rw [if_pos hq]
  obtain ⟨x,h1,h2⟩:=yl _ (l.drop 1) [] (Nat.lt_succ_self _) h
  rw [List.nil_append] at h1
  rw [h1]
  have h3:=acH x
  unfold qN
  split
  ·show x.length≤1 + _
   omega
  ·show (34 :: (qL x ++ [34])).length≤1 + _
   rw [List.length_cons,List.length_append,List.length_cons,List.length_nil]
   omega
 ·rw [if_neg hq] at h ⊢
  rw [if_neg hq]
  have h1:=QM l h
  have hle:(fN iD 46 l).2≤l.length:=zo iD 46 zn _ l (Nat.lt_succ_self _)
  have hp:DK (l.take (fN iD 46 l).2)=true:=by
   unfold DK
   rw [h1,List.length_take,Nat.min_eq_left hle]
   simp
  unfold qN
  rw [if_pos hp,List.length_take]
  exact Nat.min_le_left _ _
theorem YM (l:List UInt8) (hl:l.length < 4294967281) (h:(l8 l).1=true):∃ (lo dom:List UInt8) (lit:Bool),yC lo dom lit∧(l8 l).2.1=au lo∧(l8 l).2.2.1=au dom∧(l8 l).2.2.2.1=lit∧(iX lo dom lit).length≤(l8 l).2.2.2.2∧dom≠ []∧(lit=true→dom.length≤255):=by
 have hlo:(eY l).1=true:=by
  unfold l8 at h
  by_cases h1:(eY l).1=true
  ·exact h1
  ·rw [if_neg h1] at h
   cases h
 have hs:=I5 l hlo
 unfold l8 at h ⊢
 rw [if_pos hlo] at h ⊢
 by_cases h2:cX 64 (l.drop (eY l).2.2)=true
 ·rw [if_pos h2] at h ⊢
  by_cases h3:cX 91 (l.drop ((eY l).2.2 + 1))=true
  ·rw [if_pos h3] at h ⊢
   generalize hw:(l.drop ((eY l).2.2 + 2)).takeWhile jE=w at h ⊢
   have Vv:w.length≤l.length:=by
    rw [← hw]
    refine Nat.le_trans (oz _ _) ?_
    rw [List.length_drop];omega
   by_cases h4:cX 93 (l.drop ((eY l).2.2 + 2 + w.length))=true
   ·rw [if_pos h4] at h ⊢
    simp only at h
    rw [Gf w aq] at h
    have hg:=OE _ h
    refine ⟨zy l,w.map fO,true,⟨Es l,fun e=>(by cases e),fun _ =>⟨?_,?_,sU w⟩⟩,Er l,nY w,rfl,?_,?_,fun _ =>by rw [List.length_map];exact hg.2⟩
    ·rw [Gf _ ld,OB]
     exact h
    ·intro b hb
     obtain ⟨c,hc,rfl⟩:=List.mem_map.mp hb
     rw [Vu]
     exact hg.1 c hc
    ·unfold iX
     rw [if_pos rfl,List.length_append]
     simp
     omega
    ·intro e
     have e2:w= []:=List.map_eq_nil_iff.mp e
     rw [e2] at h
     exact absurd h gL
   ·rw [if_neg h4] at h
    cases h
  ·rw [if_neg h3] at h ⊢
   have hd:=Uv _ h
   refine ⟨zy l,wJ (l.drop ((eY l).2.2 + 1)),false,⟨Es l,fun _ =>hd,fun e=>(by cases e)⟩,Er l,DJ _,rfl,?_,?_,fun e=>(by cases e)⟩
   ·unfold iX
    rw [if_neg bL,List.length_append,List.length_cons,zx]
    show _≤(eY l).2.2 + 1 + _
    omega
   ·obtain ⟨b,d',e,_⟩:=hd.head
    rw [e]
    simp
 ·rw [if_neg h2] at h
  cases h
theorem OG:∀ (n:Nat) (l:List UInt8),l.length < n→(iL l).1=true→∃ ds:List (List UInt8),ds≠ []∧(∀ d,d∈ds→mz d)∧(iL l).2.1=ds.map au∧(gi ds).length≤(iL l).2.2
 | 0,_,h,_ =>absurd h (Nat.not_lt_zero _)
 |n + 1,l,h,ho=>by
  rw [tS] at ho ⊢
  by_cases h1:(jW l).1=true
  ·rw [if_pos h1] at ho ⊢
   have h64:cX 64 l=true:=by
    unfold jW at h1
    by_cases h64:cX 64 l=true
    ·exact h64
    ·rw [if_neg h64] at h1
     cases h1
   have e:jW l=((pM (l.drop 1)).1,(pM (l.drop 1)).2.1,1 + (pM (l.drop 1)).2.2):=by
    unfold jW
    rw [if_pos h64]
   have hd1:(pM (l.drop 1)).1=true:=by rw [e] at h1;exact h1
   have hd:=Uv _ hd1
   by_cases h2:cX 44 (l.drop (jW l).2.2)=true
   ·have h3:=gG h2
    rw [if_pos h2] at ho ⊢
    obtain ⟨ds,h4,h5,h6,h7⟩:=OG n (l.drop ((jW l).2.2 + 1)) lq ho
    refine ⟨wJ (l.drop 1) :: ds,bf,fun d hd'=>?_,?_,?_⟩
    ·rcases List.mem_cons.mp hd' with rfl|hd'
     ·exact hd
     ·exact h5 d hd'
    ·show (jW l).2.1 :: _=_
     rw [h6,e,List.map_cons]
     show (pM (l.drop 1)).2.1 :: _=_
     rw [DJ]
    ·obtain ⟨d2,ds',rfl⟩:∃ d2 ds',ds=d2 :: ds':=by
      cases ds with
      |nil=>exact absurd rfl h4
      |cons d2 ds'=>exact ⟨d2,ds',rfl⟩
     show (64 :: (wJ (l.drop 1) ++ 44 :: gi (d2 :: ds'))).length≤(jW l).2.2 + 1 + _
     rw [List.length_cons,List.length_append,List.length_cons,zx,e]
     simp only
     rw [e] at h7
     simp only at h7
     omega
   ·rw [if_neg h2] at ho ⊢
    refine ⟨[wJ (l.drop 1)],bf,fun d hd'=>?_,?_,?_⟩
    ·rw [List.mem_singleton.mp hd']
     exact hd
    ·rw [e]
     show [(pM (l.drop 1)).2.1]= [au _]
     rw [DJ]
    ·show (64 :: wJ (l.drop 1)).length≤_
     rw [List.length_cons,zx,e]
     simp only
     omega
  ·rw [if_neg h1] at ho
   cases ho
theorem YN (l:List UInt8) (hl:l.length < 4294967281) (h0:j3 l=false) (h:(gq l).1=true):∃ (ds:List (List UInt8)) (lo dom:List UInt8) (lit:Bool),(∀ d,d∈ds→mz d)∧yC lo dom lit∧gq l=(true,ds.map au,au lo,au dom,lit,(gq l).2.2.2.2.2)∧(gB ds lo dom lit).length≤(gq l).2.2.2.2.2∧dom≠ []∧(lit=true→dom.length≤255):=by
 unfold gq at h ⊢
 rw [if_neg (by rw [h0];decide)] at h ⊢
 by_cases h1:cX 64 l=true
 ·rw [if_pos h1] at h ⊢
  by_cases h2:(iL l).1=true
  ·rw [if_pos h2] at h ⊢
   obtain ⟨ds,r1,r2,r3,r4⟩:=OG _ l (Nat.lt_succ_self _) h2
   by_cases h3:cX 58 (l.drop (iL l).2.2)=true
   ·rw [if_pos h3] at h ⊢
    obtain ⟨lo,dom,lit,b1,b2,b3,b4,b5,b6,b7⟩:=YM (l.drop ((iL l).2.2 + 1)) lq h
    refine ⟨ds,lo,dom,lit,r2,b1,?_,?_,b6,b7⟩
    ·rw [r3,b2,b3,b4]
     rw [show (l8 (l.drop ((iL l).2.2 + 1))).1=true from h]
    ·cases ds with
     |nil=>exact absurd rfl r1
     |cons d ds=>
      show (gi (d :: ds) ++ 58 :: iX lo dom lit).length≤(iL l).2.2 + 1 + _
      rw [List.length_append,List.length_cons]
      omega
   ·rw [if_neg h3] at h
    cases h
  ·rw [if_neg h2] at h
   cases h
 ·rw [if_neg h1] at h ⊢
  obtain ⟨lo,dom,lit,b1,b2,b3,b4,b5,b6,b7⟩:=YM l hl h
  refine ⟨[],lo,dom,lit,fun d hd=>(by cases hd),b1,?_,b5,b6,b7⟩
  rw [b2,b3,b4]
  rw [show (l8 l).1=true from h]
  rfl
end Go.Proofs.YtokpnfljjjjikaaGreatDoor.jk
namespace Go.Proofs.YtokpnfljjjjikaaGreatDoor.jk
open Go.RowKit Go.Proofs.YtokpnfljjjjikaaGreatDoor Go.Proofs.YtokpnfljjjjikaaGreatDoor.n9 Go.Proofs.aj.bQ Go.Proofs.aj.cT
abbrev Ux:=Bool×List ByteArray×ByteArray×ByteArray×Bool×Int×Int
def MD:Ux:=(false,[],⟨#[]⟩,⟨#[]⟩,false,0,150)
def ME:Ux:=(true,[],⟨#[]⟩,⟨#[]⟩,false,2,0)
theorem DM (s:ByteArray):rest s 0=s.data.toList:=rfl
theorem prefix_eq (s:ByteArray) (hs:s.size < 4611686018427387904):strings_HasPrefix.f s ⟨#[60,62]⟩=some (yB s.data.toList):=by
 have hlen:=dB s
 unfold strings_HasPrefix.f stringslite_HasPrefix.f
 have h2:((⟨#[60,62]⟩:ByteArray).size:Int)=2:=rfl
 rw [h2]
 by_cases h: 2≤s.size
 ·rw [if_pos aq,if_pos aq,if_pos aq]
  simp only [Option.bind_some]
  congr 1
  have e:s.extract 0 ((2:Int)).toNat=au (s.data.toList.take 2):=by
   have:=kS s 0 2 aq
   simpa [DM] using this
  rw [e,ByteArray.toList_eq,ByteArray.toList_eq]
  show (s.data.toList.take 2 == [60,62])=_
  unfold yB
  rcases hl:s.data.toList with _|⟨a,_|⟨b,l⟩⟩
  ·rw [hl] at hlen;simp at hlen;omega
  ·rw [hl] at hlen;simp at hlen;omega
  ·show ([a,b] == [60,62])=((a == 60) && (b == 62))
   simp [BEq.beq,List.beq]
 ·rw [if_neg aq]
  simp only [Option.bind_some]
  congr 1
  unfold yB
  rcases hl:s.data.toList with _|⟨a,_|⟨b,l⟩⟩
  ·rfl
  ·show false=((a == 60) && false)
   rw [Bool.and_false]
  ·rw [hl] at hlen;simp at hlen;omega
theorem QV (k:Nat) (hk: 0 < k) (s:ByteArray) (q:Int) (a:Bool) (b:List ByteArray) (c d:ByteArray) (e:Bool):bU.j0 k true s q a b c d e=some MD:=by
 obtain ⟨k,rfl⟩:∃ k',k=k' + 1:=⟨k - 1,aq⟩
 rw [bU.j0,if_pos rfl]
 rfl
theorem um (s:ByteArray) (hs:s.size < 4294967281) (k:Nat) (h:yB s.data.toList=true):bU.f k s=some ME:=by
 unfold bU.f
 rw [prefix_eq s aq]
 simp only [Option.bind_some]
 rw [if_pos h]
 rfl
theorem wK (s:ByteArray) (hs:s.size < 4294967281) (k:Nat) (hk:s.size + 6 < k) (h0:yB s.data.toList=false) (h:I4 s.data.toList=true):
 bU.f k s=bU.j0 k false s ((2 + (gq (s.data.toList.drop 1)).2.2.2.2.2:Nat):Int) false (gq (s.data.toList.drop 1)).2.1 (gq (s.data.toList.drop 1)).2.2.1 (gq (s.data.toList.drop 1)).2.2.2.1 (gq (s.data.toList.drop 1)).2.2.2.2.1:=by
 unfold I4 at h
 simp only [Bool.and_eq_true] at h
 obtain ⟨⟨h1,h2⟩,h3⟩:=h
 have hpos:=pO h1
 rw [dB] at hpos
 unfold bU.f
 rw [prefix_eq s aq]
 simp only [Option.bind_some]
 rw [if_neg (by rw [h0];decide)]
 rw [show (0:Int)=((0:Nat):Int) from rfl,ow s 0 60 60 rfl aq,DM,if_pos h1]
 simp only [Option.bind_some,Nat.zero_add]
 have hr1:rest s 1=s.data.toList.drop 1:=rfl
 rw [inner_eq s hs k 1 qb aq,hr1]
 simp only [Option.bind_some]
 rw [if_pos h1,if_pos h2,ow s _ 62 62 rfl aq]
 have hr2:rest s (1 + (gq (s.data.toList.drop 1)).2.2.2.2.2)=s.data.toList.drop (1 + (gq (s.data.toList.drop 1)).2.2.2.2.2):=rfl
 rw [hr2,h3]
 simp only [Option.bind_some,if_true,Bool.not_true]
 rw [show 1 + (gq (s.data.toList.drop 1)).2.2.2.2.2 + 1=2 + (gq (s.data.toList.drop 1)).2.2.2.2.2 from by omega]
theorem DN (s:ByteArray) (hs:s.size < 4294967281) (k:Nat) (hk:s.size + 6 < k) (h:∀ n,¬ Hu s.data.toList n):bU.f k s=some MD:=by
 have h0:yB s.data.toList=false:=by
  cases hn:yB s.data.toList with
  |false=>rfl
  |true=>exact absurd (.inl ⟨hn,rfl⟩) (h 2)
 have hs0: ¬ I4 s.data.toList=true:=fun hy=>h _ (.inr ⟨h0,hy,rfl⟩)
 unfold bU.f
 rw [prefix_eq s aq]
 simp only [Option.bind_some]
 rw [if_neg (by rw [h0];decide)]
 rw [show (0:Int)=((0:Nat):Int) from rfl,ow s 0 60 60 rfl aq,DM]
 simp only [Option.bind_some]
 by_cases h1:cX 60 s.data.toList=true
 ·have hpos:=pO h1
  rw [dB] at hpos
  have hr1:rest s 1=s.data.toList.drop 1:=rfl
  rw [if_pos h1]
  simp only [Nat.zero_add]
  rw [inner_eq s hs k 1 qb aq,hr1]
  simp only [Option.bind_some]
  rw [if_pos h1]
  by_cases h2:(gq (s.data.toList.drop 1)).1=true
  ·rw [if_pos h2,ow s _ 62 62 rfl aq]
   simp only [Option.bind_some]
   have hr2:rest s (1 + (gq (s.data.toList.drop 1)).2.2.2.2.2)=s.data.toList.drop (1 + (gq (s.data.toList.drop 1)).2.2.2.2.2):=rfl
   have h3:cX 62 (rest s (1 + (gq (s.data.toList.drop 1)).2.2.2.2.2))=false:=by
    rw [hr2]
    cases h3:cX 62 (s.data.toList.drop (1 + (gq (s.data.toList.drop 1)).2.2.2.2.2)) with
    |false=>rfl
    |true=>exact absurd (by unfold I4;rw [h1,h2,h3];rfl) hs0
   rw [h3]
   exact QV k aq _ _ _ _ _ _ _
  ·rw [if_neg h2]
   exact QV k aq _ _ _ _ _ _ _
 ·rw [if_neg h1]
  rw [inner_eq s hs k 0 qb aq]
  simp only [Option.bind_some]
  rw [if_neg h1]
  exact QV k aq _ _ _ _ _ _ _
theorem QW (s:ByteArray) (hs:s.size < 4294967281) (k:Nat) (hk: 2 * s.size + 10 < k):∃ r,bU.f k s=some r:=by
 by_cases h:∃ n,Hu s.data.toList n
 ·obtain ⟨n,⟨h,_⟩|⟨h0,h,_⟩⟩:=h
  ·exact ⟨_,um s hs k h⟩
  ·rw [wK s hs k aq h0 h]
   obtain ⟨h1,h2,h3⟩:=zu (s.data.toList.drop 1)
   rw [List.length_drop,dB] at h1 h2 h3
   exact Vl k s _ false _ _ _ _ s.size (fun y hy=>Nat.le_trans (h2 y hy) aq) aq aq aq
 ·exact ⟨_,DN s hs k aq (fun n hn=>h ⟨n,hn⟩)⟩
theorem OH (b:List ByteArray) (c d c2 d2:ByteArray) (a e a2 e2:Bool):∀ (k i:Nat),b.length - i < k→i≤b.length→b.length < 4611686018427387904→bH.l0 k (b.length:Int) (i:Int) a b c d e a2 b c2 d2 e2=some true
 | 0,_,h,_,_ =>absurd h (Nat.not_lt_zero _)
 |k + 1,i,h,hi,hl=>by
  unfold bH.l0
  by_cases hlt:i < b.length
  ·rw [if_pos aq,if_pos aq,if_pos aq,if_pos aq,if_pos rfl,s9 i aq]
   exact OH b c d c2 d2 a e a2 e2 k (i + 1) aq aq hl
  ·rw [if_neg aq]
theorem Vw (a:Bool) (b:List ByteArray) (c d:ByteArray) (e:Bool) (k:Nat) (hk:b.length + 2 < k) (hl:b.length < 4611686018427387904):bH.f k a b c d e a b c d e=some true:=by
 unfold bH.f
 obtain ⟨k,rfl⟩:∃ k',k=k' + 1:=⟨k - 1,aq⟩
 rw [if_neg bf,if_neg bf,bH.j0,if_neg bf]
 exact OH b c d c d a e a e k 0 aq (Nat.zero_le _) hl
theorem OI (s:ByteArray) (hs:s.size < 4294967281) (k:Nat) (hk:s.size + 6 < k) {a:Bool} {b:List ByteArray} {c d:ByteArray} {e:Bool} {q z:Int} (h:bU.f k s=some (a,b,c,d,e,q,z)):b.length≤s.size + 1:=by
 by_cases hn:∃ n,Hu s.data.toList n
 ·obtain ⟨n,⟨h1,_⟩|⟨h0,h1,_⟩⟩:=hn
  ·rw [um s hs k h1] at h
   simp only [ME,Option.some.injEq,Prod.mk.injEq] at h
   rw [← h.2.1]
   exact Nat.zero_le _
  ·rw [wK s hs k hk h0 h1] at h
   obtain ⟨h3,_,_⟩:=zu (s.data.toList.drop 1)
   rw [List.length_drop,dB] at h3
   obtain ⟨k,rfl⟩:∃ k',k=k' + 1:=⟨k - 1,aq⟩
   rw [bU.j0,if_neg bL] at h
   obtain ⟨w,_,h⟩:=Option.bind_eq_some_iff.mp h
   split at h
   ·split at h
    ·simp only [Option.some.injEq,Prod.mk.injEq] at h
     rw [← h.2.1]
     exact Nat.zero_le _
    ·obtain ⟨w2,_,h⟩:=Option.bind_eq_some_iff.mp h
     split at h
     ·simp only [Option.some.injEq,Prod.mk.injEq] at h
      rw [← h.2.1]
      exact Nat.zero_le _
     ·simp only [Option.some.injEq,Prod.mk.injEq] at h
      rw [← h.2.1]
      omega
   ·simp only [Option.some.injEq,Prod.mk.injEq] at h
    rw [← h.2.1]
    exact Nat.zero_le _
 ·rw [DN s hs k hk (fun n h=>hn ⟨n,h⟩)] at h
  simp only [MD,Option.some.injEq,Prod.mk.injEq] at h
  rw [← h.2.1]
  exact Nat.zero_le _
end Go.Proofs.YtokpnfljjjjikaaGreatDoor.jk
namespace Go.Proofs.YtokpnfljjjjikaaGreatDoor.jk
open Go.RowKit Go.Proofs.YtokpnfljjjjikaaGreatDoor Go.Proofs.YtokpnfljjjjikaaGreatDoor.n9 Go.Proofs.aj.bQ Go.Proofs.aj.cT
set_option linter.unusedVariables false
set_option linter.unusedSimpArgs false
def iW (x:ByteArray):Bool:=(eX.f (x.size + 3) x).getD false
theorem wL (x:ByteArray) (k:Nat) (hk:x.size + 2 < k):eX.f k x=some (iW x):=by
 obtain ⟨r,hr⟩:=Bq x (x.size + 3) aq
 have h1:iW x=r:=by unfold iW;rw [hr];rfl
 rw [h1]
 exact nA (fun k=>eX.mono x k) aq hr
theorem QX (x:ByteArray) (h:iW x=true):x.size≤255:=by
 have h1:=wL x (x.size + 3) aq
 rw [h] at h1
 unfold eX.f at h1
 split at h1
 ·omega
 ·cases h1
theorem Ex {g:ByteArray→Bool} {k0:Nat} {xs:List ByteArray} (hf:∀ y,y∈xs→∀ k,k0≤k→fZ.f k y=some (g y)):∀ (k i:Nat),xs.length - i + k0 < k→i≤xs.length→xs.length < 4611686018427387904→
 ∃ r,aG.l0 k xs (xs.length:Int) (i:Int)=some r∧decide (r≥0)=(xs.drop i).any g
 | 0,_,h,_,_ =>absurd h (Nat.not_lt_zero _)
 |k + 1,i,h,hi,hl=>by
  unfold aG.l0
  by_cases hlt:i < xs.length
  ·rw [if_pos aq,if_pos aq,if_pos aq]
   have hrd:kG ByteArray.empty xs (i:Int)=xs[i]:=by simp [kG,hlt]
   have hd:xs.drop i=xs[i] :: xs.drop (i + 1):=List.drop_eq_getElem_cons hlt
   rw [hrd,hf xs[i] (List.getElem_mem hlt) k aq,hd,List.any_cons]
   simp only [Option.bind_some]
   cases hg:g xs[i] with
   |true=>exact ⟨_,if_pos rfl,bf⟩
   |false=>
    rw [if_neg bL,s9 i aq]
    obtain ⟨r,h1,h2⟩:=Ex hf k (i + 1) aq aq hl
    exact ⟨r,h1,by rw [h2];rfl⟩
  ·rw [if_neg aq,List.drop_of_length_le aq]
   exact ⟨_,rfl,rfl⟩
theorem Ig {g:ByteArray→Bool} {k0:Nat} {xs:List ByteArray} (hf:∀ y,y∈xs→∀ k,k0≤k→fZ.f k y=some (g y)) (k:Nat) (hk:xs.length + k0 < k) (hl:xs.length < 4611686018427387904):bC.f k xs=some (xs.any g):=by
 obtain ⟨r,h1,h2⟩:=Ex hf k 0 aq (Nat.zero_le _) hl
 unfold bC.f aG.f
 rw [show (0:Int)=((0:Nat):Int) from rfl,h1]
 simp only [Option.bind_some]
 rw [show decide (r≥((0:Nat):Int))=decide (r≥0) from rfl,h2,List.drop_zero]
theorem Ey {g:ByteArray→Bool} {k0:Nat} {xs:List ByteArray} (hf:∀ y,y∈xs→∀ k,k0≤k→kR.f k y=some (g y)):∀ (k i:Nat),xs.length - i + k0 < k→i≤xs.length→xs.length < 4611686018427387904→
 ∃ r,bJ.l0 k xs (xs.length:Int) (i:Int)=some r∧decide (r≥0)=(xs.drop i).any g
 | 0,_,h,_,_ =>absurd h (Nat.not_lt_zero _)
 |k + 1,i,h,hi,hl=>by
  unfold bJ.l0
  by_cases hlt:i < xs.length
  ·rw [if_pos aq,if_pos aq,if_pos aq]
   have hrd:kG ByteArray.empty xs (i:Int)=xs[i]:=by simp [kG,hlt]
   have hd:xs.drop i=xs[i] :: xs.drop (i + 1):=List.drop_eq_getElem_cons hlt
   rw [hrd,hf xs[i] (List.getElem_mem hlt) k aq,hd,List.any_cons]
   simp only [Option.bind_some]
   cases hg:g xs[i] with
   |true=>exact ⟨_,if_pos rfl,bf⟩
   |false=>
    rw [if_neg bL,s9 i aq]
    obtain ⟨r,h1,h2⟩:=Ey hf k (i + 1) aq aq hl
    exact ⟨r,h1,by rw [h2];rfl⟩
  ·rw [if_neg aq,List.drop_of_length_le aq]
   exact ⟨_,rfl,rfl⟩
theorem OJ {g:ByteArray→Bool} {k0:Nat} {xs:List ByteArray} (hf:∀ y,y∈xs→∀ k,k0≤k→kR.f k y=some (g y)) (k:Nat) (hk:xs.length + k0 < k) (hl:xs.length < 4611686018427387904):b9.f k xs=some (xs.any g):=by
 obtain ⟨r,h1,h2⟩:=Ey hf k 0 aq (Nat.zero_le _) hl
 unfold b9.f bJ.f
 rw [show (0:Int)=((0:Nat):Int) from rfl,h1]
 simp only [Option.bind_some]
 rw [show decide (r≥((0:Nat):Int))=decide (r≥0) from rfl,h2,List.drop_zero]
structure Fits (ds:List (List UInt8)) (lo dom:List UInt8) (lit:Bool):Prop where
 los:lo.length≤64
 doms:lit=false→iW (au dom)=true
 many:ds.length≤20
 each:∀ d,d∈ds→iW (au d)=true
theorem tT (lo dom:List UInt8) (lit:Bool) (k:Nat) (hk:dom.length + 2 < k):eJ.f k (au lo) (au dom) lit=some (decide (lo.length≤64) && (lit || iW (au dom))):=by
 unfold eJ.f
 rw [br]
 by_cases h:lo.length≤64
 ·rw [if_pos aq,decide_eq_true h,Bool.true_and]
  cases lit with
  |true=>rfl
  |false=>
   rw [if_neg bL,wL _ k (by rw [br];exact hk)]
   rfl
 ·rw [if_neg aq,decide_eq_false h]
  rfl
theorem Jz (y:ByteArray) (k:Nat) (hk:y.size + 2 < k):fZ.f k y=some (!iW y):=by
 unfold fZ.f
 rw [wL y k hk]
 rfl
theorem ai1 (k:Nat) (s:ByteArray) (q:Int) (ds:List (List UInt8)) (lo dom:List UInt8) (lit:Bool) (M:Nat) (hM:∀ d,d∈ds→d.length≤M) (hd:dom.length≤M) (hk:ds.length + M + 5 < k) (hl:ds.length < 4611686018427387904):
 (Fits ds lo dom lit∧bU.j0 k false s q false (ds.map au) (au lo) (au dom) lit=some (false,ds.map au,au lo,au dom,lit,q,0))∨bU.j0 k false s q false (ds.map au) (au lo) (au dom) lit=some (false,[],⟨#[]⟩,⟨#[]⟩,false,0,3):=by
 obtain ⟨k,rfl⟩:∃ k',k=k' + 1:=⟨k - 1,aq⟩
 rw [bU.j0,if_neg bL,tT lo dom lit k aq]
 simp only [Option.bind_some]
 by_cases hw:(decide (lo.length≤64) && (lit || iW (au dom)))=true
 ·rw [if_pos hw,List.length_map]
  by_cases h20:ds.length≤20
  ·rw [if_neg aq]
   rw [Ig (g:=fun y=>!iW y) (k0:=M + 3) (fun y hy k hk=>by
    obtain ⟨d,hd',rfl⟩:=List.mem_map.mp hy
    have:=hM d hd'
    exact Jz _ k j6) k ld (by rw [List.length_map];exact hl)]
   simp only [Option.bind_some]
   by_cases ha:((ds.map au).any fun y=>!iW y)=true
   ·rw [if_pos ha]
    exact .inr rfl
   ·rw [if_neg ha]
    simp only [Bool.and_eq_true,decide_eq_true_eq,Bool.or_eq_true] at hw
    refine .inl ⟨⟨hw.1,fun e=>?_,h20,fun d hd'=>?_⟩,rfl⟩
    ·rcases hw.2 with h|h
     ·rw [e] at h;cases h
     ·exact h
    ·cases hs:iW (au d) with
     |true=>rfl
     |false=>exact absurd (List.any_eq_true.mpr ⟨au d,List.mem_map_of_mem hd',by rw [hs];rfl⟩) ha
  ·rw [if_pos aq]
   exact .inr rfl
 ·rw [if_neg hw]
  exact .inr rfl
theorem abw (k:Nat) (s:ByteArray) (q:Int) (ds:List (List UInt8)) (lo dom:List UInt8) (lit:Bool) (hf:Fits ds lo dom lit) (M:Nat) (hM:∀ d,d∈ds→d.length≤M) (hd:dom.length≤M) (hk:ds.length + M + 5 < k):
 bU.j0 k false s q false (ds.map au) (au lo) (au dom) lit=some (false,ds.map au,au lo,au dom,lit,q,0):=by
 have hl:=hf.many
 obtain ⟨k,rfl⟩:∃ k',k=k' + 1:=⟨k - 1,aq⟩
 rw [bU.j0,if_neg bL,tT lo dom lit k aq]
 simp only [Option.bind_some]
 have hw:(decide (lo.length≤64) && (lit || iW (au dom)))=true:=by
  rw [decide_eq_true hf.los,Bool.true_and]
  cases lit with
  |true=>rfl
  |false=>rw [hf.doms rfl];rfl
 rw [if_pos hw,List.length_map,if_neg aq]
 rw [Ig (g:=fun y=>!iW y) (k0:=M + 3) (fun y hy k hk=>by
  obtain ⟨d,hd',rfl⟩:=List.mem_map.mp hy
  have:=hM d hd'
  exact Jz _ k j6) k ld ld]
 simp only [Option.bind_some]
 rw [if_neg]
 intro ha
 obtain ⟨y,hy,h1⟩:=List.any_eq_true.mp ha
 obtain ⟨d,hd',rfl⟩:=List.mem_map.mp hy
 rw [hf.each d hd'] at h1
 cases h1
theorem Az (l:List UInt8):rest (au l) 0=l:=rfl
theorem Vx (d:List UInt8) (h:mz d) (hs:iW (au d)=true) (hl:d.length < 4294967281) (k:Nat) (hk:d.length + 3 < k):fu.f k (au d)=some true:=by
 unfold fu.f
 have h1:=domain_eq (au d) j6 k 0 (by rw [Az];omega) (Nat.zero_le _)
 rw [Az] at h1
 have h2:=h.read (t:=[]) (by intro b t' e;cases e) rfl
 rw [List.append_nil] at h2
 rw [h2] at h1
 rw [show (0:Int)=((0:Nat):Int) from rfl,h1]
 simp only [Option.bind_some]
 rw [if_pos trivial,if_pos j6,wL _ k j6,hs]
 rfl
theorem Uy (d:List UInt8) (h:d.map fO=d) (hl:d.length < 4294967281):cE.f (au d)=some (au d):=by
 unfold cE.f
 rw [if_pos j6,nY,h]
theorem toList_mk (l:List UInt8):(au l).toList=l:=ByteArray.toList_eq ..
theorem Uz (d:List UInt8) (h:mz d) (hs:iW (au d)=true) (hl:d.length < 4294967281) (k:Nat) (hk:d.length + 3 < k):kL.f k (au d)=some true:=by
 unfold kL.f
 rw [Vx d h hs hl k hk]
 simp only [Option.bind_some]
 rw [if_pos trivial,Uy d h.2 hl]
 simp
theorem abx (l:List UInt8) (i:Nat) (hi:i < l.length) (h:∀ b,b∈l→AQ b): ¬ bt (au l) (i:Int) < 32∧¬ bt (au l) (i:Int) > 126:=by
 have e:=Us l i hi
 have hf:AQ (l.getD i 0):=h _ (by
  rw [List.getD_eq_getElem?_getD,List.getElem?_eq_getElem hi]
  exact List.getElem_mem hi)
 rw [e]
 refine ⟨fun h1=>hf (.inl (QG.mp h1)),fun h1=>hf (.inr (Hl.mp h1))⟩
theorem JA {ds:List (List UInt8)} {lo dom:List UInt8} {lit:Bool} (h:yC lo dom lit) (hf:Fits ds lo dom lit) (hl:dom.length < 4294967281):∀ (k i:Nat),lo.length - i + dom.length + 6 < k→i≤lo.length→
 dV.l0 k (lo.length:Int) (i:Int) (au lo) (au dom) lit=some true
 | 0,_,h,_ =>absurd h (Nat.not_lt_zero _)
 |k + 1,i,hk,hi=>by
  have h64:=hf.los
  unfold dV.l0
  by_cases hlt:i < lo.length
  ·obtain ⟨b1,b2⟩:=abx lo i hlt h.los
   rw [if_pos aq,if_pos aq,if_pos j6,if_neg b1,if_neg b2,s9 i aq]
   exact JA h hf hl k (i + 1) aq aq
  ·rw [if_neg aq]
   cases lit with
   |true=>
    obtain ⟨w1,w2,w3⟩:=h.words rfl
    rw [if_pos rfl,tT lo dom true k aq,decide_eq_true h64]
    simp only [Option.bind_some,Bool.true_or,Bool.true_and,if_true]
    rw [yg dom hl k aq,← Gf dom hl,w1]
    simp only [Option.bind_some,if_true]
    rw [Uy dom w3 hl]
    simp
   |false=>
    rw [if_neg bL,tT lo dom false k aq,decide_eq_true h64,hf.doms rfl]
    simp only [Option.bind_some,Bool.or_true,Bool.true_and,if_true,Bool.false_or]
    rw [Uz dom (h.doms rfl) (hf.doms rfl) hl k aq]
    rfl
theorem OL {ds:List (List UInt8)} {lo dom:List UInt8} {lit:Bool} (h:yC lo dom lit) (hf:Fits ds lo dom lit) (hl:dom.length < 4294967281) (k:Nat) (hk:dom.length + 80 < k):dV.f k (au lo) (au dom) lit=some true:=by
 have h64:=hf.los
 unfold dV.f
 rw [br]
 exact JA h hf hl k 0 aq (Nat.zero_le _)
theorem Ih {ds:List (List UInt8)} {lo dom:List UInt8} {lit:Bool} (hds:∀ d,d∈ds→mz d) (h:yC lo dom lit) (hf:Fits ds lo dom lit) (hne:dom≠ []) (M:Nat) (hM:∀ d,d∈ds→d.length≤M) (hd:dom.length≤M) (hl:M < 4294967281) (k:Nat) (hk:M + 110 < k):
 fM.f k false (ds.map au) (au lo) (au dom) lit=some true:=by
 have h20:=hf.many
 unfold fM.f
 rw [if_neg bL,toList_mk,toList_mk]
 rw [if_neg (by
  simp only [Bool.and_eq_true,beq_iff_eq]
  rintro ⟨_,e,_⟩
  exact hne e)]
 rw [OL h hf aq k aq]
 simp only [Option.bind_some,if_true,List.length_map]
 rw [if_pos aq]
 rw [OJ (g:=fun _ =>false) (k0:=M + 4) (fun y hy k hk=>by
  obtain ⟨d,hd',rfl⟩:=List.mem_map.mp hy
  have:=hM d hd'
  unfold kR.f
  rw [Uz d (hds d hd') (hf.each d hd') aq k aq]
  rfl) k ld ld]
 simp
theorem iM (a b:List UInt8):au a ++ au b=au (a ++ b):=by
 apply ByteArray.ext
 rw [← Array.toList_inj]
 simp [au]
theorem Vy (l:List UInt8):Bp (au l)=au (qL l):=by
 have e:kZ (bytesOf (au l))=pN (qL l):=by
  rw [Ib]
  induction l with
  |nil=>rfl
  |cons b l ih=>
   have e1:qL (b :: l)=qB b ++ qL l:=rfl
   rw [e1,List.map_cons]
   show wo (b.toNat:Int) ++ kZ (l.map fun b=>(b.toNat:Int))=pN (qB b ++ qL l)
   rw [ih]
   unfold pN
   rw [List.map_append]
   congr 1
   exact fI (Q:=fun b=>wo (b.toNat:Int)=(qB b).map fun b=>(b.toNat:Int)) gL b
 unfold Bp
 rw [e,Oq]
theorem UA (lo dom:List UInt8) (lit:Bool) (l:List UInt8):Zh (au l) (au dom) lit=au (l ++ (if lit=true then 64 :: 91 :: (dom ++ [93]) else 64 :: dom)):=by
 unfold Zh
 cases lit with
 |true=>
  rw [if_pos rfl,if_pos rfl]
  show ((au l ++ au [64,91]) ++ au dom) ++ au [93]=_
  rw [iM,iM,iM]
  simp
 |false=>
  rw [if_neg bL,if_neg bL]
  show (au l ++ au [64]) ++ au dom=_
  rw [iM,iM]
  simp
theorem OM {ds:List (List UInt8)} {lo dom:List UInt8} {lit:Bool} (h:yC lo dom lit) (hf:Fits ds lo dom lit) (hl:dom.length < 4294967281) (k:Nat) (hk:dom.length + 80 < k):iH.f k (au lo) (au dom) lit=some (au (iX lo dom lit),0):=by
 have h64:=hf.los
 unfold iH.f
 rw [OL h hf hl k hk]
 simp only [Option.bind_some,if_true]
 unfold aH.f
 have h1:=DG (au lo) j6 k 0 (by rw [Az];omega) (Nat.zero_le _)
 rw [Az] at h1
 rw [show (0:Int)=((0:Nat):Int) from rfl,h1]
 simp only [Option.bind_some]
 rw [if_pos ⟨j6,j6⟩]
 congr 2
 unfold iX qN DK
 by_cases hp:((fN iD 46 lo).1 && (fN iD 46 lo).2 == lo.length)=true
 ·rw [if_pos hp,if_pos (by
   simp only [Bool.and_eq_true,beq_iff_eq] at hp
   exact ⟨hp.1,by rw [br,hp.2];simp⟩),UA lo]
 ·rw [if_neg hp,if_neg (by
   intro h2
   apply hp
   simp only [Bool.and_eq_true,beq_iff_eq]
   refine ⟨h2.1,?_⟩
   have:=h2.2
   rw [br] at this
   omega)]
  have e:E9 (au lo)=au (34 :: (qL lo ++ [34])):=by
   unfold E9
   rw [Vy]
   show (au [34] ++ au (qL lo)) ++ au [34]=_
   rw [iM,iM]
   simp
  rw [e,UA lo]
theorem Ii:∀ (d:List UInt8) (ds:List (List UInt8)),64 :: Lib.join (d :: ds) [44,64]=gi (d :: ds)
 |d,[]=>by simp [Lib.join,gi,List.intercalate]
 |d,d2 :: ds=>by
  have ih:=Ii d2 ds
  have e:Lib.join (d :: d2 :: ds) [44,64]=d ++ 44 :: 64 :: Lib.join (d2 :: ds) [44,64]:=by
   unfold Lib.join
   simp [List.intercalate,List.intersperse]
  rw [e,ih]
  rfl
theorem YO (d:List UInt8) (ds:List (List UInt8)):(⟨#[64]⟩:ByteArray) ++ joinL ((d :: ds).map au) ⟨#[44,64]⟩=au (gi (d :: ds)):=by
 have e:joinL ((d :: ds).map au) ⟨#[44,64]⟩=au (Lib.join (d :: ds) [44,64]):=by
  unfold joinL
  rw [List.map_map]
  have:((fun x:ByteArray=>x.data.toList) ∘au)=id:=by
   funext l
   simp [au]
  rw [this,List.map_id]
  rfl
 rw [e]
 show au [64] ++ _=_
 rw [iM]
 exact congrArg au (Ii d ds)
theorem OO {ds:List (List UInt8)} {lo dom:List UInt8} {lit:Bool} (hds:∀ d,d∈ds→mz d) (h:yC lo dom lit) (hf:Fits ds lo dom lit) (hne:dom≠ []) (M:Nat) (hM:∀ d,d∈ds→d.length≤M) (hd:dom.length≤M) (hl:M < 4294967281) (hw:(gB ds lo dom lit).length < 4294967281) (k:Nat) (hk:M + 110 < k):
 kf.f k false (ds.map au) (au lo) (au dom) lit=some (au (60 :: (gB ds lo dom lit ++ [62])),0):=by
 unfold kf.f
 rw [Ih hds h hf hne M hM hd hl k hk]
 simp only [Option.bind_some,if_true]
 rw [if_neg bL,if_neg (by rw [toList_mk];exact hne),OM h hf aq k aq]
 simp only [Option.bind_some]
 cases ds with
 |nil=>
  have hw':(iX lo dom lit).length < 4294967281:=hw
  rw [if_neg bf,if_pos j6]
  have e:(⟨#[60]⟩:ByteArray) ++ au (iX lo dom lit)=au (60 :: iX lo dom lit):=iM [60] _
  rw [e,if_pos (by rw [br,List.length_cons];omega)]
  have e2:au (60 :: iX lo dom lit) ++ (⟨#[62]⟩:ByteArray)=au (60 :: (iX lo dom lit ++ [62])):=iM (60 :: iX lo dom lit) [62]
  rw [e2]
  rfl
 |cons d ds=>
  have hw':(gi (d :: ds) ++ 58 :: iX lo dom lit).length < 4294967281:=hw
  rw [List.length_append,List.length_cons] at hw'
  have e0:=YO d ds
  have es: 1 + (joinL ((d :: ds).map au) ⟨#[44,64]⟩).size=(gi (d :: ds)).length:=by
   have:=congrArg ByteArray.size e0
   rw [ByteArray.size_append,br] at this
   exact this
  rw [if_pos bf]
  unfold strings_Join.f
  have h20:=hf.many
  rw [if_pos ⟨bf,ld,aq⟩]
  simp only [Option.bind_some]
  rw [if_pos aq,e0,if_pos j6]
  have e1:au (gi (d :: ds)) ++ (⟨#[58]⟩:ByteArray)=au (gi (d :: ds) ++ [58]):=iM _ [58]
  rw [e1,if_pos (by rw [br,br,List.length_append];simp;omega),iM]
  have e2:gi (d :: ds) ++ [58] ++ iX lo dom lit=gB (d :: ds) lo dom lit:=by
   show _=gi (d :: ds) ++ 58 :: iX lo dom lit
   simp
  rw [e2,if_pos j6]
  have e3:(⟨#[60]⟩:ByteArray) ++ au (gB (d :: ds) lo dom lit)=au (60 :: gB (d :: ds) lo dom lit):=iM [60] _
  rw [e3,if_pos (by rw [br,List.length_cons];omega)]
  have e4:au (60 :: gB (d :: ds) lo dom lit) ++ (⟨#[62]⟩:ByteArray)=au (60 :: (gB (d :: ds) lo dom lit ++ [62])):=iM (60 :: gB (d :: ds) lo dom lit) [62]
  rw [e4]
theorem Ij {ds:List (List UInt8)} {lo dom:List UInt8} {lit:Bool} (hds:∀ d,d∈ds→mz d) (h:yC lo dom lit) (hf:Fits ds lo dom lit) (M:Nat) (hM:∀ d,d∈ds→d.length≤M) (hd:dom.length≤M) (hw:(gB ds lo dom lit).length < 4294960000) (hne:gB ds lo dom lit≠ []) (k:Nat) (hk:M + 110 < k) (hk2:(gB ds lo dom lit).length + 20 < k) (more:List UInt8) (ar7:more.length + (gB ds lo dom lit).length < 4294960000) (hk3:more.length + (gB ds lo dom lit).length + 20 < k):
 bU.f k (au (60 :: (gB ds lo dom lit ++ 62 :: more)))=some (false,ds.map au,au lo,au dom,lit,(((gB ds lo dom lit).length + 2:Nat):Int),0):=by
 have h20:=hf.many
 have hi:=QU hds h more
 have hdata:(au (60 :: (gB ds lo dom lit ++ 62 :: more))).data.toList=60 :: (gB ds lo dom lit ++ 62 :: more):=rfl
 have hsz:(au (60 :: (gB ds lo dom lit ++ 62 :: more))).size=(gB ds lo dom lit).length + more.length + 2:=by
  rw [br,List.length_cons,List.length_append,List.length_cons]
  omega
 have hd1:(60 :: (gB ds lo dom lit ++ 62 :: more)).drop 1=gB ds lo dom lit ++ 62 :: more:=rfl
 have ai2:yB (60 :: (gB ds lo dom lit ++ 62 :: more))=false:=by
  unfold yB
  rw [hd1]
  cases hp:gB ds lo dom lit with
  |nil=>exact absurd hp hne
  |cons b l=>
   cases hb:(b == 62) with
   |false=>
    show ((60:UInt8) == 60 && (b == 62))=false
    rw [hb]
    rfl
   |true=>
    exfalso
    have e:b=62:=by simpa using hb
    rw [hp,e] at hi
    have hx:(gq (62 :: (l ++ 62 :: more))).1=true:=by
     have:=congrArg (·.1) hi
     exact this
    revert hx
    have ha:j3 (62 :: (l ++ 62 :: more))=false:=by
     cases ha:j3 (62 :: (l ++ 62 :: more)) with
     |false=>rfl
     |true=>
      exfalso
      unfold j3 at ha
      simp only [Bool.and_eq_true,decide_eq_true_eq] at ha
      have h2:=ha.1.2
      rw [nY,toList_mk,List.take_succ_cons,List.map_cons] at h2
      have h3:fO 62=112:=(List.cons.inj (by simpa using h2:_=([112,111,115,116,109,97,115,116,101,114]:List UInt8))).1
      revert h3
      decide
    have hb1:(l8 (62 :: (l ++ 62 :: more))).1=false:=by
     have hlo:(eY (62 :: (l ++ 62 :: more))).1=false:=by
      unfold eY
      rw [if_neg (show ¬ cX 34 (62 :: (l ++ 62 :: more))=true by simp [cX])]
      show (fN iD 46 _).1=false
      rw [lK]
      have:(iD (62 :: (l ++ 62 :: more))).1=false:=by
       unfold iD
       rw [List.takeWhile_cons_of_neg gL]
       rfl
      rw [this]
      rfl
     unfold l8
     rw [if_neg (by rw [hlo];decide)]
    unfold gq
    rw [if_neg (by rw [ha];decide),if_neg (show ¬ cX 64 (62 :: (l ++ 62 :: more))=true by simp [cX])]
    simp only
    rw [hb1]
    decide
 have apG:I4 (60 :: (gB ds lo dom lit ++ 62 :: more))=true:=by
  unfold I4
  rw [hd1,hi]
  simp only
  have e:(60 :: (gB ds lo dom lit ++ 62 :: more)).drop (1 + (gB ds lo dom lit).length)=62 :: more:=by
   rw [Nat.add_comm,List.drop_succ_cons,List.drop_left]
  rw [e]
  rfl
 rw [wK _ aq k aq (by rw [hdata];exact ai2) (by rw [hdata];exact apG)]
 rw [hdata,hd1,hi]
 simp only
 rw [abw k _ _ ds lo dom lit hf M hM hd aq]
 rw [Nat.add_comm 2]
end Go.Proofs.YtokpnfljjjjikaaGreatDoor.jk
namespace Go.Proofs.YtokpnfljjjjikaaGreatDoor.jk
open Go.RowKit Go.Proofs.YtokpnfljjjjikaaGreatDoor Go.Proofs.YtokpnfljjjjikaaGreatDoor.n9 Go.Proofs.aj.bQ Go.Proofs.aj.cT
set_option linter.unusedVariables false
set_option linter.unusedSimpArgs false
def pZ (b:UInt8):UInt8:=UInt8.ofNat (BP 97 122 (-32) (b.toNat:Int)).toNat
theorem UB (f:UInt8→UInt8) (a b d:Int) (hf:∀ c:UInt8,UInt8.ofNat (BP a b d (c.toNat:Int)).toNat=f c) (l:List UInt8) (hl:l.length≤9223372036854775807):gV.f (au l) a b d=some (au (l.map f)):=by
 unfold gV.f
 rw [if_pos zH]
 unfold gV.g strOfNums
 rw [show bytesOf (au l)=l.map fun b=>(b.toNat:Int) from rfl,List.map_map,List.map_map]
 congr 1
 show au _=au _
 congr 1
 exact List.map_congr_left fun c _ =>hf c
theorem qO (l:List UInt8) (hl:l.length≤9223372036854775807):cB.f (au l)=some (au (l.map pZ)):=by
 unfold cB.f
 rw [UB pZ 97 122 (-32) (fun _ =>rfl) l hl]
 rfl
theorem YP (c:UInt8):UInt8.ofNat (BP 65 90 32 (c.toNat:Int)).toNat=fO c:=fI (Q:=fun c=>UInt8.ofNat (BP 65 90 32 (c.toNat:Int)).toNat=fO c) gL c
theorem JB (l:List UInt8) (hl:l.length≤9223372036854775807):ia.f (au l)=some (au (l.map fO)):=by
 unfold ia.f
 rw [UB fO 65 90 32 YP l hl]
 rfl
theorem ai3 (b:UInt8):pZ (pZ b)=pZ b:=fI (Q:=fun b=>pZ (pZ b)=pZ b) gL b
theorem ai4 (b:UInt8):pZ b=61→b=61:=fI (Q:=fun b=>pZ b=61→b=61) gL b
theorem acI (b:UInt8):pZ b=32→b=32:=fI (Q:=fun b=>pZ b=32→b=32) gL b
theorem JC (l:List UInt8):(l.map pZ).map pZ=l.map pZ:=by
 rw [List.map_map]
 exact List.map_congr_left fun b _ =>ai3 b
theorem YQ {c:UInt8} (hc:∀ b,pZ b=c→b=c) {l:List UInt8} (h:c ∉ l):c ∉ l.map pZ:=by
 intro hm
 obtain ⟨b,hb,e⟩:=List.mem_map.mp hm
 exact h (hc b e ▸ hb)
theorem UC (c:UInt8):Lib.cut [] [c]=([],[],false):=by simp [Lib.cut,Lib.index]
theorem UD (c:UInt8) (l:List UInt8):Lib.cut (c :: l) [c]=([],l,true):=by simp [Lib.cut,Lib.index,List.isPrefixOf]
theorem Ik (c b:UInt8) (l:List UInt8) (h:b≠c):Lib.cut (b :: l) [c]=(b :: (Lib.cut l [c]).1,(Lib.cut l [c]).2.1,(Lib.cut l [c]).2.2):=by
 have hb:(c == b)=false:=beq_eq_false_iff_ne.mpr (Ne.symm h)
 have hi:=Lib.index_ge l [c]
 have e1:Lib.index (b :: l) [c]=if Lib.index l [c] == -1 then -1 else Lib.index l [c] + 1:=by
  show (if ([c]:List UInt8).isPrefixOf (b :: l) then 0 else if Lib.index l [c] == -1 then -1 else Lib.index l [c] + 1)=_
  simp [List.isPrefixOf,hb]
 obtain ⟨i,hii⟩:∃ i,Lib.index l [c]=i:=⟨_,rfl⟩
 rw [hii] at hi e1
 by_cases hm:i= -1
 ·subst hm
  have e3:Lib.index (b :: l) [c]= -1:=e1
  unfold Lib.cut
  rw [e3,hii]
  simp
 ·obtain ⟨j,rfl⟩:∃ j:Nat,i=j:=⟨i.toNat,aq⟩
  have e3:Lib.index (b :: l) [c]=(j:Int) + 1:=by rw [e1,if_neg (by rw [beq_iff_eq];exact hm)]
  unfold Lib.cut
  rw [e3,hii,if_pos aq,if_pos aq,show ((j:Int) + 1).toNat=j + 1 by omega]
  simp
theorem uo (c:UInt8):∀ l:List UInt8,c ∉ (Lib.cut l [c]).1∧l=(Lib.cut l [c]).1 ++ (if (Lib.cut l [c]).2.2=true then c :: (Lib.cut l [c]).2.1 else [])
 | []=>by rw [UC];simp
 |b :: l=>by
  by_cases h:b=c
  ·subst h
   rw [UD]
   simp
  ·obtain ⟨h1,h2⟩:=uo c l
   rw [Ik c b l h]
   refine ⟨fun hm=>?_,?_⟩
   ·rcases List.mem_cons.mp hm with e|e
    ·exact h e.symm
    ·exact h1 e
   ·show b :: l=b :: ((Lib.cut l [c]).1 ++ _)
    rw [← h2]
theorem AA (c:UInt8) (r:List UInt8):∀ w:List UInt8,c ∉ w→Lib.cut (w ++ c :: r) [c]=(w,r,true)
 | [],_ =>UD c r
 |b :: w,h=>by
  have hb:b≠c:=fun e=>h (e ▸ List.mem_cons_self ..)
  rw [List.cons_append,Ik c b _ hb,AA c r w (fun hm=>h (List.mem_cons_of_mem _ hm))]
theorem tU (c:UInt8):∀ w:List UInt8,c ∉ w→Lib.cut w [c]=(w,[],false)
 | [],_ =>UC c
 |b :: w,h=>by
  have hb:b≠c:=fun e=>h (e ▸ List.mem_cons_self ..)
  rw [Ik c b _ hb,tU c w (fun hm=>h (List.mem_cons_of_mem _ hm))]
theorem DR (l:List UInt8) (c:UInt8) (hl:l.length < 4294967281):strings_Cut.f (au l) ⟨#[c]⟩=some (au (Lib.cut l [c]).1,au (Lib.cut l [c]).2.1,(Lib.cut l [c]).2.2):=by
 unfold strings_Cut.f
 rw [if_pos zH]
 rfl
def zA:List (List UInt8)→List UInt8
 | []=>[]
 |w :: ws=>32 :: (w ++ zA ws)
theorem Ez (w:List UInt8) (h:(32:UInt8) ∉ w) (r:List UInt8):∀ ps,pieces 32 r=ps→∃ p ps',pieces 32 r=p :: ps'∧pieces 32 (w ++ r)=(w ++ p) :: ps':=by
 intro ps hps
 obtain ⟨p,ps',hp⟩:∃ p ps',pieces 32 r=p :: ps':=by
  cases hq:pieces 32 r with
  |nil=>exact absurd hq (tP 32 r)
  |cons p ps'=>exact ⟨p,ps',rfl⟩
 refine ⟨p,ps',hp,?_⟩
 clear hps
 induction w with
 |nil=>exact hp
 |cons b w ih=>
  have hb:(b == 32)=false:=beq_eq_false_iff_ne.mpr fun e=>h (e ▸ List.mem_cons_self ..)
  have ih:=ih (fun hm=>h (List.mem_cons_of_mem _ hm))
  rw [List.cons_append]
  unfold pieces
  rw [hb,ih]
  rfl
theorem OP (ws:List (List UInt8)):∀ w,(32:UInt8) ∉ w→(∀ x,x∈ws→(32:UInt8) ∉ x)→pieces 32 (w ++ zA ws)=w :: ws:=by
 induction ws with
 |nil=>
  intro w h _
  obtain ⟨p,ps,h1,h2⟩:=Ez w h [] _ rfl
  have h3:pieces 32 []= [[]]:=rfl
  rw [h3] at h1
  injection h1 with h1 h4
  subst h1
  subst h4
  simpa [zA] using h2
 |cons x ws ih=>
  intro w h hx
  obtain ⟨p,ps,h1,h2⟩:=Ez w h (zA (x :: ws)) _ rfl
  have h3:pieces 32 (zA (x :: ws))= [] :: (x :: ws):=by
   show pieces 32 (32 :: (x ++ zA ws))=_
   rw [← ih x (hx x (List.mem_cons_self ..)) (fun y hy=>hx y (List.mem_cons_of_mem _ hy))]
   rfl
  rw [h3] at h1
  injection h1 with h1 h4
  subst h1
  subst h4
  simpa using h2
theorem Vz (ws:List (List UInt8)) (h:∀ x,x∈ws→(32:UInt8) ∉ x):pieces 32 (zA ws)= [] :: ws:=by
 have:=OP ws [] bf h
 simpa using this
theorem Il:∀ (l p:List UInt8) (ps:List (List UInt8)),pieces 32 l=p :: ps→l=p ++ zA ps∧(32:UInt8) ∉ p∧∀ x,x∈ps→(32:UInt8) ∉ x
 | [],p,ps,h=>by
   have h3:pieces 32 []= [[]]:=rfl
   rw [h3] at h
   injection h with h1 h4
   subst h1
   subst h4
   exact ⟨rfl,bf,fun x hx=>by cases hx⟩
 |b :: l,p,ps,h=>by
  obtain ⟨q,qs,hq⟩:∃ q qs,pieces 32 l=q :: qs:=by
   cases hq:pieces 32 l with
   |nil=>exact absurd hq (tP 32 l)
   |cons q qs=>exact ⟨q,qs,rfl⟩
  obtain ⟨h1,h2,h3⟩:=Il l q qs hq
  unfold pieces at h
  rw [hq] at h
  by_cases hb:b=32
  ·rw [if_pos (by rw [hb];rfl)] at h
   injection h with e1 e2
   subst e1
   subst e2
   refine ⟨?_,bf,fun x hx=>?_⟩
   ·rw [hb,h1]
    rfl
   ·rcases List.mem_cons.mp hx with rfl|hx
    ·exact h2
    ·exact h3 x hx
  ·rw [if_neg (by simpa using hb)] at h
   injection h with e1 e2
   subst e1
   subst e2
   refine ⟨by rw [h1];rfl,fun hm=>?_,h3⟩
   rcases List.mem_cons.mp hm with e|e
   ·exact hb e.symm
   ·exact h2 e
def iT (x:List UInt8):gI:=⟨au ((Lib.cut x [61]).1.map pZ),au (Lib.cut x [61]).2.1,(Lib.cut x [61]).2.2⟩
def jX (p:gI):List UInt8:=p.f0.data.toList ++ (if p.f2=true then 61 :: p.f1.data.toList else [])
theorem Im (x:List UInt8):jX (iT x)=(Lib.cut x [61]).1.map pZ ++ (if (Lib.cut x [61]).2.2=true then 61 :: (Lib.cut x [61]).2.1 else []):=rfl
theorem OQ (x:List UInt8):(jX (iT x)).length=x.length:=by
 rw [Im]
 have h:=congrArg List.length (uo 61 x).2
 rw [List.length_append] at h ⊢
 rw [List.length_map]
 exact h.symm
theorem OS (x:List UInt8):iT (jX (iT x))=iT x:=by
 have h1:=YQ ai4 (uo 61 x).1
 rw [Im]
 by_cases hb:(Lib.cut x [61]).2.2=true
 ·rw [if_pos hb]
  unfold iT
  rw [AA 61 _ _ h1]
  simp only
  rw [JC,hb]
 ·rw [if_neg hb,List.append_nil]
  have h2:(Lib.cut x [61]).2.1= []:=by
   unfold Lib.cut at hb ⊢
   split
   ·rename_i h;rw [if_pos h] at hb;exact absurd rfl hb
   ·rfl
  unfold iT
  rw [tU 61 _ h1,h2]
  simp only
  rw [JC,Bool.eq_false_iff.mpr hb]
theorem VA (x:List UInt8) (h:(32:UInt8) ∉ x):(32:UInt8) ∉ jX (iT x):=by
 have h1:=(uo 61 x).2
 rw [Im]
 have h2:(32:UInt8) ∉ (Lib.cut x [61]).1∧(32:UInt8) ∉ (if (Lib.cut x [61]).2.2=true then 61 :: (Lib.cut x [61]).2.1 else []):=by
  refine ⟨fun hm=>h ?_,fun hm=>h ?_⟩
  ·rw [h1];exact List.mem_append_left _ hm
  ·rw [h1];exact List.mem_append_right _ hm
 intro hm
 rcases List.mem_append.mp hm with hm|hm
 ·exact YQ acI h2.1 hm
 ·exact h2.2 hm
def pF (k:Nat) (p:gI):Prop:=bN.f k p.f0 p.f1 p.f2=some true
theorem VB (x:List UInt8):(Lib.cut x [61]).1.length≤x.length:=by
 have h:=congrArg List.length (uo 61 x).2
 rw [List.length_append] at h
 omega
theorem zB (k:Nat) (x:List UInt8) (hx:x.length < 4294967281) (xs:List ByteArray) (ps:List gI):
 bR.l k (au x :: xs) ps=(bN.f k (iT x).f0 (iT x).f1 (iT x).f2).bind fun b=>if b=true then bR.l k xs (ps ++ [iT x]) else some none:=by
 show ((strings_Cut.f (au x) ⟨#[61]⟩).bind fun t=>(cB.f t.1).bind fun g=>(bN.f k g t.2.1 t.2.2).bind fun b=>if b=true then bR.l k xs (ps ++ [⟨g,t.2.1,t.2.2⟩]) else some none)=_
 rw [DR x 61 hx]
 show ((cB.f (au (Lib.cut x [61]).1)).bind fun g=>_)=_
 rw [qO _ (by have:=VB x;omega)]
 rfl
theorem Io (k:Nat):∀ (xs:List (List UInt8)) (ps P:List gI),(∀ x,x∈xs→x.length < 4294967281)→bR.l k (xs.map au) ps=some (some P)→P=ps ++ xs.map iT∧∀ x,x∈xs→pF k (iT x)
 | [],ps,P,_,h=>by
   have h1:=Option.some.inj (Option.some.inj h)
   exact ⟨by rw [← h1];simp,fun x hx=>by cases hx⟩
 |x :: xs,ps,P,hx,h=>by
  rw [List.map_cons,zB k x (hx x (List.mem_cons_self ..))] at h
  obtain ⟨b,h1,h2⟩:=Option.bind_eq_some_iff.mp h
  cases b with
  |false=>
   rw [if_neg bL] at h2
   cases h2
  |true=>
   rw [if_pos rfl] at h2
   obtain ⟨h3,h4⟩:=Io k xs _ P (fun y hy=>hx y (List.mem_cons_of_mem _ hy)) h2
   refine ⟨by rw [h3];simp,fun y hy=>?_⟩
   rcases List.mem_cons.mp hy with rfl|hy
   ·exact h1
   ·exact h4 y hy
theorem Ip (k:Nat):∀ (xs:List (List UInt8)) (ps:List gI),(∀ x,x∈xs→x.length < 4294967281)→(∀ x,x∈xs→pF k (iT x))→bR.l k (xs.map au) ps=some (some (ps ++ xs.map iT))
 | [],ps,_,_ =>by simp [bR.l]
 |x :: xs,ps,hx,h=>by
  rw [List.map_cons,zB k x (hx x (List.mem_cons_self ..))]
  have h1:bN.f k (iT x).f0 (iT x).f1 (iT x).f2=some true:=h x (List.mem_cons_self ..)
  rw [h1]
  simp only [Option.bind_some,if_true]
  rw [Ip k xs _ (fun y hy=>hx y (List.mem_cons_of_mem _ hy)) (fun y hy=>h y (List.mem_cons_of_mem _ hy))]
  simp
theorem JD (ws vs:List (List UInt8)) (h:ws.map List.length=vs.map List.length):(zA ws).length=(zA vs).length:=by
 induction ws generalizing vs with
 |nil=>
  cases vs with
  |nil=>rfl
  |cons v vs=>simp at h
 |cons w ws ih=>
  cases vs with
  |nil=>simp at h
  |cons v vs=>
   simp only [List.map_cons,List.cons.injEq] at h
   have:=ih vs h.2
   show (32 :: (w ++ zA ws)).length=(32 :: (v ++ zA vs)).length
   simp only [List.length_cons,List.length_append]
   omega
def jf (P:List gI):List UInt8:=zA (P.map jX)
theorem DT (k:Nat) (l:List UInt8) (hl:l.length < 4294967281) (hne:l≠ []):bR.f k (au l)=(bR.l k (((pieces 32 l).map au).drop 1) []).bind fun o=>some (bR.e ((pieces 32 l).map au) o):=by
 unfold bR.f
 rw [if_neg (by rw [toList_mk];cases l with|nil=>exact absurd rfl hne|cons b l=>simp),rI (au l) 32 zH]
 rfl
theorem zC (k:Nat) (xs:List (List UInt8)) (VZ:∀ x,x∈xs→(32:UInt8) ∉ x) (hl:(zA xs).length < 4294967281) (h:∀ x,x∈xs→pF k (iT x)):bR.f k (au (zA xs))=some (xs.map iT,true):=by
 have hxl:∀ (ws:List (List UInt8)) (x:List UInt8),x∈ws→x.length < (zA ws).length:=by
  intro ws
  induction ws with
  |nil=>intro x hx;cases hx
  |cons w ws ih=>
   intro x hx
   show _ < (32 :: (w ++ zA ws)).length
   simp only [List.length_cons,List.length_append]
   rcases List.mem_cons.mp hx with rfl|hx
   ·omega
   ·have:=ih x hx
    omega
 cases xs with
 |nil=>
  unfold bR.f
  rw [if_pos (by rw [toList_mk];rfl)]
  rfl
 |cons x xs=>
  rw [DT k _ hl (by simp [zA]),Vz _ VZ]
  show ((bR.l k ((x :: xs).map au) []).bind fun o=>some (bR.e (au [] :: (x :: xs).map au) o))=_
  rw [Ip k (x :: xs) [] (fun y hy=>by have:=hxl _ y hy;omega) h]
  show some (bR.e (au [] :: (x :: xs).map au) (some ([] ++ (x :: xs).map iT)))=_
  unfold bR.e
  simp only [List.nil_append,List.getD_cons_zero]
  rw [toList_mk]
  rfl
theorem MF (k:Nat) (l:List UInt8) (hl:l.length < 4294967281) (P:List gI) (h:bR.f k (au l)=some (P,true)):
 (jf P).length=l.length∧bR.f k (au (jf P))=some (P,true)∧(∀ p,p∈P→pF k p)∧P.length≤l.length:=by
 by_cases hne:l= []
 ·subst hne
  unfold bR.f at h
  rw [if_pos (by rw [toList_mk];rfl)] at h
  simp only [Option.some.injEq,Prod.mk.injEq] at h
  obtain ⟨rfl,_⟩:=h
  refine ⟨rfl,?_,fun p hp=>(by cases hp),bf⟩
  unfold bR.f
  rw [if_pos (by rw [toList_mk];rfl)]
 ·rw [DT k l hl hne] at h
  obtain ⟨p,ps,hp⟩:∃ p ps,pieces 32 l=p :: ps:=by
   cases hq:pieces 32 l with
   |nil=>exact absurd hq (tP 32 l)
   |cons p ps=>exact ⟨p,ps,rfl⟩
  obtain ⟨e1,e2,e3⟩:=Il l p ps hp
  rw [hp] at h
  obtain ⟨o,h1,h2⟩:=Option.bind_eq_some_iff.mp h
  have h1':bR.l k (ps.map au) []=some o:=h1
  have hlen:∀ x,x∈ps→x.length < 4294967281:=fun x hx=>by
   have:=Ia 32 l x (by rw [hp];exact List.mem_cons_of_mem _ hx)
   omega
  cases o with
  |none=>
   have h3:=Option.some.inj h2
   unfold bR.e at h3
   simp at h3
  |some Q=>
   obtain ⟨h3,h4⟩:=Io k ps [] Q hlen h1'
   rw [List.nil_append] at h3
   subst h3
   have h5:=Option.some.inj h2
   unfold bR.e at h5
   simp only [Prod.mk.injEq] at h5
   obtain ⟨h6,h7⟩:=h5
   subst h6
   have hpe:p= []:=by
    rw [List.map_cons,List.getD_cons_zero,toList_mk] at h7
    simpa using h7
   subst hpe
   rw [List.nil_append] at e1
   have hw:jf (ps.map iT)=zA (ps.map fun x=>jX (iT x)):=by
    unfold jf
    rw [List.map_map]
    rfl
   have YR:(jf (ps.map iT)).length=l.length:=by
    rw [hw]
    rw [e1]
    apply JD
    rw [List.map_map]
    exact List.map_congr_left fun x _ =>OQ x
   refine ⟨YR,?_,fun q hq=>?_,?_⟩
   ·have hb:=zC k (ps.map fun x=>jX (iT x)) (fun y hy=>by
     obtain ⟨x,hx,rfl⟩:=List.mem_map.mp hy
     exact VA x (e3 x hx)) (by rw [← hw,YR];exact hl) (fun y hy=>by
     obtain ⟨x,hx,rfl⟩:=List.mem_map.mp hy
     show pF k (iT (jX (iT x)))
     rw [OS]
     exact h4 x hx)
    rw [hw,hb,List.map_map]
    congr 2
    exact List.map_congr_left fun x _ =>OS x
   ·obtain ⟨x,hx,rfl⟩:=List.mem_map.mp hq
    exact h4 x hx
   ·rw [List.length_map]
    have:=lO 32 l
    have h8:=List.count_le_length (a:=(32:UInt8)) (l:=l)
    rw [hp,List.length_cons] at this
    omega
end Go.Proofs.YtokpnfljjjjikaaGreatDoor.jk
namespace Go.Proofs.YtokpnfljjjjikaaGreatDoor.jk
open Go.RowKit Go.Proofs.YtokpnfljjjjikaaGreatDoor Go.Proofs.YtokpnfljjjjikaaGreatDoor.n9 Go.Proofs.aj.bQ Go.Proofs.aj.cT
set_option linter.unusedVariables false
set_option linter.unusedSimpArgs false
theorem Bw (k:Nat):fM.f k true [] ⟨#[]⟩ ⟨#[]⟩ false=some true:=by
 unfold fM.f
 rw [if_pos rfl,if_pos (by rfl)]
 decide +kernel
theorem Iq (k:Nat):kf.f k true [] ⟨#[]⟩ ⟨#[]⟩ false=some (au [60,62],0):=by
 unfold kf.f
 rw [Bw]
 rfl
theorem zD (k:Nat):fM.f k false [] lC ⟨#[]⟩ false=some true:=by
 unfold fM.f
 rw [if_neg bL,if_pos gL]
 rfl
def wz:List UInt8:=[60,112,111,115,116,109,97,115,116,101,114,62]
theorem EA (k:Nat):kf.f k false [] lC ⟨#[]⟩ false=some (au wz,0):=by
 unfold kf.f
 rw [zD]
 simp only [Option.bind_some,if_true]
 rw [if_neg bL,if_pos gL]
 rfl
theorem OT (k:Nat) (hk: 20 < k) (s:ByteArray) (q:Int):bU.j0 k false s q false [] lC ⟨#[]⟩ false=some (false,[],lC,⟨#[]⟩,false,q,0):=by
 obtain ⟨k,rfl⟩:∃ k',k=k' + 1:=⟨k - 1,aq⟩
 have hw:eJ.f k lC ⟨#[]⟩ false=some true:=by
  unfold eJ.f
  rw [if_pos gL,if_neg bL,wL ⟨#[]⟩ k (show 0 + 2 < k by omega),show iW ⟨#[]⟩=true from by decide +kernel]
  rfl
 rw [bU.j0,if_neg bL,hw]
 simp only [Option.bind_some,if_true]
 rw [if_neg bL,Ig (g:=fun _ =>false) (k0:=0) (fun y hy=>by cases hy) k qd bf]
 rfl
theorem QY (t:List UInt8):j3 (112 :: 111 :: 115 :: 116 :: 109 :: 97 :: 115 :: 116 :: 101 :: 114 :: 62 :: t)=true:=by
 have h1:(cE.g (au ([112,111,115,116,109,97,115,116,101,114]:List UInt8))).toList == ([112,111,115,116,109,97,115,116,101,114]:List UInt8):=by decide +kernel
 unfold j3
 have h2:(112 :: 111 :: 115 :: 116 :: 109 :: 97 :: 115 :: 116 :: 101 :: 114 :: 62 :: t).take 10=([112,111,115,116,109,97,115,116,101,114]:List UInt8):=rfl
 have h3:(112 :: 111 :: 115 :: 116 :: 109 :: 97 :: 115 :: 116 :: 101 :: 114 :: 62 :: t).drop 10=(62 :: t:List UInt8):=rfl
 rw [h2,h3,h1,decide_eq_true uy]
 rfl
theorem EB (t:List UInt8) (ht:t.length < 4294960000) (k:Nat) (hk:t.length + 40 < k):bU.f k (au (wz ++ t))=some (false,[],lC,⟨#[]⟩,false,12,0):=by
 have hd:(au (wz ++ t)).data.toList=60 :: 112 :: 111 :: 115 :: 116 :: 109 :: 97 :: 115 :: 116 :: 101 :: 114 :: 62 :: t:=rfl
 have h:gq (112 :: 111 :: 115 :: 116 :: 109 :: 97 :: 115 :: 116 :: 101 :: 114 :: 62 :: t)=(true,[],lC,⟨#[]⟩,false,10):=by
  unfold gq
  rw [if_pos (QY t)]
 have hd1:(60 :: 112 :: 111 :: 115 :: 116 :: 109 :: 97 :: 115 :: 116 :: 101 :: 114 :: 62 :: t:List UInt8).drop 1=112 :: 111 :: 115 :: 116 :: 109 :: 97 :: 115 :: 116 :: 101 :: 114 :: 62 :: t:=rfl
 have hsz:(au (wz ++ t)).size=t.length + 12:=by
  rw [br,List.length_append,Nat.add_comm]
  rfl
 rw [wK _ aq k aq (by rw [hd];rfl) (by
  rw [hd]
  unfold I4
  rw [hd1,h]
  rfl),hd,hd1,h]
 exact OT k aq _ _
theorem aeB (ds:List (List UInt8)) (d:List UInt8) (h:d∈ds):d.length≤(gi ds).length:=by
 induction ds with
 |nil=>cases h
 |cons e ds ih=>
  cases ds with
  |nil=>
   rw [List.mem_singleton.mp h]
   show _≤(64 :: e).length
   simp
  |cons e2 ds=>
   have e0:(gi (e :: e2 :: ds)).length=e.length + (gi (e2 :: ds)).length + 2:=by
    show (64 :: (e ++ 44 :: gi (e2 :: ds))).length=_
    rw [List.length_cons,List.length_append,List.length_cons]
    omega
   rcases List.mem_cons.mp h with rfl|h
   ·omega
   ·have:=ih h
    omega
theorem Dc (ds:List (List UInt8)) (lo dom:List UInt8) (lit:Bool):(∀ d,d∈ds→d.length≤(gB ds lo dom lit).length)∧dom.length + 1≤(gB ds lo dom lit).length:=by
 have hb:dom.length + 1≤(iX lo dom lit).length:=by
  unfold iX
  rw [List.length_append]
  cases lit with
  |true=>rw [if_pos rfl,List.length_cons,List.length_cons,List.length_append];omega
  |false=>rw [if_neg bL,List.length_cons];omega
 cases ds with
 |nil=>exact ⟨fun d hd=>(by cases hd),hb⟩
 |cons e ds=>
  have e0:(gB (e :: ds) lo dom lit).length=(gi (e :: ds)).length + (iX lo dom lit).length + 1:=by
   show (gi (e :: ds) ++ 58 :: iX lo dom lit).length=_
   rw [List.length_append,List.length_cons]
   omega
  refine ⟨fun d hd=>?_,aq⟩
  have:=aeB _ d hd
  omega
structure OU (a:Bool) (R:List ByteArray) (lo dom:ByteArray) (lit:Bool) (n:Nat) (t:List UInt8):Prop where
 le:t.length≤n
 rt:∀ k,3000000≤k→fM.f k a R lo dom lit=some true
 pr:∀ k,3000000≤k→kf.f k a R lo dom lit=some (au t,0)
 rd:∀ k,3000000≤k→∀ more:List UInt8,more.length≤100000→bU.f k (au (t ++ more))=some (a,R,lo,dom,lit,(t.length:Int),0)
 ne: 2≤t.length
theorem QZ (k:Nat) (hk: 3000000≤k) (s:ByteArray) (hs:s.size≤100000) (a:Bool) (R:List ByteArray) (lo dom:ByteArray) (lit:Bool) (q:Int) (h:bU.f k s=some (a,R,lo,dom,lit,q,0)):
 ∃ (n:Nat) (t:List UInt8),q=(n:Int)∧n≤s.size∧OU a R lo dom lit n t:=by
 have hlen:=dB s
 by_cases hn:∃ n,Hu s.data.toList n
 case neg=>
  rw [DN s aq k aq (fun n h=>hn ⟨n,h⟩)] at h
  simp only [MD,Option.some.injEq,Prod.mk.injEq] at h
  exact absurd h.2.2.2.2.2.2 bL
 obtain ⟨n,hn⟩:=hn
 have hb:=Vn hn
 rcases hn with ⟨h1,rfl⟩|⟨h0,h1,rfl⟩
 ·rw [um s aq k h1] at h
  simp only [ME,Option.some.injEq,Prod.mk.injEq] at h
  obtain ⟨rfl,rfl,rfl,rfl,rfl,rfl,_⟩:=h
  exact ⟨2,[60,62],rfl,aq,⟨bf,fun k hk=>Bw _,fun k hk=>Iq _,fun k hk more hm=>um _ (by rw [br];simp;omega) k (by rfl),bf⟩⟩
 ·rw [wK s aq k aq h0 h1] at h
  have hy:=h1
  unfold I4 at hy
  simp only [Bool.and_eq_true] at hy
  obtain ⟨⟨y1,y2⟩,y3⟩:=hy
  have hdl:(s.data.toList.drop 1).length < 4294967281:=by rw [List.length_drop];omega
  by_cases ha:j3 (s.data.toList.drop 1)=true
  ·have hi:gq (s.data.toList.drop 1)=(true,[],lC,⟨#[]⟩,false,10):=by
    unfold gq
    rw [if_pos ha]
   rw [hi] at h hb
   simp only at h hb
   rw [OT _ aq] at h
   simp only [Option.some.injEq,Prod.mk.injEq] at h
   obtain ⟨rfl,rfl,rfl,rfl,rfl,rfl,_⟩:=h
   exact ⟨12,wz,rfl,aq,⟨by simp [wz],fun k hk=>zD _,fun k hk=>EA _,fun k hk more hm=>EB more aq k aq,by simp [wz]⟩⟩
  ·obtain ⟨ds,lo2,Q0,Q3,d1,d2,d3,d4,d5,d6⟩:=YN _ hdl (Bool.eq_false_iff.mpr ha) y2
   obtain ⟨w1,w2⟩:=Dc ds lo2 Q0 Q3
   obtain ⟨m,hm⟩:∃ m,(gq (s.data.toList.drop 1)).2.2.2.2.2=m:=⟨_,rfl⟩
   rw [hm] at d3 d4 hb
   rw [d3] at h
   simp only at h
   have hds:ds.length≤1048600:=by
    have h1:=(zu (s.data.toList.drop 1)).1
    rw [d3] at h1
    simp only [List.length_map,List.length_drop] at h1
    omega
   rcases ai1 k s ((2 + m:Nat):Int) ds lo2 Q0 Q3 1048600 (fun d hd=>Nat.le_trans (w1 d hd) aq) aq aq aq with ⟨hf,hj⟩|hj
   ·have h:=hj.symm.trans h
    simp only [Option.some.injEq,Prod.mk.injEq] at h
    obtain ⟨rfl,rfl,rfl,rfl,rfl,rfl,_⟩:=h
    have hne:gB ds lo2 Q0 Q3≠ []:=by
     intro e
     rw [e] at w2
     simp at w2
    have hlt:(60 :: (gB ds lo2 Q0 Q3 ++ [62])).length=(gB ds lo2 Q0 Q3).length + 2:=by
     rw [List.length_cons,List.length_append]
     rfl
    refine ⟨2 + m,60 :: (gB ds lo2 Q0 Q3 ++ [62]),rfl,aq,⟨aq,fun k hk=>Ih d1 d2 hf d5 1048600 (fun d hd=>Nat.le_trans (w1 d hd) aq) aq aq _ aq,fun k hk=>OO d1 d2 hf d5 1048600 (fun d hd=>Nat.le_trans (w1 d hd) aq) aq aq aq _ aq,fun k hk more hm=>?_,aq⟩⟩
    have hpb:=Ij d1 d2 hf 1048600 (fun d hd=>Nat.le_trans (w1 d hd) aq) aq aq hne k aq aq more aq aq
    rw [hlt]
    rw [← hpb]
    congr 2
    simp
   ·have h:=hj.symm.trans h
    simp only [Option.some.injEq,Prod.mk.injEq] at h
    exact absurd h.2.2.2.2.2.2 bL
theorem lR (d:List UInt8) (hl:d.length < 4294967281) (k:Nat) (hk:d.length + 3 < k):fu.f k (au d)=some (decide (fN fC 46 d=(true,d.length)) && iW (au d)):=by
 unfold fu.f
 have h1:=domain_eq (au d) j6 k 0 (by rw [Az];omega) (Nat.zero_le _)
 rw [Az] at h1
 rw [show (0:Int)=((0:Nat):Int) from rfl,h1]
 simp only [Option.bind_some,Nat.zero_add]
 have e1:(pM d).1=(fN fC 46 d).1:=rfl
 have e2:(pM d).2.2=(fN fC 46 d).2:=rfl
 rw [e1,e2]
 by_cases h2:(fN fC 46 d).1=true
 ·rw [if_pos h2]
  by_cases h3:(fN fC 46 d).2=d.length
  ·rw [if_pos j6,wL _ k j6,decide_eq_true (Prod.ext h2 h3)]
   rfl
  ·rw [if_neg j6,decide_eq_false (fun e=>h3 (by rw [e]))]
   rfl
 ·rw [if_neg h2,decide_eq_false (fun e=>h2 (by rw [e]))]
  rfl
theorem VC (l:List UInt8) (hl:l.length < 4294967281):iW (au (l.map fO))=iW (au l):=by
 have h1:∀ k,eX.f k (au (l.map fO))=eX.f k (au l):=by
  intro k
  unfold eX.f
  rw [br,br,List.length_map,rI (au (l.map fO)) 46 (by rw [br,List.length_map];exact hl),rI (au l) 46 zH]
  have hp:pieces 46 (au (l.map fO)).data.toList=(pieces 46 l).map fun p=>p.map fO:=yh QN l
  have hp2:(au l).data.toList=l:=rfl
  rw [hp,hp2]
  have hrun:∀ (j:Nat) (xs ys:List ByteArray) (i:Int),xs.map ByteArray.size=ys.map ByteArray.size→aB.l0 j xs (xs.length:Int) i=aB.l0 j ys (ys.length:Int) i:=by
   intro j
   induction j with
   |zero=>intro xs ys i _;rfl
   |succ j ih=>
    intro xs ys i hxy
    have hlen:xs.length=ys.length:=by simpa using congrArg List.length hxy
    unfold aB.l0
    rw [hlen]
    have hrd:(kG ByteArray.empty xs i).size=(kG ByteArray.empty ys i).size:=by
     unfold kG
     have h2:xs[i.toNat]?.map ByteArray.size=ys[i.toNat]?.map ByteArray.size:=by rw [← List.getElem?_map,← List.getElem?_map,hxy]
     rw [List.getD_eq_getElem?_getD,List.getD_eq_getElem?_getD]
     cases hx:xs[i.toNat]? <;>cases hy:ys[i.toNat]? <;>rw [hx,hy] at h2<;>simp_all
    have h1:kr.f (kG ByteArray.empty xs i)=kr.f (kG ByteArray.empty ys i):=by
     unfold kr.f
     rw [hrd]
    rw [h1]
    have hih:=ih xs ys (wrap64 (i + 1)) hxy
    rw [hlen] at hih
    rw [hih]
  have hf:∀ j xs ys,xs.map ByteArray.size=ys.map ByteArray.size→bM.f j xs=bM.f j ys:=by
   intro j xs ys hxy
   unfold bM.f aB.f
   rw [hrun j xs ys 0 hxy]
  simp only [Option.bind_some]
  rw [hf k (((pieces 46 l).map fun p=>p.map fO).map au) ((pieces 46 l).map au) (by
   rw [List.map_map,List.map_map,List.map_map]
   exact List.map_congr_left fun p _ =>by
    show (au (p.map fO)).size=(au p).size
    rw [br,br,List.length_map])]
 unfold iW
 rw [br,br,List.length_map,h1]
theorem Bx (l:List UInt8) (hl:l.length < 4294967281) (k:Nat) (hk:l.length + 3 < k):fu.f k (au (l.map fO))=fu.f k (au l):=by
 rw [lR l hl k hk,lR _ (by rw [List.length_map];exact hl) k (by rw [List.length_map];exact hk),Bu _ l (Nat.lt_succ_self _),List.length_map,VC l hl]
theorem aeD (b:UInt8):(fO b).toNat=91↔b.toNat=91:=fI (Q:=fun b=>(fO b).toNat=91↔b.toNat=91) gL b
theorem aeE (b:UInt8):(fO b).toNat=93↔b.toNat=93:=fI (Q:=fun b=>(fO b).toNat=93↔b.toNat=93) gL b
theorem Q4 (l:List UInt8) (i:Nat) (hi:i < l.length):bt (au l) (i:Int)=((l.getD i 0).toNat:Int):=by
 have h:=(pY (s:=au l) (p:=i) (b:=l.getD i 0) (l:=l.drop (i + 1)) (by
  show l.drop i=_
  rw [List.drop_eq_getElem_cons hi,List.getD_eq_getElem?_getD,List.getElem?_eq_getElem hi]
  rfl)).2.1
 exact h
theorem extract_mk (l:List UInt8) (a b:Nat):(au l).extract a b=au ((l.drop a).take (b - a)):=by
 apply ByteArray.ext
 rw [ByteArray.data_extract]
 show l.toArray.extract a b=((l.drop a).take (b - a)).toArray
 simp
def JE (l:List UInt8):Bool:=decide (2 < l.length) && (decide ((l.getD 0 0).toNat=91) && (decide ((l.getD (l.length - 1) 0).toNat=93) && H6 ((l.drop 1).take (l.length - 2))))
theorem Ir (l:List UInt8) (hl:l.length < 4294967281) (k:Nat) (hk:l.length + 4 < k):gJ.f k (au l)=some (JE l):=by
 unfold gJ.f JE
 rw [br]
 by_cases h2: 2 < l.length
 ·have hw:wrap64 ((l.length:Int) - 1)=((l.length - 1:Nat):Int):=by unfold wrap64;omega
  rw [hw,if_pos aq,if_pos aq,decide_eq_true h2,Bool.true_and]
  have b0:=Q4 l 0 aq
  have b1:=Q4 l (l.length - 1) aq
  rw [show bt (au l) 0=((l.getD 0 0).toNat:Int) from b0,b1]
  by_cases h91:(l.getD 0 0).toNat=91
  ·rw [if_pos aq,if_pos aq,if_pos aq,decide_eq_true h91,Bool.true_and]
   by_cases h93:(l.getD (l.length - 1) 0).toNat=93
   ·rw [if_pos aq,if_pos aq,if_pos aq,decide_eq_true h93,Bool.true_and,extract_mk,show (((l.length - 1:Nat):Int)).toNat - 1=l.length - 2 by omega,yg _ (by rw [List.length_take,List.length_drop];omega) k (by rw [List.length_take,List.length_drop];omega)]
    rfl
   ·rw [if_neg aq,decide_eq_false h93]
    rfl
  ·rw [if_neg aq,decide_eq_false h91]
   rfl
 ·rw [if_neg aq,decide_eq_false h2]
  rfl
theorem VD (l:List UInt8):JE (l.map fO)=JE l:=by
 unfold JE
 rw [List.length_map,Hw,Hw]
 have e1:decide ((fO (l.getD 0 0)).toNat=91)=decide ((l.getD 0 0).toNat=91):=by rw [decide_eq_decide];exact aeD _
 have e2:decide ((fO (l.getD (l.length - 1) 0)).toNat=93)=decide ((l.getD (l.length - 1) 0).toNat=93):=by rw [decide_eq_decide];exact aeE _
 rw [e1,e2,← List.map_drop,← List.map_take,OB]
end Go.Proofs.YtokpnfljjjjikaaGreatDoor.jk
namespace Go.Proofs.YtokpnfljjjjikaaGreatDoor.jk
open Go.RowKit Go.Proofs.YtokpnfljjjjikaaGreatDoor Go.Proofs.YtokpnfljjjjikaaGreatDoor.n9 Go.Proofs.aj.bQ Go.Proofs.aj.cT
set_option linter.unusedVariables false
set_option linter.unusedSimpArgs false
theorem mk_data (s:ByteArray):au s.data.toList=s:=by
 obtain ⟨⟨l⟩⟩:=s
 rfl
theorem Iu {k k':Nat} (h:k≤k') {p:gI} (hp:pF k p):pF k' p:=nA (fun k=>bN.mono _ _ _ k) h hp
theorem EC (s v:ByteArray) (b:Bool) (hv:v.size < 4611686018427387904):∀ (k i:Nat),v.size - i < k→i≤v.size→∃ r,bN.l1 k (v.size:Int) (i:Int) s v b=some r
 | 0,i,h,_ =>absurd h (Nat.not_lt_zero _)
 |k + 1,i,h,hi=>by
  unfold bN.l1
  by_cases hlt:i < v.size
  ·have hw:wrap64 ((i:Int) + 1)=((i + 1:Nat):Int):=by unfold wrap64;omega
   rw [if_pos aq,if_pos aq,if_pos aq,hw]
   have ih:=EC s v b hv k (i + 1) aq aq
   repeat' split
   all_goals first|exact ⟨_,rfl⟩|exact ih
  ·rw [if_neg aq]
   split
   ·exact ⟨_,rfl⟩
   ·exact ⟨_,rfl⟩
theorem ED (s v:ByteArray) (b:Bool) (hs:s.size < 4611686018427387904) (hv:v.size < 4611686018427387904):∀ (k i:Nat),s.size - i + v.size + 2 < k→i≤s.size→∃ r,bN.l0 k (s.size:Int) (i:Int) s v b=some r
 | 0,i,h,_ =>absurd h (Nat.not_lt_zero _)
 |k + 1,i,h,hi=>by
  have h1:=EC s v b hv k 0 aq aq
  unfold bN.l0
  by_cases hlt:i < s.size
  ·have hw:wrap64 ((i:Int) + 1)=((i + 1:Nat):Int):=by unfold wrap64;omega
   rw [if_pos aq,if_pos aq,if_pos aq,hw]
   have ih:=ED s v b hs hv k (i + 1) aq aq
   repeat' split
   all_goals first|exact ⟨_,rfl⟩|exact ih
  ·rw [if_neg aq]
   exact h1
theorem Iw (s v:ByteArray) (b:Bool) (hs:s.size < 4611686018427387904) (hv:v.size < 4611686018427387904) (k:Nat) (hk:s.size + v.size + 2 < k):∃ r,bN.f k s v b=some r:=ED s v b hs hv k 0 aq (Nat.zero_le _)
theorem Bb (k:Nat):∀ (xs:List (List UInt8)) (ps:List gI),(∀ x,x∈xs→x.length < 100000)→300000≤k→∃ r,bR.l k (xs.map au) ps=some r
 | [],ps,_,_ =>⟨_,rfl⟩
 |x :: xs,ps,hx,hk=>by
  have hx0:=hx x (List.mem_cons_self ..)
  rw [List.map_cons,zB k x aq]
  have hc:=congrArg List.length (uo 61 x).2
  rw [List.length_append] at hc
  have h1:(iT x).f0.size≤x.length:=by
   show (au ((Lib.cut x [61]).1.map pZ)).size≤_
   rw [br,List.length_map]
   omega
  have h2:(iT x).f1.size≤x.length:=by
   show (au (Lib.cut x [61]).2.1).size≤_
   rw [br]
   unfold Lib.cut
   split
   ·simp
   ·simp
  obtain ⟨b,hb⟩:=Iw (iT x).f0 (iT x).f1 (iT x).f2 aq aq k aq
  rw [hb]
  simp only [Option.bind_some]
  cases b with
  |true=>exact Bb k xs _ (fun y hy=>hx y (List.mem_cons_of_mem _ hy)) hk
  |false=>exact ⟨_,rfl⟩
theorem OV (k:Nat) (l:List UInt8) (hl:l.length < 100000) (hk: 300000≤k):∃ r,bR.f k (au l)=some r:=by
 by_cases hne:l= []
 ·subst hne
  unfold bR.f
  rw [if_pos (by rw [toList_mk];rfl)]
  exact ⟨_,rfl⟩
 ·rw [DT k l aq hne,← List.map_drop]
  obtain ⟨r,hr⟩:=Bb k ((pieces 32 l).drop 1) [] (fun x hx=>by
   have:=Ia 32 l x (List.mem_of_mem_drop hx)
   omega) hk
  rw [hr]
  exact ⟨_,rfl⟩
theorem AB (P:List gI) (hP:P.length < 4611686018427387904):∀ (k i:Nat) (acc:List UInt8),P.length - i < k→i≤P.length→acc.length + (zA ((P.drop i).map jX)).length < 4611686018427387904→
 bV.l0 k (au acc) P (P.length:Int) (i:Int)=some (au (acc ++ zA ((P.drop i).map jX)))
 | 0,i,acc,h,_,_ =>absurd h (Nat.not_lt_zero _)
 |k + 1,i,acc,h,hi,hl=>by
  unfold bV.l0
  by_cases hlt:i < P.length
  ·have hw:wrap64 ((i:Int) + 1)=((i + 1:Nat):Int):=by unfold wrap64;omega
   have hd:P.drop i=P[i] :: P.drop (i + 1):=List.drop_eq_getElem_cons hlt
   have hr:cv P (i:Int)=P[i]:=by
    unfold cv
    rw [List.getD_eq_getElem?_getD,show ((i:Int)).toNat=i by omega,List.getElem?_eq_getElem hlt]
    rfl
   rw [hd] at hl ⊢
   rw [hr,hw]
   obtain ⟨q,hq⟩:∃ q,P[i]=q:=⟨_,rfl⟩
   rw [hq] at hl ⊢
   clear hr hd hq
   obtain ⟨f0,f1,f2⟩:=q
   have e0:(⟨#[32]⟩:ByteArray) ++ f0=au (32 :: f0.data.toList):=by
    rw [← mk_data f0]
    exact iM [32] f0.data.toList
   have e1:(⟨#[61]⟩:ByteArray) ++ f1=au (61 :: f1.data.toList):=by
    rw [← mk_data f1]
    exact iM [61] f1.data.toList
   have z0:=dB f0
   have z1:=dB f1
   have Vv:(zA ((⟨f0,f1,f2⟩ :: P.drop (i + 1)).map jX))=32 :: (jX ⟨f0,f1,f2⟩ ++ zA ((P.drop (i + 1)).map jX)):=rfl
   rw [Vv] at hl ⊢
   have hwo:jX ⟨f0,f1,f2⟩=f0.data.toList ++ (if f2=true then 61 :: f1.data.toList else []):=rfl
   rw [hwo] at hl ⊢
   simp only at *
   rw [if_pos aq,if_pos aq,if_pos aq]
   cases f2 with
   |true=>
    simp only [if_true,List.length_cons,List.length_append] at hl
    rw [e0,e1,iM,iM,br,br,br,br,if_pos aq,if_pos uy,if_pos rfl,if_pos aq,if_pos J7]
    rw [AB P hP k (i + 1) _ aq aq J7]
    simp
   |false=>
    simp only [Bool.false_eq_true,if_false,List.append_nil,List.length_cons,List.length_append] at hl
    rw [e0,iM,br,br,if_pos aq,if_pos uy,if_neg bL]
    rw [AB P hP k (i + 1) _ aq aq J7]
    simp
  ·have hd:P.drop i= []:=List.drop_of_length_le aq
   rw [if_neg aq,hd]
   simp [zA]
theorem OW (P:List gI) (hP:P.length < 100000) (k0:Nat) (h:∀ p,p∈P→pF k0 p):∀ (k i:Nat),P.length - i + k0 < k→i≤P.length→aX.l0 k P (P.length:Int) (i:Int)=some (-1)
 | 0,i,hk,_ =>absurd hk (Nat.not_lt_zero _)
 |k + 1,i,hk,hi=>by
  unfold aX.l0
  by_cases hlt:i < P.length
  ·have hw:wrap64 ((i:Int) + 1)=((i + 1:Nat):Int):=by unfold wrap64;omega
   have hr:cv P (i:Int)=P[i]:=by
    unfold cv
    rw [List.getD_eq_getElem?_getD,show ((i:Int)).toNat=i by omega,List.getElem?_eq_getElem hlt]
    rfl
   have hp:jz.f k P[i].f0 P[i].f1 P[i].f2=some false:=by
    unfold jz.f
    have h1:bN.f k P[i].f0 P[i].f1 P[i].f2=some true:=Iu (show k0≤k by omega) (h _ (List.getElem_mem hlt))
    rw [h1]
    rfl
   rw [if_pos aq,if_pos aq,if_pos aq,hr,hp,hw]
   simp only [Option.bind_some,Bool.false_eq_true,if_false]
   exact OW P hP k0 h k (i + 1) aq aq
  ·rw [if_neg aq]
theorem VE (P:List gI) (hP:P.length < 100000) (k0:Nat) (h:∀ p,p∈P→pF k0 p) (k:Nat) (hk:P.length + k0 < k):bK.f k P=some false:=by
 unfold bK.f aX.f
 have h1:=OW P hP k0 h k 0 aq (Nat.zero_le _)
 rw [show ((0:Nat):Int)=0 from rfl] at h1
 rw [h1]
 rfl
def iE (v:Int):List UInt8:=(kX.getD v.toNat ⟨#[]⟩).data.toList
def pP (v:Int):Prop:=v=1∨v=2∨v=3∨v=4∨v=5∨v=6∨v=7∨v=8∨v=9∨v=10∨v=11
theorem nZ {v:Int} (hv:pP v):(iE v).map pZ=iE v∧cF.f (au (iE v))=some v∧(32:UInt8) ∉ iE v∧(iE v).length≤4∧gH.f v=some (au (iE v))∧iE v≠ []:=by
 rcases hv with rfl|rfl|rfl|rfl|rfl|rfl|rfl|rfl|rfl|rfl|rfl<;>decide +kernel
theorem uq {v:Int} (hv:pP v) (r:List UInt8) (k:Nat) (hl:(iE v).length + 1 + r.length≤510):ak.f k (au (iE v ++ 32 :: r))=ak.v k v (au r) true:=by
 obtain ⟨h1,h2,h3,h4,_⟩:=nZ hv
 unfold ak.f
 rw [br,if_neg (by rw [List.length_append,List.length_cons];omega),DR _ 32 (by rw [List.length_append,List.length_cons];omega),AA 32 r _ h3]
 show ((cB.f (au (iE v))).bind fun g=>(cF.f g).bind fun v2=>ak.v k v2 (au r) true)=_
 rw [qO _ aq,h1]
 show ((cF.f (au (iE v))).bind fun v2=>ak.v k v2 (au r) true)=_
 rw [h2]
 rfl
theorem Q5 {v:Int} (hv:pP v) (k:Nat):ak.f k (au (iE v))=ak.v k v ⟨#[]⟩ false:=by
 obtain ⟨h1,h2,h3,h4,_⟩:=nZ hv
 unfold ak.f
 rw [br,if_neg aq,DR _ 32 aq,tU 32 _ h3]
 show ((cB.f (au (iE v))).bind fun g=>(cF.f g).bind fun v2=>ak.v k v2 (au []) false)=_
 rw [qO _ aq,h1]
 show ((cF.f (au (iE v))).bind fun v2=>ak.v k v2 (au []) false)=_
 rw [h2]
 rfl
theorem UE (s:ByteArray):∀ (l:List ByteArray) (i:Nat) (v:Int),UU s l i=v→v≠0→∃ j:Nat,v=((i + j:Nat):Int)∧l[j]? =some s
 | [],i,v,h,h0=>absurd h.symm h0
 |x :: l,i,v,h,h0=>by
  unfold UU at h
  by_cases hx: 0 < i∧x=s
  ·rw [if_pos hx] at h
   exact ⟨0,by rw [← h];rfl,by rw [hx.2];rfl⟩
  ·rw [if_neg hx] at h
   obtain ⟨j,h1,h2⟩:=UE s l (i + 1) v h h0
   exact ⟨j + 1,by rw [h1];congr 1;omega,h2⟩
theorem YS {w:List UInt8} {v:Int} (h:cF.f (au w)=some v) (h0:v≠0):pP v∧w=iE v:=by
 have hr:=G8 h
 obtain ⟨j,h1,h2⟩:=UE (au w) kX 0 v (Option.some.inj h) h0
 refine ⟨by unfold pP;omega,?_⟩
 unfold iE
 rw [h1,Nat.zero_add,List.getD_eq_getElem?_getD,show ((j:Int)).toNat=j by omega,h2]
 rfl
end Go.Proofs.YtokpnfljjjjikaaGreatDoor.jk
namespace Go.Proofs.YtokpnfljjjjikaaGreatDoor.jk
open Go.RowKit Go.Proofs.YtokpnfljjjjikaaGreatDoor Go.Proofs.YtokpnfljjjjikaaGreatDoor.n9 Go.Proofs.aj.bQ Go.Proofs.aj.cT
set_option linter.unusedVariables false
set_option linter.unusedSimpArgs false
theorem nr (l:List UInt8) (n:Nat):(au l).extract n (au l).size=au (l.drop n):=by
 rw [extract_mk,br]
 congr 1
 exact List.take_of_length_le lq
theorem ym (l:List UInt8) (n:Nat):(au l).extract 0 n=au (l.take n):=by
 rw [extract_mk]
 simp
def fB (v:Int):List UInt8:=if v=3 then [70,82,79,77,58] else [84,79,58]
theorem sV (v:Int):(fB v).map pZ=fB v∧(fB v).length≤5:=by
 unfold fB
 split<;>decide +kernel
abbrev aeF:=Bool×Bool×List ByteArray×ByteArray×ByteArray×Bool×List gI
structure UF (n:Bool) (R:List ByteArray) (lo dom:ByteArray) (lit:Bool) (P:List gI) (m:Nat) (t:List UInt8):Prop where
 ag:OU n R lo dom lit m t
 ps:∀ k,3000000≤k→bR.f k (au (jf P))=some (P,true)
 ok:∀ p,p∈P→pF 3000000 p
 pl:P.length≤1000
 rl:R.length≤1000
 tl:t.length + (jf P).length≤600
theorem EE {n:Bool} {R:List ByteArray} {lo dom:ByteArray} {lit:Bool} {P:List gI} {m:Nat} {t:List UInt8} (g:UF n R lo dom lit P m t) (v:Int) (k:Nat) (hk: 3000000≤k):
 ey.f k (au (fB v ++ (t ++ jf P))) (au (fB v))=some (true,n,R,lo,dom,lit,P):=by
 obtain ⟨h1,h2⟩:=sV v
 have htl:=g.tl
 have hsz:(au (fB v ++ (t ++ jf P))).size=(fB v).length + (t.length + (jf P).length):=by
  rw [br,List.length_append,List.length_append]
 unfold ey.f
 rw [hsz,br,if_neg aq,ym,List.take_left,qO _ aq,h1]
 simp only [Option.bind_some,if_true]
 rw [← hsz,nr,List.drop_left,g.ag.rd k hk _ aq]
 simp only [Option.bind_some,if_true]
 rw [if_pos ⟨aq,aq,aq⟩,nr,show ((((fB v).length:Int) + (t.length:Int))).toNat=(fB v ++ t).length by rw [List.length_append];omega,← List.append_assoc,List.drop_left,g.ps k hk]
 rfl
theorem EF (v:Int) (r:List UInt8) (hr:r.length≤510):∃ res:aeF,ey.f 3000000 (au r) (au (fB v))=some res∧
 (res.1=false∨∃ (n:Bool) (R:List ByteArray) (lo dom:ByteArray) (lit:Bool) (P:List gI) (m:Nat) (t:List UInt8),res=(true,n,R,lo,dom,lit,P)∧UF n R lo dom lit P m t∧(fB v).length + t.length + (jf P).length≤r.length):=by
 obtain ⟨h1,h2⟩:=sV v
 unfold ey.f
 rw [br,br]
 by_cases hlt:(r.length:Int) < ((fB v).length:Int)
 ·rw [if_pos hlt]
  exact ⟨_,rfl,.inl rfl⟩
 rw [if_neg hlt,ym,qO _ BN]
 simp only [Option.bind_some]
 by_cases hg:(au ((r.take (fB v).length).map pZ)).toList=(au (fB v)).toList
 case neg=>rw [if_neg hg];exact ⟨_,rfl,.inl rfl⟩
 rw [if_pos hg]
 have ht:(au r).extract (fB v).length r.length=au (r.drop (fB v).length):=by
  have:=nr r (fB v).length
  rwa [br] at this
 rw [ht]
 have hsz:(au (r.drop (fB v).length)).size=r.length - (fB v).length:=by rw [br,List.length_drop]
 obtain ⟨⟨p1,p2,p3,p4,p5,p6,p7⟩,hp⟩:=QW (au (r.drop (fB v).length)) aq 3000000 aq
 rw [hp]
 simp only [Option.bind_some]
 by_cases he:p7=0
 case neg=>rw [if_neg he];exact ⟨_,rfl,.inl rfl⟩
 rw [if_pos he]
 subst he
 obtain ⟨n,t,rfl,hn,ag⟩:=QZ 3000000 aq _ aq p1 p2 p3 p4 p5 p6 hp
 have hR:=OI _ aq 3000000 aq hp
 rw [if_pos ⟨aq,aq,aq⟩]
 have ht2:(au r).extract (((fB v).length:Int) + (n:Int)).toNat r.length=au (r.drop ((fB v).length + n)):=by
  have:=nr r ((fB v).length + n)
  rw [br] at this
  rw [show (((fB v).length:Int) + (n:Int)).toNat=(fB v).length + n by omega]
  exact this
 rw [ht2]
 obtain ⟨⟨P,ok⟩,hP⟩:=OV 3000000 (r.drop ((fB v).length + n)) lq aq
 rw [hP]
 simp only [Option.bind_some]
 cases ok with
 |false=>exact ⟨_,rfl,.inl rfl⟩
 |true=>
  obtain ⟨q1,q2,q3,q4⟩:=MF 3000000 _ lq P hP
  rw [List.length_drop] at q1 q4
  have hle:=ag.le
  exact ⟨_,rfl,.inr ⟨p1,p2,p3,p4,p5,P,n,t,rfl,⟨ag,fun k hk=>nA (fun k=>bR.mono _ k) hk q2,q3,aq,aq,aq⟩,aq⟩⟩
structure Good (v:Int) (a:ByteArray) (n:Bool) (R:List ByteArray) (lo dom:ByteArray) (lit:Bool) (P:List gI) (t:List UInt8):Prop where
 b:∀ k,3001100≤k→fL.f k v a n R lo dom lit P=some true
 w:∀ k,3001100≤k→bV.f k v a n R lo dom lit P=some (au t)
 r:∀ k,3001100≤k→ak.f k (au t)=some (v,a,n,R,lo,dom,lit,P,0)
 rl:R.length≤1000
 pl:P.length≤1000
def lM (a:List UInt8):List UInt8:=if a= [] then [] else 32 :: a
theorem Bz {v:Int} (h3:v≠3) (h4:v≠4):ez.f v=some false:=by
 unfold ez.f
 rw [if_neg h3]
 simp [h4]
theorem BA {v:Int} (hv:pP v) (h3:v≠3) (h4:v≠4) (a:List UInt8) (ha:a.length≤1000) (hp:∀ k,3001100≤k→ak.f k (au (iE v ++ lM a))=ak.w v (au a)):Good v (au a) false [] ⟨#[]⟩ ⟨#[]⟩ false [] (iE v ++ lM a):=by
 obtain ⟨_,_,_,f4,f5,_⟩:=nZ hv
 refine ⟨fun k hk=>?_,fun k hk=>?_,hp,bf,bf⟩
 ·unfold fL.f
  rw [Bz h3 h4]
  simp only [Option.bind_some,Bool.false_eq_true,if_false]
  rw [if_pos (by rfl),if_pos gL]
  rfl
 ·unfold bV.f
  rw [f5,Bz h3 h4]
  simp only [Option.bind_some,Bool.false_eq_true,if_false]
  rw [toList_mk]
  unfold lM
  by_cases h0:a= []
  ·rw [if_pos h0,if_pos h0,List.append_nil]
  ·rw [if_neg h0,if_neg h0]
   have e1:(⟨#[32]⟩:ByteArray) ++ au a=au (32 :: a):=iM [32] a
   rw [e1,br,br,br,if_pos aq,if_pos uy,iM]
theorem JF {v:Int} (hv:v=3∨v=4) {n:Bool} {R:List ByteArray} {lo dom:ByteArray} {lit:Bool} {P:List gI} {m:Nat} {t:List UInt8} (g:UF n R lo dom lit P m t) (hl:(iE v).length + 1 + ((fB v).length + (t.length + (jf P).length))≤510)
 (hm:v=3→n=true∨dom.toList.isEmpty=false) (hr:v=4→n=false):Good v ⟨#[]⟩ n R lo dom lit P (iE v ++ 32 :: (fB v ++ (t ++ jf P))):=by
 have hvb:pP v:=by unfold pP;omega
 obtain ⟨_,_,_,f4,f5,_⟩:=nZ hvb
 have hpl:=g.pl
 have htl:=g.tl
 have hc:ez.f v=some true:=by rcases hv with rfl|rfl<;>rfl
 refine ⟨fun k hk=>?_,fun k hk=>?_,fun k hk=>?_,g.rl,hpl⟩
 ·unfold fL.f
  rw [hc]
  simp only [Option.bind_some,if_true]
  rw [if_pos gL,g.ag.rt k aq]
  simp only [Option.bind_some,if_true]
  rw [VE P aq 3000000 g.ok k aq]
  rfl
 ·have hj:∀ k,3001050≤k→∀ (x:ByteArray) (a:List UInt8),a.length≤6→∀ z:Int,∀ y:ByteArray,bV.j0 (k + 1) (au (iE v)) (au a) z y n R lo dom lit P=some (au (iE v ++ (a ++ t) ++ jf P)):=by
   intro k hk x a ha z y
   rw [bV.j0,g.ag.pr k aq]
   show (if (au a).size + (au t).size≤9223372036854775807 then _ else none)=_
   have hrun:=AB P aq k 0 (iE v ++ (a ++ t)) aq (Nat.zero_le _) (by
    rw [List.drop_zero]
    show _ + (jf P).length < _
    rw [List.length_append,List.length_append]
    omega)
   rw [List.drop_zero] at hrun
   rw [br,br,if_pos aq,iM,br,br,if_pos Fi,iM]
   exact hrun
  obtain ⟨k,rfl⟩:∃ k',k=k' + 1:=⟨k - 1,aq⟩
  unfold bV.f
  rw [f5,hc]
  simp only [Option.bind_some,if_true]
  rcases hv with rfl|rfl
  ·rw [if_pos rfl]
   have:=hj k aq ⟨#[]⟩ [32,70,82,79,77,58] bf 3 ⟨#[]⟩
   refine this.trans ?_
   all_goals (congr 2;try (simp [fB]))
  ·rw [if_neg bL]
   have:=hj k aq ⟨#[]⟩ [32,84,79,58] bf 4 ⟨#[]⟩
   refine this.trans ?_
   all_goals (congr 2;try (simp [fB]))
 ·rw [uq hvb _ k (by rw [List.length_append,List.length_append];exact hl)]
  have hpd:=EE g v k aq
  rcases hv with rfl|rfl
  ·rw [show ak.v k 3 (au (fB 3 ++ (t ++ jf P))) true=ak.G6 k (au (fB 3 ++ (t ++ jf P))) from by unfold ak.v;simp]
   unfold ak.G6
   rw [show (⟨#[70,82,79,77,58]⟩:ByteArray)=au (fB 3) from rfl,hpd]
   simp only [Option.bind_some,if_true]
   rcases hm rfl with rfl|hd
   ·rw [if_pos rfl]
    rfl
   ·rw [hd,if_neg (bL: ¬ false=true)]
    split<;>rfl
  ·rw [show ak.v k 4 (au (fB 4 ++ (t ++ jf P))) true=ak.G7 k (au (fB 4 ++ (t ++ jf P))) from by unfold ak.v;simp]
   unfold ak.G7
   rw [show (⟨#[84,79,58]⟩:ByteArray)=au (fB 4) from rfl,hpd]
   simp only [Option.bind_some,if_true]
   rw [hr rfl,if_neg bL]
   rfl
end Go.Proofs.YtokpnfljjjjikaaGreatDoor.jk
namespace Go.Proofs.YtokpnfljjjjikaaGreatDoor.jk
open Go.RowKit Go.Proofs.YtokpnfljjjjikaaGreatDoor Go.Proofs.YtokpnfljjjjikaaGreatDoor.n9 Go.Proofs.aj.bQ Go.Proofs.aj.cT
set_option linter.unusedVariables false
set_option linter.unusedSimpArgs false
theorem OX:bO.f 120=some true:=by decide +kernel
theorem EG (k:Nat) (hk: 120≤k):bO.f k=some true:=nA (fun k=>bO.mono k) hk OX
theorem JG (v:Int) (a:ByteArray) (n:Bool) (R:List ByteArray) (lo dom:ByteArray) (lit:Bool) (P:List gI) (hP:P.length < 4611686018427387904):∀ (k i:Nat),P.length - i < k→i≤P.length→aZ.l0 k (P.length:Int) (i:Int) v a n R lo dom lit P v a n R lo dom lit P=some true
 | 0,i,h,_ =>absurd h (Nat.not_lt_zero _)
 |k + 1,i,h,hi=>by
  unfold aZ.l0
  by_cases hlt:i < P.length
  ·have hw:wrap64 ((i:Int) + 1)=((i + 1:Nat):Int):=by unfold wrap64;omega
   rw [if_pos aq,if_pos aq,if_pos aq,if_pos aq,if_neg bf,hw]
   exact JG v a n R lo dom lit P hP k (i + 1) aq aq
  ·rw [if_neg aq]
theorem Q6 (v:Int) (a:ByteArray) (n:Bool) (R:List ByteArray) (lo dom:ByteArray) (lit:Bool) (P:List gI) (hR:R.length≤1000) (hP:P.length≤1000) (k:Nat) (hk: 5000≤k):aZ.f k v a n R lo dom lit P v a n R lo dom lit P=some true:=by
 obtain ⟨k,rfl⟩:∃ k',k=k' + 1:=⟨k - 1,aq⟩
 unfold aZ.f
 rw [if_pos rfl,if_pos rfl,Vw n R lo dom lit (k + 1) aq aq]
 simp only [Option.bind_some,if_true]
 rw [aZ.j0,if_neg bf]
 exact JG v a n R lo dom lit P aq k 0 aq (Nat.zero_le _)
def Told (L:List UInt8) (r:Dz):Prop:=
 (∃ e,some r=ak.z e∧((e=160∧L.length≤510)∨(e=161∧L.length≤510)))∨
 ∃ v a n R lo dom lit P t,r=(v,a,n,R,lo,dom,lit,P,0)∧Good v a n R lo dom lit P t∧t.length≤L.length∧(v=3∨v=4∨(n=false∧R= []∧lo=⟨#[]⟩∧dom=⟨#[]⟩∧lit=false∧P= []))
theorem ur (L:List UInt8) (hl:L.length≤510) (e:Int) (he:e=160∨e=161):∃ r,ak.z e=some r∧Told L r:=
 ⟨_,rfl,.inl ⟨e,rfl,by rcases he with rfl|rfl<;>simp [hl]⟩⟩
theorem YT:fN fC 46 []≠(true,0):=by decide
theorem aby (r:List UInt8) (hl:r.length≤510):∃ b,iy.f (au r)=some b∧(b=true→r≠ []):=by
 unfold iy.f
 rw [if_pos j6,toList_mk]
 refine ⟨_,rfl,fun h e=>?_⟩
 subst e
 simp at h
theorem wA {v:Int} (k:Nat) (r:ByteArray) (m:Bool):(v=1→ak.v k v r m=ak.NU k r)∧(v=2→ak.v k v r m=ak.LM k r)∧(v=3→ak.v k v r m=ak.G6 k r)∧(v=4→ak.v k v r m=ak.G7 k r)∧(v=7∨v=8→ak.v k v r m=ak.free v r)∧(v=9∨v=10→ak.v k v r m=if m=true then ak.free v r else ak.w v ⟨#[]⟩)∧(v=5∨v=6∨v=11→ak.v k v r m=if m=true then ak.z 161 else ak.w v ⟨#[]⟩):=by
 refine ⟨?_,?_,?_,?_,?_,?_,?_⟩
 ·rintro rfl;unfold ak.v;simp
 ·rintro rfl;unfold ak.v;simp
 ·rintro rfl;unfold ak.v;simp
 ·rintro rfl;unfold ak.v;simp
 ·rintro (rfl|rfl)<;>(unfold ak.v;simp)
 ·rintro (rfl|rfl)<;>(unfold ak.v;simp)
 ·rintro (rfl|rfl|rfl)<;>(unfold ak.v;simp)
theorem Dd {a:List UInt8} (h:a≠ []):lM a=32 :: a:=if_neg h
theorem YU {r:List UInt8} (h:r≠ []):r.map fO≠ []:=by
 intro e
 exact h (List.map_eq_nil_iff.mp e)
theorem aeG {v:Int} (hv:pP v) (L w r:List UInt8) (m:Bool) (hL:L.length≤510) (hw:w.length=(iE v).length) (h1:m=true→L.length=w.length + 1 + r.length) (h2:m=false→r= []∧L.length=w.length):
 ∃ res,ak.v 3000000 v (au r) m=some res∧Told L res:=by
 obtain ⟨f1,f2,f3,f4,f5,f6⟩:=nZ hv
 have hrl:r.length≤510:=by cases m with|true=>have:=h1 rfl;omega|false=>have:=(h2 rfl).1;rw [this];simp
 have free:∀ (aub:v=7∨v=8∨v=9∨v=10),(v=7∨v=8∨m=true)→∃ res,ak.free v (au r)=some res∧Told L res:=by
  intro h79 hm
  unfold ak.free
  obtain ⟨b,hb,hbn⟩:=aby r hrl
  rw [hb]
  simp only [Option.bind_some]
  cases b with
  |false=>exact ur L hL 161 (.inr rfl)
  |true=>
   have hne:=hbn rfl
   have hmt:m=true:=by
    cases m with
    |true=>rfl
    |false=>exact absurd (h2 rfl).1 hne
   have hll:=h1 hmt
   refine ⟨_,rfl,.inr ⟨v,au r,false,[],⟨#[]⟩,⟨#[]⟩,false,[],iE v ++ lM r,rfl,BA hv aq aq r aq (fun k hk=>?_),?_⟩⟩
   ·rw [Dd hne,uq hv r k aq]
    have hfree:ak.free v (au r)=ak.w v (au r):=by
     unfold ak.free
     rw [hb]
     rfl
    obtain ⟨_,_,_,_,v78,OY,_⟩:=wA (v:=v) k (au r) true
    rcases h79 with h|h|h|h
    ·rw [v78 (.inl h),hfree]
    ·rw [v78 (.inr h),hfree]
    ·rw [OY (.inl h),if_pos rfl,hfree]
    ·rw [OY (.inr h),if_pos rfl,hfree]
   ·refine ⟨?_,.inr (.inr ⟨rfl,rfl,rfl,rfl,rfl,rfl⟩)⟩
    rw [Dd hne,List.length_append,List.length_cons]
    omega
 have only:v=5∨v=6∨v=9∨v=10∨v=11→m=false→∃ res,ak.w v ⟨#[]⟩=some res∧Told L res:=by
  intro hvv hm
  obtain ⟨_,hll⟩:=h2 hm
  refine ⟨_,rfl,.inr ⟨v,⟨#[]⟩,false,[],⟨#[]⟩,⟨#[]⟩,false,[],iE v ++ lM [],rfl,BA hv aq aq [] bf (fun k hk=>?_),?_⟩⟩
  ·rw [show iE v ++ lM []=iE v from by simp [lM],Q5 hv k]
   obtain ⟨_,_,_,_,_,OY,v5⟩:=wA (v:=v) k ⟨#[]⟩ false
   rcases hvv with h|h|h|h|h
   ·rw [v5 (.inl h),if_neg bL];rfl
   ·rw [v5 (.inr (.inl h)),if_neg bL];rfl
   ·rw [OY (.inl h),if_neg bL];rfl
   ·rw [OY (.inr h),if_neg bL];rfl
   ·rw [v5 (.inr (.inr h)),if_neg bL];rfl
  ·refine ⟨?_,.inr (.inr ⟨rfl,rfl,rfl,rfl,rfl,rfl⟩)⟩
   rw [show iE v ++ lM []=iE v from by simp [lM]]
   omega
 have apI:∀ (k:Nat),3000000≤k→fu.f k (au r)=fu.f 3000000 (au r):=by
  intro k hk
  rw [lR r aq k aq,lR r aq 3000000 aq]
 have named:∀ (apJ:v=1∨v=2),r≠ []→m=true→(∀ k,3001100≤k→ak.v k v (au (r.map fO)) true=ak.w v (au (r.map fO)))→Told L (v,au (r.map fO),false,[],⟨#[]⟩,⟨#[]⟩,false,[],0):=by
  intro apJ hne hm hk
  have hll:=h1 hm
  refine .inr ⟨v,au (r.map fO),false,[],⟨#[]⟩,⟨#[]⟩,false,[],iE v ++ lM (r.map fO),rfl,BA hv aq aq (r.map fO) ld (fun k hkk=>?_),?_⟩
  ·rw [Dd (YU hne),uq hv _ k ld]
   exact hk k hkk
  ·refine ⟨?_,.inr (.inr ⟨rfl,rfl,rfl,rfl,rfl,rfl⟩)⟩
   rw [Dd (YU hne),List.length_append,List.length_cons,List.length_map]
   omega
 have OZ:r≠ []→m=true:=by
  intro hne
  cases m with
  |true=>rfl
  |false=>exact absurd (h2 rfl).1 hne
 obtain ⟨v1,v2,v3,v4,v78,OY,v5⟩:=wA (v:=v) 3000000 (au r) m
 have hsm:ia.f (au r)=some (au (r.map fO)):=JB r aq
 have aeH:ia.f (au (r.map fO))=some (au (r.map fO)):=by
  rw [JB _ ld,sU]
 rcases hv with rfl|rfl|rfl|rfl|rfl|rfl|rfl|rfl|rfl|rfl|rfl
 ·rw [v1 rfl]
  unfold ak.NU
  rw [hsm,lR r aq _ aq]
  simp only [Option.bind_some]
  cases hd:(decide (fN fC 46 r=(true,r.length)) && iW (au r)) with
  |false=>exact ur L hL 161 (.inr rfl)
  |true=>
   have hne:r≠ []:=by
    rintro rfl
    rw [decide_eq_false (show ¬ fN fC 46 []=(true,([]:List UInt8).length) from YT)] at hd
    cases hd
   refine ⟨_,rfl,named (.inl rfl) hne (OZ hne) (fun k hk=>?_)⟩
   rw [(wA k _ true).1 rfl]
   unfold ak.NU
   rw [aeH,Bx r aq k aq,lR r aq k aq,hd]
   rfl
 ·rw [v2 rfl]
  unfold ak.LM
  rw [hsm,lR r aq _ aq]
  simp only [Option.bind_some]
  cases hd:(decide (fN fC 46 r=(true,r.length)) && iW (au r)) with
  |false=>
   rw [if_neg bL,Ir r aq _ aq]
   simp only [Option.bind_some]
   cases hc:JE r with
   |false=>exact ur L hL 161 (.inr rfl)
   |true=>
    have hne:r≠ []:=by
     rintro rfl
     exact absurd hc bL
    refine ⟨_,rfl,named (.inr rfl) hne (OZ hne) (fun k hk=>?_)⟩
    rw [(wA k _ true).2.1 rfl]
    unfold ak.LM
    rw [aeH,Bx r aq k aq,lR r aq k aq,hd]
    simp only [Option.bind_some]
    rw [if_neg bL,Ir _ ld k ld,VD,hc]
    rfl
  |true=>
   have hne:r≠ []:=by
    rintro rfl
    rw [decide_eq_false (show ¬ fN fC 46 []=(true,([]:List UInt8).length) from YT)] at hd
    cases hd
   refine ⟨_,rfl,named (.inr rfl) hne (OZ hne) (fun k hk=>?_)⟩
   rw [(wA k _ true).2.1 rfl]
   unfold ak.LM
   rw [aeH,Bx r aq k aq,lR r aq k aq,hd]
   rfl
 ·rw [v3 rfl]
  unfold ak.G6
  rw [show (⟨#[70,82,79,77,58]⟩:ByteArray)=au (fB 3) from rfl]
  obtain ⟨res,h3,h4⟩:=EF 3 r hrl
  rw [h3]
  simp only [Option.bind_some]
  rcases h4 with h4|⟨n,R,lo,dom,lit,P,mm,t,rfl,g,hle⟩
  ·rw [h4]
   exact ur L hL 161 (.inr rfl)
  ·have hne:r≠ []:=by
    rintro rfl
    have:=g.ag.ne
    rw [List.length_nil] at hle
    omega
   have hll:=h1 (OZ hne)
   have acK:n=true∨dom.toList.isEmpty=false→Told L (3,⟨#[]⟩,n,R,lo,dom,lit,P,0):=fun hm=> .inr ⟨3,_,_,_,_,_,_,_,_,rfl,JF (.inl rfl) g aq (fun _ =>hm) (fun h=>by omega),RL,bf⟩
   show ∃ res,(if true=true then (if n=true then ak.p 3 (true,n,R,lo,dom,lit,P) else if dom.toList.isEmpty=true then ak.z 161 else ak.p 3 (true,n,R,lo,dom,lit,P)) else ak.z 161)=some res∧Told L res
   rw [if_pos rfl]
   by_cases hn:n=true
   ·rw [if_pos hn]
    exact ⟨_,rfl,acK (.inl hn)⟩
   ·rw [if_neg hn]
    by_cases hd:dom.toList.isEmpty=true
    ·rw [if_pos hd]
     exact ur L hL 161 (.inr rfl)
    ·rw [if_neg hd]
     exact ⟨_,rfl,acK (.inr (Bool.eq_false_iff.mpr hd))⟩
 ·rw [v4 rfl]
  unfold ak.G7
  rw [show (⟨#[84,79,58]⟩:ByteArray)=au (fB 4) from rfl]
  obtain ⟨res,h3,h4⟩:=EF 4 r hrl
  rw [h3]
  simp only [Option.bind_some]
  rcases h4 with h4|⟨n,R,lo,dom,lit,P,mm,t,rfl,g,hle⟩
  ·rw [h4]
   exact ur L hL 161 (.inr rfl)
  ·have hne:r≠ []:=by
    rintro rfl
    have:=g.ag.ne
    rw [List.length_nil] at hle
    omega
   have hll:=h1 (OZ hne)
   show ∃ res,(if true=true then (if n=true then ak.z 161 else ak.p 4 (true,n,R,lo,dom,lit,P)) else ak.z 161)=some res∧Told L res
   rw [if_pos rfl]
   by_cases hn:n=true
   ·rw [if_pos hn]
    exact ur L hL 161 (.inr rfl)
   ·rw [if_neg hn]
    exact ⟨_,rfl,.inr ⟨4,⟨#[]⟩,n,R,lo,dom,lit,P,_,rfl,JF (.inr rfl) g aq (fun h=>by omega) (fun _ =>Bool.eq_false_iff.mpr hn),RL,bf⟩⟩
 ·rw [v5 (.inl rfl)]
  cases m with
  |true=>exact ur L hL 161 (.inr rfl)
  |false=>exact only aq rfl
 ·rw [v5 (.inr (.inl rfl))]
  cases m with
  |true=>exact ur L hL 161 (.inr rfl)
  |false=>exact only aq rfl
 ·rw [v78 (.inl rfl)]
  exact free aq (.inl rfl)
 ·rw [v78 (.inr rfl)]
  exact free aq (.inr (.inl rfl))
 ·rw [OY (.inl rfl)]
  cases m with
  |true=>exact free aq (.inr (.inr rfl))
  |false=>exact only aq rfl
 ·rw [OY (.inr rfl)]
  cases m with
  |true=>exact free aq (.inr (.inr rfl))
  |false=>exact only aq rfl
 ·rw [v5 (.inr (.inr rfl))]
  cases m with
  |true=>exact ur L hL 161 (.inr rfl)
  |false=>exact only aq rfl
theorem Q7 (L:List UInt8) (hL:L.length≤510):∃ r,ak.f 3000000 (au L)=some r∧Told L r:=by
 have hct:=(uo 32 L).2
 have hcl:=congrArg List.length hct
 rw [List.length_append] at hcl
 unfold ak.f
 rw [br,if_neg aq,DR L 32 aq]
 simp only [Option.bind_some]
 rw [qO _ aq]
 simp only [Option.bind_some]
 obtain ⟨v,hv⟩:∃ v,cF.f (au ((Lib.cut L [32]).1.map pZ))=some v:=⟨_,rfl⟩
 rw [hv]
 simp only [Option.bind_some]
 by_cases h0:v=0
 ·subst h0
  have:ak.v 3000000 0 (au (Lib.cut L [32]).2.1) (Lib.cut L [32]).2.2=ak.z 160:=by unfold ak.v;rw [if_pos rfl]
  rw [this]
  exact ur L hL 160 (.inl rfl)
 ·obtain ⟨hV,hw⟩:=YS hv h0
  have Vv:=congrArg List.length hw
  rw [List.length_map] at Vv
  refine aeG hV L (Lib.cut L [32]).1 (Lib.cut L [32]).2.1 (Lib.cut L [32]).2.2 hL Vv (fun hm=>?_) (fun hm=>?_)
  ·rw [hm,if_pos rfl,List.length_cons] at hcl
   omega
  ·rw [hm,if_neg bL,List.length_nil] at hcl
   refine ⟨?_,aq⟩
   unfold Lib.cut at hm ⊢
   split
   ·rename_i h;rw [if_pos h] at hm;cases hm
   ·rfl
end Go.Proofs.YtokpnfljjjjikaaGreatDoor.jk
namespace Go.Proofs.YtokpnfljjjjikaaGreatDoor.jk
open Go.RowKit Go.Proofs.YtokpnfljjjjikaaGreatDoor Go.Proofs.YtokpnfljjjjikaaGreatDoor.n9 Go.Proofs.aj.bQ Go.Proofs.aj.cT
set_option linter.unusedVariables false
set_option linter.unusedSimpArgs false
theorem JH (d:List UInt8) (hl:d.length < 4294967281):cE.f (au d)=some (au (d.map fO)):=by
 unfold cE.f
 rw [if_pos j6,nY]
instance (d:List UInt8):Decidable (mz d):=by unfold mz;infer_instance
theorem O0 (d:List UInt8) (hl:d.length < 4294967281) (k:Nat) (hk:d.length + 3 < k):kL.f k (au d)=some (decide (mz d) && iW (au d)):=by
 unfold kL.f
 rw [lR d hl k hk]
 simp only [Option.bind_some]
 by_cases h1:fN fC 46 d=(true,d.length)
 ·rw [decide_eq_true h1,Bool.true_and]
  cases hs:iW (au d) with
  |true=>
   rw [if_pos rfl,JH d hl]
   simp only [Option.bind_some]
   rw [toList_mk,toList_mk,Bool.and_true]
   by_cases h2:d.map fO=d
   ·rw [h2,decide_eq_true ⟨h1,h2⟩]
    simp
   ·rw [decide_eq_false (fun h:mz d=>h2 h.2)]
    simp [h2]
  |false=>
   rw [if_neg bL,Bool.and_false]
 ·rw [decide_eq_false h1,Bool.false_and,if_neg bL,decide_eq_false (fun h:mz d=>h1 h.1)]
  rfl
def Gg (lo dom:List UInt8) (lit:Bool):Bool:=
 decide (lo.length≤64) && (if lit=true then H6 dom && decide (dom.map fO=dom) else iW (au dom) && decide (mz dom))
def O1 (b:UInt8):Bool:=decide (AQ b)
theorem JI (lo dom:List UInt8) (lit:Bool) (hlo:lo.length < 4294967281) (hl:dom.length < 4294967281):∀ (k i:Nat),lo.length - i + dom.length + 6 < k→i≤lo.length→
 dV.l0 k (lo.length:Int) (i:Int) (au lo) (au dom) lit=some ((lo.drop i).all O1 && Gg lo dom lit)
 | 0,_,h,_ =>absurd h (Nat.not_lt_zero _)
 |k + 1,i,hk,hi=>by
  unfold dV.l0
  by_cases hlt:i < lo.length
  ·have hd:lo.drop i=lo[i] :: lo.drop (i + 1):=List.drop_eq_getElem_cons hlt
   have hb:bt (au lo) (i:Int)=(lo[i].toNat:Int):=by
    rw [Us lo i hlt,List.getD_eq_getElem?_getD,List.getElem?_eq_getElem hlt]
    rfl
   rw [if_pos aq,if_pos aq,if_pos j6,hb,hd,List.all_cons]
   by_cases h1:lo[i] < 32
   ·rw [if_pos (QG.mpr h1)]
    have:O1 lo[i]=false:=decide_eq_false (fun h=>h (.inl h1))
    rw [this]
    rfl
   ·rw [if_neg (fun h=>h1 (QG.mp h))]
    by_cases h2: 126 < lo[i]
    ·rw [if_pos (Hl.mpr h2)]
     have:O1 lo[i]=false:=decide_eq_false (fun h=>h (.inr h2))
     rw [this]
     rfl
    ·rw [if_neg (fun h=>h2 (Hl.mp h)),s9 i aq]
     have:O1 lo[i]=true:=decide_eq_true (fun h=>h.elim h1 h2)
     rw [this,Bool.true_and]
     exact JI lo dom lit hlo hl k (i + 1) aq aq
  ·rw [if_neg aq,List.drop_of_length_le aq,List.all_nil,Bool.true_and]
   unfold Gg
   cases lit with
   |true=>
    rw [if_pos rfl,if_pos rfl,tT lo dom true k aq]
    simp only [Option.bind_some,Bool.true_or,Bool.and_true]
    by_cases h64:lo.length≤64
    ·rw [decide_eq_true h64,if_pos rfl,yg dom hl k aq,Bool.true_and]
     simp only [Option.bind_some]
     cases hL:H6 dom with
     |true=>
      rw [if_pos rfl,JH dom hl]
      simp only [Option.bind_some,Bool.true_and]
      rw [toList_mk,toList_mk]
      by_cases h2:dom.map fO=dom
      ·rw [decide_eq_true h2,h2];simp
      ·rw [decide_eq_false h2];simp [h2]
     |false=>rw [if_neg bL];rfl
    ·rw [decide_eq_false h64,if_neg bL];rfl
   |false=>
    rw [if_neg bL,if_neg bL,tT lo dom false k aq]
    simp only [Option.bind_some,Bool.false_or]
    by_cases h64:lo.length≤64
    ·rw [decide_eq_true h64,Bool.true_and,Bool.true_and]
     cases hs:iW (au dom) with
     |true=>
      rw [if_pos rfl,O0 dom hl k aq,hs]
      simp
     |false=>rw [if_neg bL];rfl
    ·rw [decide_eq_false h64,Bool.false_and,if_neg bL];rfl
def boxedB (lo dom:List UInt8) (lit:Bool):Bool:=lo.all O1 && Gg lo dom lit
theorem YV (lo dom:List UInt8) (lit:Bool) (hlo:lo.length < 4294967281) (hl:dom.length < 4294967281) (k:Nat) (hk:lo.length + dom.length + 6 < k):dV.f k (au lo) (au dom) lit=some (boxedB lo dom lit):=by
 unfold dV.f boxedB
 rw [br]
 have:=JI lo dom lit hlo hl k 0 aq (Nat.zero_le _)
 rw [List.drop_zero] at this
 exact this
theorem VF {lo dom:List UInt8} {lit:Bool} (hl:dom.length < 4294967281) (h:boxedB lo dom lit=true):yC lo dom lit∧lo.length≤64∧(lit=false→iW (au dom)=true)∧dom≠ []:=by
 unfold boxedB Gg at h
 simp only [Bool.and_eq_true,decide_eq_true_eq,List.all_eq_true] at h
 obtain ⟨h1,h64,h2⟩:=h
 have hf:∀ b,b∈lo→AQ b:=fun b hb=>of_decide_eq_true (h1 b hb)
 cases lit with
 |true=>
  simp only [if_true,Bool.and_eq_true,decide_eq_true_eq] at h2
  have hg:=OE dom h2.1
  refine ⟨⟨hf,fun e=>(by cases e),fun _ =>⟨?_,hg.1,h2.2⟩⟩,h64,fun e=>(by cases e),?_⟩
  ·rw [Gf dom hl];exact h2.1
  ·rintro rfl
   exact absurd h2.1 gL
 |false=>
  simp only [Bool.false_eq_true,if_false,Bool.and_eq_true,decide_eq_true_eq] at h2
  refine ⟨⟨hf,fun _ =>h2.2,fun e=>(by cases e)⟩,h64,fun _ =>h2.1,?_⟩
  obtain ⟨b,d',e,_⟩:=h2.2.head
  rw [e]
  simp
def yq (a:Bool) (ds:List (List UInt8)) (lo dom:List UInt8) (lit:Bool):Bool:=
 if a=true then decide (ds= []∧lo= []∧dom= []) && !lit
 else if lo= [112,111,115,116,109,97,115,116,101,114]∧dom= []∧lit=false then decide (ds= [])
 else boxedB lo dom lit && (decide (ds.length≤20) && ds.all fun d=>decide (mz d) && iW (au d))
theorem YW (ds:List (List UInt8)) (M:Nat) (hM:∀ d,d∈ds→d.length≤M) (hl:M < 4294967281) (k:Nat) (hk:ds.length + M + 10 < k) (h20:ds.length≤20):
 b9.f k (ds.map au)=some (!(ds.all fun d=>decide (mz d) && iW (au d))):=by
 rw [OJ (g:=fun y=>!(decide (mz y.data.toList) && iW y)) (k0:=M + 4) (fun y hy k hk=>by
  obtain ⟨d,hd',rfl⟩:=List.mem_map.mp hy
  have:=hM d hd'
  unfold kR.f
  rw [O0 d aq k aq]
  rfl) k ld ld]
 congr 1
 clear hM hk h20
 induction ds with
 |nil=>rfl
 |cons d ds ih=>
  rw [List.map_cons,List.any_cons,List.all_cons,ih]
  exact (Bool.not_and ..).symm
theorem EH (ds:List (List UInt8)) (lo dom:List UInt8) (lit:Bool):yq true ds lo dom lit=(decide (ds= []∧lo= []∧dom= []) && !lit):=rfl
theorem De (ds:List (List UInt8)):yq false ds [112,111,115,116,109,97,115,116,101,114] [] false=decide (ds= []):=rfl
theorem Q8 (ds:List (List UInt8)) (lo dom:List UInt8) (lit:Bool) (hp: ¬ (lo= [112,111,115,116,109,97,115,116,101,114]∧dom= []∧lit=false)):
 yq false ds lo dom lit=(boxedB lo dom lit && (decide (ds.length≤20) && ds.all fun d=>decide (mz d) && iW (au d))):=by
 unfold yq
 rw [if_neg bL,if_neg hp]
theorem VG (a:Bool) (ds:List (List UInt8)) (lo dom:List UInt8) (lit:Bool) (M:Nat) (hM:∀ d,d∈ds→d.length≤M) (hlo:lo.length≤M) (hd:dom.length≤M) (hl:M < 4294967281) (k:Nat) (hk: 2 * M + 110 < k):
 fM.f k a (ds.map au) (au lo) (au dom) lit=some (yq a ds lo dom lit):=by
 cases a with
 |true=>
  unfold fM.f
  rw [toList_mk,toList_mk,List.length_map,EH,if_pos rfl]
  cases ds with
  |nil=>
   rw [if_pos (by rfl)]
   cases lo<;>cases dom<;>cases lit<;>rfl
  |cons d ds=>
   rw [if_neg (by rw [List.length_cons];omega)]
   simp
 |false=>
  by_cases hp:lo= [112,111,115,116,109,97,115,116,101,114]∧dom= []∧lit=false
  ·obtain ⟨rfl,rfl,rfl⟩:=hp
   unfold fM.f
   rw [toList_mk,toList_mk,List.length_map,De,if_neg bL,if_pos bL]
   cases ds with
   |nil=>rfl
   |cons d ds=>
    have e:(((d :: ds).length:Int) == 0)=false:=by
     rw [List.length_cons]
     exact beq_eq_false_iff_ne.mpr aq
    rw [e]
    simp
  ·unfold fM.f
   rw [toList_mk,toList_mk,List.length_map,Q8 ds lo dom lit hp,if_neg bL,if_neg (by
    intro h
    apply hp
    simp only [Bool.and_eq_true,beq_iff_eq,Bool.not_eq_true'] at h
    exact h),YV lo dom lit aq aq k aq]
   simp only [Option.bind_some]
   cases hb:boxedB lo dom lit with
   |false=>
    rw [Bool.false_and]
    exact if_neg bL
   |true=>
    rw [if_pos rfl,Bool.true_and]
    by_cases h20:ds.length≤20
    ·rw [if_pos aq,YW ds M hM hl k aq h20,decide_eq_true h20,Bool.true_and]
     simp
    ·rw [if_neg aq,decide_eq_false h20,Bool.false_and]
theorem VH {ds:List (List UInt8)} {lo dom:List UInt8} {lit:Bool} (hl:dom.length < 4294967281) (hp: ¬ (lo= [112,111,115,116,109,97,115,116,101,114]∧dom= []∧lit=false)) (h:yq false ds lo dom lit=true):
 boxedB lo dom lit=true∧(∀ d,d∈ds→mz d)∧yC lo dom lit∧Fits ds lo dom lit∧dom≠ []:=by
 unfold yq at h
 rw [if_neg bL,if_neg hp] at h
 simp only [Bool.and_eq_true,decide_eq_true_eq,List.all_eq_true] at h
 obtain ⟨h1,h2,h3⟩:=h
 obtain ⟨b1,b2,b3,b4⟩:=VF hl h1
 exact ⟨h1,fun d hd=>(h3 d hd).1,b1,⟨b2,b3,h2,fun d hd=>(h3 d hd).2⟩,b4⟩
end Go.Proofs.YtokpnfljjjjikaaGreatDoor.jk
namespace Go.Proofs.YtokpnfljjjjikaaGreatDoor.jk
open Go.RowKit Go.Proofs.YtokpnfljjjjikaaGreatDoor Go.Proofs.YtokpnfljjjjikaaGreatDoor.n9 Go.Proofs.aj.bQ Go.Proofs.aj.cT
set_option linter.unusedVariables false
set_option linter.unusedSimpArgs false
theorem DU (s v:ByteArray) (b:Bool) (hv:v.size < 4611686018427387904):∀ (k i:Nat),i≤v.size→bN.l1 k (v.size:Int) (i:Int) s v b=some true→
 (∀ j:Nat,i≤j→j < v.size→33≤bt v (j:Int)∧bt v (j:Int)≤126∧bt v (j:Int)≠61)∧(b == (v.toList != ([]:List UInt8)))=true
 | 0,i,_,h=>by simp [bN.l1] at h
 |k + 1,i,hi,h=>by
  unfold bN.l1 at h
  by_cases hlt:i < v.size
  ·have hw:wrap64 ((i:Int) + 1)=((i + 1:Nat):Int):=by unfold wrap64;omega
   rw [if_pos aq,if_pos aq,if_pos aq,hw] at h
   split at h
   ·cases h
   ·split at h
    ·cases h
    ·split at h
     ·cases h
     ·obtain ⟨h1,h2⟩:=DU s v b hv k (i + 1) aq h
      refine ⟨fun j hj hj2=>?_,h2⟩
      by_cases e:j=i
      ·subst e
       omega
      ·exact h1 j aq hj2
  ·rw [if_neg aq] at h
   refine ⟨fun j hj hj2=>by omega,?_⟩
   split at h
   ·cases h
   ·exact Option.some.inj h
def YX (c:Int):Prop:=(65≤c∧c≤90)∨(48≤c∧c≤57)∨c=45
theorem DV (s v:ByteArray) (b:Bool) (hs:s.size < 4611686018427387904):∀ (k i:Nat),i≤s.size→bN.l0 k (s.size:Int) (i:Int) s v b=some true→
 (∀ j:Nat,i≤j→j < s.size→YX (bt s (j:Int)))∧∃ k',bN.l1 k' (v.size:Int) 0 s v b=some true
 | 0,i,_,h=>by simp [bN.l0] at h
 |k + 1,i,hi,h=>by
  unfold bN.l0 at h
  by_cases hlt:i < s.size
  ·have hw:wrap64 ((i:Int) + 1)=((i + 1:Nat):Int):=by unfold wrap64;omega
   rw [if_pos aq,if_pos aq,if_pos aq,hw] at h
   have key:YX (bt s (i:Int))∧bN.l0 k (s.size:Int) ((i + 1:Nat):Int) s v b=some true:=by
    unfold YX
    repeat' split at h
    all_goals first|(cases h;done)|exact ⟨aq,h⟩
   obtain ⟨h1,h2⟩:=DV s v b hs k (i + 1) aq key.2
   refine ⟨fun j hj hj2=>?_,h2⟩
   by_cases e:j=i
   ·subst e
    exact key.1
   ·exact h1 j aq hj2
  ·rw [if_neg aq] at h
   exact ⟨fun j hj hj2=>by omega,k,h⟩
theorem O2 (b:UInt8):(65≤(b.toNat:Int)∧(b.toNat:Int)≤90)∨(48≤(b.toNat:Int)∧(b.toNat:Int)≤57)∨(b.toNat:Int)=45→pZ b=b∧b≠61∧b≠32:=
 fI (Q:=fun b=>(65≤(b.toNat:Int)∧(b.toNat:Int)≤90)∨(48≤(b.toNat:Int)∧(b.toNat:Int)≤57)∨(b.toNat:Int)=45→pZ b=b∧b≠61∧b≠32) gL b
theorem O3 (b:UInt8): 33≤(b.toNat:Int)∧(b.toNat:Int)≤126∧(b.toNat:Int)≠61→b≠32:=
 fI (Q:=fun b=>33≤(b.toNat:Int)∧(b.toNat:Int)≤126∧(b.toNat:Int)≠61→b≠32) gL b
theorem Df {l:List UInt8} {Q:Int→Prop} (h:∀ j:Nat,0≤j→j < (au l).size→Q (bt (au l) (j:Int))) (b:UInt8) (hb:b∈l):Q (b.toNat:Int):=by
 obtain ⟨j,hj,rfl⟩:=List.mem_iff_getElem.mp hb
 have h1:=h j (Nat.zero_le _) (by rw [br];exact hj)
 rw [Q4 l j hj,List.getD_eq_getElem?_getD,List.getElem?_eq_getElem hj] at h1
 exact h1
theorem zE {k:Nat} {p:gI} (h:pF k p) (h0:p.f0.size < 4611686018427387904) (h1:p.f1.size < 4611686018427387904):iT (jX p)=p∧(32:UInt8) ∉ jX p:=by
 obtain ⟨f0,f1,f2⟩:=p
 obtain ⟨x,rfl⟩:∃ x,f0=au x:=⟨f0.data.toList,(mk_data f0).symm⟩
 obtain ⟨y,rfl⟩:∃ y,f1=au y:=⟨f1.data.toList,(mk_data f1).symm⟩
 have hh:bN.f k (au x) (au y) f2=some true:=h
 unfold bN.f at hh
 obtain ⟨hk,k',h3⟩:=DV (au x) (au y) f2 h0 k 0 (Nat.zero_le _) hh
 obtain ⟨hv,h4⟩:=DU (au x) (au y) f2 h1 k' 0 (Nat.zero_le _) h3
 have kx:∀ b,b∈x→pZ b=b∧b≠61∧b≠32:=fun b hb=>O2 b (Df (Q:=YX) hk b hb)
 have vy:∀ b,b∈y→b≠32:=fun b hb=>O3 b (Df (Q:=fun c=>33≤c∧c≤126∧c≠61) hv b hb)
 have x61:(61:UInt8) ∉ x:=fun hm=>(kx 61 hm).2.1 rfl
 have x32:(32:UInt8) ∉ x:=fun hm=>(kx 32 hm).2.2 rfl
 have y32:(32:UInt8) ∉ y:=fun hm=>vy 32 hm rfl
 have xup:x.map pZ=x:=by
  have:=List.map_congr_left (f:=pZ) (g:=id) fun b hb=>(kx b hb).1
  rw [this,List.map_id]
 have hwo:jX ⟨au x,au y,f2⟩=x ++ (if f2=true then 61 :: y else []):=rfl
 rw [hwo]
 rw [toList_mk] at h4
 cases f2 with
 |true=>
  rw [if_pos rfl]
  refine ⟨?_,fun hm=>?_⟩
  ·unfold iT
   rw [AA 61 y x x61]
   simp only
   rw [xup]
  ·rcases List.mem_append.mp hm with hm|hm
   ·exact x32 hm
   ·rcases List.mem_cons.mp hm with e|hm
    ·exact absurd e bL
    ·exact y32 hm
 |false=>
  rw [if_neg bL,List.append_nil]
  have hy:y= []:=by
   cases y with
   |nil=>rfl
   |cons c y=>simp at h4
  subst hy
  refine ⟨?_,x32⟩
  unfold iT
  rw [tU 61 x x61]
  simp only
  rw [xup]
theorem VI (k:Nat) (P:List gI) (h:∀ p,p∈P→pF k p) (hs:∀ p,p∈P→p.f0.size < 4611686018427387904∧p.f1.size < 4611686018427387904) (hl:(jf P).length < 4294967281):bR.f k (au (jf P))=some (P,true):=by
 have e:(P.map jX).map iT=P:=by
  rw [List.map_map]
  have:=List.map_congr_left (f:=iT ∘jX) (g:=id) fun p hp=>(zE (h p hp) (hs p hp).1 (hs p hp).2).1
  rw [this,List.map_id]
 have hb:=zC k (P.map jX) (fun x hx=>by
  obtain ⟨p,hp,rfl⟩:=List.mem_map.mp hx
  exact (zE (h p hp) (hs p hp).1 (hs p hp).2).2) hl (fun x hx=>by
  obtain ⟨p,hp,rfl⟩:=List.mem_map.mp hx
  show pF k (iT (jX p))
  rw [(zE (h p hp) (hs p hp).1 (hs p hp).2).1]
  exact h p hp)
 rw [e] at hb
 exact hb
theorem O4 (P:List gI) (hP:P.length≤1048576) (hs:∀ p,p∈P→p.f0.size≤1048576∧p.f1.size≤1048576):∀ (k i:Nat),P.length - i + 3000000 < k→i≤P.length→∃ r,aX.l0 k P (P.length:Int) (i:Int)=some r∧(r < 0→∀ j (hj:j < P.length),i≤j→pF 3000000 P[j])
 | 0,i,hk,_ =>absurd hk (Nat.not_lt_zero _)
 |k + 1,i,hk,hi=>by
  unfold aX.l0
  by_cases hlt:i < P.length
  ·have hw:wrap64 ((i:Int) + 1)=((i + 1:Nat):Int):=by unfold wrap64;omega
   have hr:cv P (i:Int)=P[i]:=by
    unfold cv
    rw [List.getD_eq_getElem?_getD,show ((i:Int)).toNat=i by omega,List.getElem?_eq_getElem hlt]
    rfl
   obtain ⟨z0,z1⟩:=hs _ (List.getElem_mem hlt)
   obtain ⟨b,hb⟩:=Iw P[i].f0 P[i].f1 P[i].f2 aq aq 3000000 aq
   have hp:jz.f k P[i].f0 P[i].f1 P[i].f2=some (!b):=by
    unfold jz.f
    rw [nA (fun k=>bN.mono _ _ _ k) (show 3000000≤k by omega) hb]
    rfl
   rw [if_pos aq,if_pos aq,if_pos aq,hr,hp,hw]
   simp only [Option.bind_some]
   cases b with
   |false=>exact ⟨_,rfl,fun h=>by omega⟩
   |true=>
    obtain ⟨r,h1,h2⟩:=O4 P hP hs k (i + 1) aq aq
    refine ⟨r,h1,fun h j hj hij=>?_⟩
    by_cases e:j=i
    ·subst e
     exact hb
    ·exact h2 h j hj aq
  ·rw [if_neg aq]
   exact ⟨_,rfl,fun h j hj hij=>by omega⟩
theorem VJ (P:List gI) (hP:P.length≤1048576) (hs:∀ p,p∈P→p.f0.size≤1048576∧p.f1.size≤1048576) (k:Nat) (hk: 4100000≤k):∃ b,bK.f k P=some b∧(b=false→∀ p,p∈P→pF 3000000 p):=by
 obtain ⟨r,h1,h2⟩:=O4 P hP hs k 0 aq (Nat.zero_le _)
 rw [show ((0:Nat):Int)=0 from rfl] at h1
 unfold bK.f aX.f
 rw [h1]
 refine ⟨_,rfl,fun hb p hp=>?_⟩
 obtain ⟨j,hj,rfl⟩:=List.mem_iff_getElem.mp hp
 exact h2 (by have:=of_decide_eq_false hb;omega) j hj (Nat.zero_le _)
end Go.Proofs.YtokpnfljjjjikaaGreatDoor.jk
namespace Go.Proofs.YtokpnfljjjjikaaGreatDoor.jk
open Go.RowKit Go.Proofs.YtokpnfljjjjikaaGreatDoor Go.Proofs.YtokpnfljjjjikaaGreatDoor.n9 Go.Proofs.aj.bQ Go.Proofs.aj.cT
set_option linter.unusedVariables false
set_option linter.unusedSimpArgs false
theorem acL:∀ l:List UInt8,(qL l).length≤2 * l.length
 | []=>Nat.le_refl _
 |b :: l=>by
  have e:qL (b :: l)=qL [b] ++ qL l:=by
   have:=DL [b] l
   simpa using this
  rw [e,List.length_append,List.length_cons]
  have:=YL b
  have:=acL l
  omega
theorem VK (l:List UInt8):(qN l).length≤2 * l.length + 2:=by
 unfold qN
 split
 ·omega
 ·have:=acL l
  simp only [List.length_cons,List.length_append,List.length_nil]
  omega
theorem YY (lo dom:List UInt8) (lit:Bool):(iX lo dom lit).length≤2 * lo.length + dom.length + 5:=by
 unfold iX
 have:=VK lo
 rw [List.length_append]
 cases lit with
 |true=>
  rw [if_pos rfl]
  simp only [List.length_cons,List.length_append,List.length_nil]
  omega
 |false=>
  rw [if_neg bL,List.length_cons]
  omega
theorem JJ (M:Nat):∀ ds:List (List UInt8),(∀ d,d∈ds→d.length≤M)→(gi ds).length≤ds.length * (M + 2)
 | [],_ =>Nat.zero_le _
 | [d],h=>by
   have:=h d (List.mem_cons_self ..)
   show (64 :: d).length≤_
   simp
   omega
 |d :: e :: ds,h=>by
  have h1:=h d (List.mem_cons_self ..)
  have h2:=JJ M (e :: ds) (fun x hx=>h x (List.mem_cons_of_mem _ hx))
  show (64 :: (d ++ 44 :: gi (e :: ds))).length≤_
  rw [List.length_cons,List.length_append,List.length_cons,List.length_cons (a:=d),Nat.add_mul]
  omega
theorem VL {ds:List (List UInt8)} {lo dom:List UInt8} {lit:Bool} (hf:Fits ds lo dom lit):(gB ds lo dom lit).length≤dom.length + 6000:=by
 have h1:=YY lo dom lit
 have h2:=hf.los
 cases ds with
 |nil=>show (iX lo dom lit).length≤_;omega
 |cons d ds=>
  have h3:=JJ 255 (d :: ds) (fun x hx=>by have:=QX _ (hf.each x hx);rwa [br] at this)
  have h4:=hf.many
  have h5:(d :: ds).length * (255 + 2)≤20 * 257:=Nat.mul_le_mul_right 257 h4
  show (gi (d :: ds) ++ 58 :: iX lo dom lit).length≤_
  rw [List.length_append,List.length_cons]
  omega
theorem YZ (R:List ByteArray):(R.map fun y=>y.data.toList).map au=R:=by
 rw [List.map_map]
 have:=List.map_congr_left (l:=R) (f:=au ∘fun y=>y.data.toList) (g:=id) fun y _ =>mk_data y
 rw [this,List.map_id]
theorem O5 (a:Bool) (ds:List (List UInt8)) (lo dom:List UInt8) (lit:Bool) (hd:∀ d,d∈ds→d.length≤1048576) (hlo:lo.length≤1048576) (hdom:dom.length≤1048576) (hr:yq a ds lo dom lit=true):
 ∃ t,OU a (ds.map au) (au lo) (au dom) lit t.length t∧ds.length≤20∧t.length≤dom.length + 6100:=by
 cases a with
 |true=>
  rw [EH] at hr
  simp only [Bool.and_eq_true,decide_eq_true_eq,Bool.not_eq_true'] at hr
  obtain ⟨⟨rfl,rfl,rfl⟩,rfl⟩:=hr
  exact ⟨[60,62],⟨bf,fun k hk=>Bw _,fun k hk=>Iq _,fun k hk more hm=>um _ (by rw [br];simp;omega) k (by rfl),bf⟩,bf,bf⟩
 |false=>
  by_cases hp:lo= [112,111,115,116,109,97,115,116,101,114]∧dom= []∧lit=false
  ·obtain ⟨rfl,rfl,rfl⟩:=hp
   rw [De] at hr
   obtain rfl:=of_decide_eq_true hr
   exact ⟨wz,⟨bf,fun k hk=>zD _,fun k hk=>EA _,fun k hk more hm=>EB more aq k aq,by simp [wz]⟩,bf,by simp [wz]⟩
  ·obtain ⟨hb,d1,d2,d3,d4⟩:=VH aq hp hr
   have hw:=VL d3
   obtain ⟨w1,w2⟩:=Dc ds lo dom lit
   have hne:gB ds lo dom lit≠ []:=by
    intro e
    rw [e] at w2
    simp at w2
   have hlt:(60 :: (gB ds lo dom lit ++ [62])).length=(gB ds lo dom lit).length + 2:=by
    rw [List.length_cons,List.length_append]
    rfl
   refine ⟨60 :: (gB ds lo dom lit ++ [62]),⟨Nat.le_refl _,fun k hk=>Ih d1 d2 d3 d4 1048576 hd hdom aq _ aq,fun k hk=>OO d1 d2 d3 d4 1048576 hd hdom aq aq _ aq,fun k hk more hm=>?_,aq⟩,d3.many,aq⟩
   have hpb:=Ij d1 d2 d3 1048576 hd hdom aq hne k aq aq more aq aq
   rw [hlt,← hpb]
   congr 2
   simp
theorem Y0 {e:Int} {r:Dz} (h:ak.z e=some r):r.2.2.2.2.2.2.2.2=e:=by
 rw [← Option.some.inj h]
theorem JK (L:List UInt8) (k:Nat) (hk: 3000000≤k):∃ r,ak.f k (au L)=some r∧((r.2.2.2.2.2.2.2.2≠0)∨(L.length≤510∧Told L r)):=by
 by_cases hL:L.length≤510
 ·obtain ⟨r,h1,h2⟩:=Q7 L hL
  exact ⟨r,nA (fun k=>ak.mono _ k) hk h1,.inr ⟨hL,h2⟩⟩
 ·refine ⟨(0,⟨#[]⟩,false,[],⟨#[]⟩,⟨#[]⟩,false,[],3),?_,.inl bL⟩
  unfold ak.f
  rw [br,if_pos aq]
  rfl
end Go.Proofs.YtokpnfljjjjikaaGreatDoor.jk
namespace Go.Proofs.YtokpnfljjjjikaaGreatDoor.jk
open Go.RowKit Go.Proofs.YtokpnfljjjjikaaGreatDoor Go.Proofs.YtokpnfljjjjikaaGreatDoor.n9 Go.Proofs.aj.bQ Go.Proofs.aj.cT
set_option linter.unusedVariables false
set_option linter.unusedSimpArgs false
def Says (v:Int) (a:ByteArray) (n:Bool) (R:List ByteArray) (lo dom:ByteArray) (lit:Bool) (P:List gI):Prop:=
 gQ.f 6000000 v a n R lo dom lit P=some (⟨#[]⟩,2)∨
 ∃ w u,gQ.f 6000000 v a n R lo dom lit P=some (au (w ++ u),0)∧gH.f v=some (au w)∧(32:UInt8) ∉ w∧(w ++ u).length≤510∧P.length≤1000∧R.length≤1000∧
   (∀ k,3001100≤k→ak.f k (au (w ++ u))=some (v,a,n,R,lo,dom,lit,P,0))∧
   ((v≠3∧v≠4∧∃ x,u=lM x)∨((v=3∨v=4)∧∃ t,a=⟨#[]⟩∧w=iE v∧u=32 :: (fB v ++ (t ++ jf P))∧OU n R lo dom lit t.length t∧(∀ p,p∈P→pF 3000000 p)∧(v=3→n=true∨dom.toList.isEmpty=false)∧(v=4→n=false)))
theorem Ix (k:Nat) {v:Int} {a:ByteArray} {n:Bool} {R:List ByteArray} {lo dom:ByteArray} {lit:Bool} {P:List gI} (s:ByteArray) (r:Dz)
 (hb:fL.f k v a n R lo dom lit P=some true) (hw:bV.f k v a n R lo dom lit P=some s) (hp:ak.f k s=some r):
 gQ.f k v a n R lo dom lit P=some (⟨#[]⟩,2)∨(gQ.f k v a n R lo dom lit P=some (s,0)∧r.2.2.2.2.2.2.2.2=0∧r.1=v∧r.2.1.toList=a.toList):=by
 have hright:∀ x,(if r.2.2.2.2.2.2.2.2=0 then (if r.1=v then (some (r.2.1.toList == a.toList)) else (some false)) else (some false))=some x→jm.f k v a n R lo dom lit P=some x:=by
  intro x hx
  unfold jm.f
  rw [hb]
  simp only [Option.bind_some,if_true]
  rw [hw]
  simp only [Option.bind_some]
  rw [hp]
  simp only [Option.bind_some]
  exact hx
 have bad:jm.f k v a n R lo dom lit P=some false→gQ.f k v a n R lo dom lit P=some (⟨#[]⟩,2):=by
  intro h
  unfold gQ.f
  rw [h]
  rfl
 by_cases h1:r.2.2.2.2.2.2.2.2=0
 case neg=>exact .inl (bad (hright false (by rw [if_neg h1])))
 by_cases h2:r.1=v
 case neg=>exact .inl (bad (hright false (by rw [if_pos h1,if_neg h2])))
 by_cases h3:r.2.1.toList=a.toList
 case neg=>exact .inl (bad (hright false (by rw [if_pos h1,if_pos h2,beq_eq_false_iff_ne.mpr h3])))
 refine .inr ⟨?_,h1,h2,h3⟩
 unfold gQ.f
 rw [hright true (by rw [if_pos h1,if_pos h2,beq_iff_eq.mpr h3])]
 simp only [Option.bind_some,if_true]
 rw [hw]
 rfl
theorem Q9 (v:Int) (hv: 0≤v∧v < 256) (a:ByteArray) (n:Bool) (R:List ByteArray) (lo dom:ByteArray) (lit:Bool) (P:List gI) (ha:a.size≤1048576) (hR:R.length≤1048576) (hRs:∀ y,y∈R→y.size≤1048576) (hlo:lo.size≤1048576) (hdom:dom.size≤1048576) (hP:P.length≤1048576) (hPs:∀ p,p∈P→p.f0.size≤1048576∧p.f1.size≤1048576):
 Says v a n R lo dom lit P:=by
 have bad:fL.f 6000000 v a n R lo dom lit P=some false→Says v a n R lo dom lit P:=by
  intro h
  refine .inl ?_
  unfold gQ.f jm.f
  rw [h]
  rfl
 by_cases Zb:v=3∨v=4
 ·have hc:ez.f v=some true:=by rcases Zb with rfl|rfl<;>rfl
  have hvb:pP v:=by unfold pP;omega
  obtain ⟨f1,f2,f3,f4,f5,f6⟩:=nZ hvb
  obtain ⟨g1,g2⟩:=sV v
  have hrv:=VG n (R.map fun y=>y.data.toList) lo.data.toList dom.data.toList lit 1048576 (fun d hd=>by
   obtain ⟨y,hy,rfl⟩:=List.mem_map.mp hd
   have:=hRs y hy
   rw [dB]
   exact this) (by rw [dB];exact hlo) (by rw [dB];exact hdom) aq 6000000 aq
  rw [YZ,mk_data,mk_data] at hrv
  obtain ⟨b,hb1,hb2⟩:=VJ P hP hPs 6000000 aq
  by_cases ha0:a.toList= []
  case neg=>
   refine bad ?_
   unfold fL.f
   rw [hc]
   simp only [Option.bind_some,if_true]
   rw [if_neg ha0]
  cases hr:yq n (R.map fun y=>y.data.toList) lo.data.toList dom.data.toList lit with
  |false=>
   refine bad ?_
   unfold fL.f
   rw [hc]
   simp only [Option.bind_some,if_true]
   rw [if_pos ha0,hrv,hr]
   rfl
  |true=>
   cases b with
   |true=>
    refine bad ?_
    unfold fL.f
    rw [hc]
    simp only [Option.bind_some,if_true]
    rw [if_pos ha0,hrv,hr]
    simp only [Option.bind_some,if_true]
    rw [hb1]
    rfl
   |false=>
    have hok:=hb2 rfl
    obtain ⟨t,ag,h20,htl⟩:=O5 n _ _ _ lit (fun d hd=>by
     obtain ⟨y,hy,rfl⟩:=List.mem_map.mp hd
     have:=hRs y hy
     rw [dB]
     exact this) (by rw [dB];exact hlo) (by rw [dB];exact hdom) hr
    rw [YZ,mk_data,mk_data] at ag
    rw [List.length_map] at h20
    have hae:a=⟨#[]⟩:=by
     rw [ByteArray.toList_eq] at ha0
     rw [← mk_data a,ha0]
     rfl
    subst hae
    have Y1:fL.f 6000000 v ⟨#[]⟩ n R lo dom lit P=some true:=by
     unfold fL.f
     rw [hc]
     simp only [Option.bind_some,if_true]
     rw [if_pos ha0,hrv,hr]
     simp only [Option.bind_some,if_true]
     rw [hb1]
     rfl
    have asb:(jf P).length≤4398046511104:=by
     have:∀ Q:List gI,(∀ p,p∈Q→p.f0.size≤1048576∧p.f1.size≤1048576)→(jf Q).length≤Q.length * 2097154:=by
      intro Q
      induction Q with
      |nil=>intro _;exact Nat.zero_le _
      |cons p Q ih=>
       intro h
       have h1:=ih (fun q hq=>h q (List.mem_cons_of_mem _ hq))
       obtain ⟨z0,z1⟩:=h p (List.mem_cons_self ..)
       have e:(jf (p :: Q)).length=(jX p).length + (jf Q).length + 1:=by
        show (32 :: (jX p ++ jf Q)).length=_
        rw [List.length_cons,List.length_append]
       have e2:(jX p).length≤2097153:=by
        unfold jX
        rw [List.length_append,dB]
        split
        ·rw [List.length_cons,dB];omega
        ·rw [List.length_nil];omega
       rw [e,List.length_cons,Nat.add_mul]
       omega
     have h2:=this P hPs
     have h3:P.length * 2097154≤1048576 * 2097154:=Nat.mul_le_mul_right _ hP
     omega
    have hdl:dom.data.toList.length≤1048576:=by rw [dB];exact hdom
    have Ra:bV.f 6000000 v ⟨#[]⟩ n R lo dom lit P=some (au (iE v ++ 32 :: (fB v ++ (t ++ jf P)))):=by
     have hj:∀ (a:List UInt8),a.length≤6→∀ z:Int,∀ y:ByteArray,bV.j0 6000000 (au (iE v)) (au a) z y n R lo dom lit P=some (au (iE v ++ (a ++ t) ++ jf P)):=by
      intro a ha z y
      show bV.j0 (5999999 + 1) _ _ _ _ _ _ _ _ _ _=_
      rw [bV.j0,ag.pr 5999999 aq]
      simp only [Option.bind_some]
      have hrun:=AB P aq 5999999 0 (iE v ++ (a ++ t)) aq (Nat.zero_le _) (by
       rw [List.drop_zero]
       show _ + (jf P).length < _
       rw [List.length_append,List.length_append]
       omega)
      rw [List.drop_zero] at hrun
      rw [br,br,if_pos aq,iM,br,br,if_pos Fi,iM]
      exact hrun
     unfold bV.f
     rw [f5,hc]
     simp only [Option.bind_some,if_true]
     rcases Zb with rfl|rfl
     ·rw [if_pos rfl]
      refine (hj [32,70,82,79,77,58] bf 3 ⟨#[]⟩).trans ?_
      all_goals (congr 2;try (simp [fB]))
     ·rw [if_neg bL]
      refine (hj [32,84,79,58] bf 4 ⟨#[]⟩).trans ?_
      all_goals (congr 2;try (simp [fB]))
    obtain ⟨r,hp0,hp2⟩:=JK (iE v ++ 32 :: (fB v ++ (t ++ jf P))) 3001100 aq
    have hpk:∀ k,3001100≤k→ak.f k (au (iE v ++ 32 :: (fB v ++ (t ++ jf P))))=some r:=fun k hk=>nA (fun k=>ak.mono _ k) hk hp0
    rcases Ix 6000000 (au (iE v ++ 32 :: (fB v ++ (t ++ jf P)))) r Y1 Ra (hpk _ aq) with hbad|⟨hpr,e0,e1,e2⟩
    ·exact .inl hbad
    rcases hp2 with hp2|⟨hL,_⟩
    ·exact absurd e0 hp2
    have hL2:=hL
    rw [List.length_append,List.length_cons,List.length_append,List.length_append] at hL2
    have hPl:P.length≤(jf P).length:=by
     have:∀ Q:List gI,Q.length≤(jf Q).length:=by
      intro Q
      induction Q with
      |nil=>exact Nat.zero_le _
      |cons p Q ih=>
       show _≤(32 :: (jX p ++ jf Q)).length
       rw [List.length_cons,List.length_cons,List.length_append]
       omega
     exact this P
    have g:UF n R lo dom lit P t.length t:=⟨ag,fun k hk=>VI k P (fun p hp=>Iu hk (hok p hp)) (fun p hp=>by obtain ⟨z0,z1⟩:=hPs p hp;omega) aq,hok,aq,aq,aq⟩
    have hpd:=EE g v 6000000 aq
    have hp1:=hpk 6000000 aq
    rw [uq hvb _ _ (by rw [List.length_append,List.length_append];omega)] at hp1
    have pass:(v=3→n=true∨dom.toList.isEmpty=false)∧(v=4→n=false)∧r=(v,⟨#[]⟩,n,R,lo,dom,lit,P,0):=by
     rcases Zb with rfl|rfl
     ·rw [(wA 6000000 _ true).2.2.1 rfl] at hp1
      unfold ak.G6 at hp1
      rw [show (⟨#[70,82,79,77,58]⟩:ByteArray)=au (fB 3) from rfl,hpd] at hp1
      simp only [Option.bind_some,if_true] at hp1
      split at hp1
      ·rename_i hn
       exact ⟨fun _ => .inl hn,fun h=>by omega,(Option.some.inj hp1).symm⟩
      ·split at hp1
       ·exact absurd ((Y0 hp1).symm.trans e0) bL
       ·rename_i hd
        exact ⟨fun _ => .inr (Bool.eq_false_iff.mpr hd),fun h=>by omega,(Option.some.inj hp1).symm⟩
     ·rw [(wA 6000000 _ true).2.2.2.1 rfl] at hp1
      unfold ak.G7 at hp1
      rw [show (⟨#[84,79,58]⟩:ByteArray)=au (fB 4) from rfl,hpd] at hp1
      simp only [Option.bind_some,if_true] at hp1
      split at hp1
      ·exact absurd ((Y0 hp1).symm.trans e0) bL
      ·rename_i hn
       exact ⟨fun h=>by omega,fun _ =>Bool.eq_false_iff.mpr hn,(Option.some.inj hp1).symm⟩
    obtain ⟨pa,pb,rfl⟩:=pass
    exact .inr ⟨iE v,32 :: (fB v ++ (t ++ jf P)),hpr,f5,f3,hL,aq,aq,hpk,.inr ⟨Zb,t,rfl,rfl,rfl,ag,hok,pa,pb⟩⟩
 ·have hc:=Bz (v:=v) aq aq
  by_cases hz:n=false∧R= []∧lo.toList= []∧dom.toList= []∧lit=false∧P= []
  case neg=>
   refine bad ?_
   unfold fL.f
   rw [hc]
   simp only [Option.bind_some,Bool.false_eq_true,if_false]
   by_cases c1:n=true
   ·rw [if_pos c1]
   rw [if_neg c1]
   by_cases c2:(R.length:Int)=0
   case neg=>rw [if_neg c2]
   rw [if_pos c2]
   by_cases c3:(lo.toList == ([]:List UInt8) && (dom.toList == ([]:List UInt8) && (!lit)))=true
   case neg=>rw [if_neg c3]
   rw [if_pos c3]
   simp only [Bool.and_eq_true,beq_iff_eq,Bool.not_eq_true'] at c3
   congr 1
   rw [beq_eq_false_iff_ne]
   intro c4
   exact hz ⟨Bool.eq_false_iff.mpr c1,List.eq_nil_of_length_eq_zero aq,c3.1,c3.2.1,c3.2.2,List.eq_nil_of_length_eq_zero aq⟩
  obtain ⟨rfl,rfl,apL,ai7,rfl,rfl⟩:=hz
  have e0:∀ x:ByteArray,x.toList= []→x=⟨#[]⟩:=fun x hx=>by
   rw [ByteArray.toList_eq] at hx
   rw [← mk_data x,hx]
   rfl
  obtain rfl:=e0 lo apL
  obtain rfl:=e0 dom ai7
  have Y1:fL.f 6000000 v a false [] ⟨#[]⟩ ⟨#[]⟩ false []=some true:=by
   unfold fL.f
   rw [hc]
   simp only [Option.bind_some,Bool.false_eq_true,if_false]
   rw [if_pos (by rfl),if_pos gL]
   rfl
  have hword:gH.f v=some (au (if v < 12 then iE v else [])):=by
   unfold gH.f
   rw [if_pos hv]
   by_cases h12:v < 12
   ·rw [if_pos h12,if_pos h12]
    unfold iE
    rw [mk_data]
   ·rw [if_neg h12,if_neg h12]
    rfl
  obtain ⟨w,hw⟩:∃ w,(if v < 12 then iE v else [])=w:=⟨_,rfl⟩
  rw [hw] at hword
  have Vv:w.length≤4:=by
   rw [← hw]
   split
   ·rename_i h12
    by_cases hv0:v=0
    ·subst hv0;decide
    ·exact (nZ (v:=v) (by unfold pP;omega)).2.2.2.1
   ·simp
  obtain ⟨x,rfl⟩:∃ x,a=au x:=⟨a.data.toList,(mk_data a).symm⟩
  rw [br] at ha
  have Ra:bV.f 6000000 v (au x) false [] ⟨#[]⟩ ⟨#[]⟩ false []=some (au (w ++ lM x)):=by
   unfold bV.f
   rw [hword,hc]
   simp only [Option.bind_some,Bool.false_eq_true,if_false]
   rw [toList_mk]
   unfold lM
   by_cases hx0:x= []
   ·rw [if_pos hx0,if_pos hx0,List.append_nil]
   ·rw [if_neg hx0,if_neg hx0]
    have e1:(⟨#[32]⟩:ByteArray) ++ au x=au (32 :: x):=iM [32] x
    rw [e1,br,br,br,if_pos aq,if_pos uy,iM]
  have VZ:(32:UInt8) ∉ w:=by
   rw [← hw]
   split
   ·by_cases hv0:v=0
    ·subst hv0;decide
    ·exact (nZ (v:=v) (by unfold pP;omega)).2.2.1
   ·simp
  obtain ⟨r,hp0,hp2⟩:=JK (w ++ lM x) 3001100 aq
  have hpk:∀ k,3001100≤k→ak.f k (au (w ++ lM x))=some r:=fun k hk=>nA (fun k=>ak.mono _ k) hk hp0
  rcases Ix 6000000 (au (w ++ lM x)) r Y1 Ra (hpk _ aq) with hbad|⟨hpr,e0,e1,e2⟩
  ·exact .inl hbad
  rcases hp2 with hp2|⟨hL,ht⟩
  ·exact absurd e0 hp2
  rcases ht with ⟨e,he,hee⟩|⟨v2,a2,n2,R2,lo2,Q0,Q3,P2,t2,rfl,_,_,hz⟩
  ·have:=Y0 he.symm
   omega
  ·simp only at e1 e2
   subst e1
   have ea:a2=au x:=by
    rw [toList_mk,ByteArray.toList_eq] at e2
    rw [← mk_data a2,e2]
   subst ea
   rcases hz with hz|hz|⟨rfl,rfl,rfl,rfl,rfl,rfl⟩
   ·omega
   ·omega
   ·exact .inr ⟨w,lM x,hpr,hword,VZ,hL,bf,bf,hpk,.inl ⟨aq,aq,x,rfl⟩⟩
end Go.Proofs.YtokpnfljjjjikaaGreatDoor.jk
namespace Go.Proofs.YtokpnfljjjjikaaGreatDoor.jk
open Go.RowKit Go.Proofs.YtokpnfljjjjikaaGreatDoor Go.Proofs.YtokpnfljjjjikaaGreatDoor.n9 Go.Proofs.aj.bQ Go.Proofs.aj.cT
set_option linter.unusedVariables false
set_option linter.unusedSimpArgs false
def UG (a b:Int):Prop:=a=b∨(65≤b∧b≤90∧a=b + 32)
theorem Rb (c y:Int):UG (tv c y) c:=by
 unfold tv UG
 split
 ·right;omega
 ·left;rfl
theorem DW (ys xs:List Int):∀ (k:Nat) (j:Nat),UG ((lQ ys xs k).getD j 0) (xs.getD j 0)
 | 0,j=> .inl rfl
 |k + 1,j=>by
  show UG (((lQ ys xs k).set k (tv (xs.getD k 0) (ys.getD k 0))).getD j 0) _
  by_cases e:j=k
  ·subst e
   by_cases hj:j < xs.length
   ·rw [List.getD_eq_getElem?_getD,List.getElem?_set_self (by rw [jo];exact hj)]
    exact Rb _ _
   ·rw [List.getD_eq_getElem?_getD,List.getElem?_eq_none (by rw [List.length_set,jo];omega),List.getD_eq_getElem?_getD,List.getElem?_eq_none aq]
    exact .inl rfl
  ·rw [List.getD_eq_getElem?_getD,List.getElem?_set_ne (Ne.symm e),← List.getD_eq_getElem?_getD]
   exact DW ys xs k j
def qP (ys:List Int) (l:List UInt8):List UInt8:=(lQ ys (bytesOf (au l)) (min (au l).size ys.length)).map fun n=>UInt8.ofNat n.toNat
theorem Iy (ys:List Int) (l:List UInt8) (hl:l.length≤9223372036854775807) (hy:ys.length≤9223372036854775807):dY.f (au l) ys=some (au (qP ys l)):=by
 unfold dY.f
 rw [if_pos ⟨zH,hy⟩]
 rfl
theorem qQ (ys:List Int) (l:List UInt8):(qP ys l).length=l.length:=by
 unfold qP
 rw [List.length_map,jo,bytesOf_length,br]
theorem VM (b:UInt8):pZ b=pZ b∧(65≤(b.toNat:Int)∧(b.toNat:Int)≤90→pZ (UInt8.ofNat ((b.toNat:Int) + 32).toNat)=pZ b∧UInt8.ofNat ((b.toNat:Int) + 32).toNat≠32∧UInt8.ofNat ((b.toNat:Int) + 32).toNat≠61):=
 fI (Q:=fun b=>pZ b=pZ b∧(65≤(b.toNat:Int)∧(b.toNat:Int)≤90→pZ (UInt8.ofNat ((b.toNat:Int) + 32).toNat)=pZ b∧UInt8.ofNat ((b.toNat:Int) + 32).toNat≠32∧UInt8.ofNat ((b.toNat:Int) + 32).toNat≠61)) gL b
theorem Dg (ys:List Int) (l:List UInt8) (j:Nat) (hj:j < l.length):∃ b,(qP ys l)[j]? =some b∧(b=l[j]∨(pZ b=pZ l[j]∧b≠32∧b≠61)):=by
 have h1:=DW ys (bytesOf (au l)) (min (au l).size ys.length) j
 have hx:(bytesOf (au l)).getD j 0=(l[j].toNat:Int):=by
  rw [List.getD_eq_getElem?_getD]
  show ((l.map fun b=>(b.toNat:Int))[j]?).getD 0=_
  rw [List.getElem?_map,List.getElem?_eq_getElem hj]
  rfl
 rw [hx] at h1
 have hlen:j < (lQ ys (bytesOf (au l)) (min (au l).size ys.length)).length:=by rw [jo,bytesOf_length,br];exact hj
 rw [List.getD_eq_getElem?_getD,List.getElem?_eq_getElem hlen] at h1
 refine ⟨UInt8.ofNat ((lQ ys (bytesOf (au l)) (min (au l).size ys.length))[j]).toNat,?_,?_⟩
 ·unfold qP
  rw [List.getElem?_map,List.getElem?_eq_getElem hlen]
  rfl
 ·rcases h1 with h1|⟨h1,h2,h3⟩
  ·left
   have h4:(lQ ys (bytesOf (au l)) (min (au l).size ys.length))[j]=(l[j].toNat:Int):=h1
   rw [h4]
   simp
  ·right
   have h4:(lQ ys (bytesOf (au l)) (min (au l).size ys.length))[j]=(l[j].toNat:Int) + 32:=h3
   rw [h4]
   exact (VM l[j]).2 ⟨h1,h2⟩
theorem O6 (ys:List Int) (l:List UInt8):(qP ys l).map pZ=l.map pZ:=by
 apply List.ext_getElem?
 intro j
 rw [List.getElem?_map,List.getElem?_map]
 by_cases hj:j < l.length
 ·obtain ⟨b,h1,h2⟩:=Dg ys l j hj
  rw [h1,List.getElem?_eq_getElem hj]
  rcases h2 with rfl|⟨h2,_⟩
  ·rfl
  ·show some (pZ b)=some (pZ l[j])
   rw [h2]
 ·rw [List.getElem?_eq_none (by rw [qQ];omega),List.getElem?_eq_none aq]
theorem Rc (c:UInt8) (hc:c=32∨c=61) (ys:List Int) (l:List UInt8) (h:c ∉ l):c ∉ qP ys l:=by
 intro hm
 obtain ⟨j,hj,e⟩:=List.mem_iff_getElem.mp hm
 rw [qQ] at hj
 obtain ⟨b,h1,h2⟩:=Dg ys l j hj
 rw [List.getElem?_eq_getElem (by rw [qQ];exact hj)] at h1
 have e2:b=c:=by rw [← Option.some.inj h1];exact e
 rcases h2 with h2|⟨_,h3,h4⟩
 ·exact h (by rw [← e2,h2];exact List.getElem_mem hj)
 ·rcases hc with rfl|rfl
  ·exact h3 e2
  ·exact h4 e2
theorem Y2 (ys:List Int) (l:List UInt8) (j:Nat) (hj:j < l.length) (h:l[j]=32):(qP ys l)[j]? =some 32:=by
 have h1:=DW ys (bytesOf (au l)) (min (au l).size ys.length) j
 obtain ⟨b,h2,h3⟩:=Dg ys l j hj
 rcases h3 with h3|⟨h3,h4,_⟩
 ·rw [h2,h3,h]
 ·rw [h] at h3
  exact absurd (acI b (h3.trans bL)) h4
theorem EI (ys:List Int) (w r:List UInt8):∃ w' r',qP ys (w ++ 32 :: r)=w' ++ 32 :: r'∧w'.length=w.length∧r'.length=r.length∧w'.map pZ=w.map pZ∧r'.map pZ=r.map pZ∧(∀ c:UInt8,c=32∨c=61→(c ∉ w→c ∉ w')∧(c ∉ r→c ∉ r')):=by
 have hl:=qQ ys (w ++ 32 :: r)
 have hu:=O6 ys (w ++ 32 :: r)
 have VZ:=Y2 ys (w ++ 32 :: r) w.length bf bf
 obtain ⟨t,ht⟩:∃ t,qP ys (w ++ 32 :: r)=t:=⟨_,rfl⟩
 have hat:=Dg ys (w ++ 32 :: r)
 rw [ht] at hl hu VZ hat ⊢
 have Vv:w.length < t.length:=by rw [hl];simp
 have hsplit:t=t.take w.length ++ 32 :: t.drop (w.length + 1):=by
  have e:=List.take_append_drop w.length t
  rw [List.drop_eq_getElem_cons Vv] at e
  rw [List.getElem?_eq_getElem Vv] at VZ
  rw [Option.some.inj VZ] at e
  exact e.symm
 have YR:t.length=w.length + 1 + r.length:=by rw [hl];simp;omega
 refine ⟨t.take w.length,t.drop (w.length + 1),hsplit,BN,lq,?_,?_,fun c hc=>⟨fun hw hm=>?_,fun hr hm=>?_⟩⟩
 ·rw [List.map_take,hu,List.map_append,List.take_left' (by rw [List.length_map])]
 ·rw [List.map_drop,hu,List.map_append,List.map_cons]
  have:(w.map pZ ++ pZ 32 :: r.map pZ).drop (w.length + 1)=(r.map pZ):=by
   rw [show w.length + 1=(w.map pZ).length + 1 by rw [List.length_map],← List.drop_drop,List.drop_left]
   rfl
  exact this
 ·obtain ⟨j,hj,e⟩:=List.mem_iff_getElem.mp hm
  rw [List.length_take] at hj
  have hjw:j < w.length:=by omega
  obtain ⟨b,h1,h2⟩:=hat j qd
  rw [List.getElem_take] at e
  rw [List.getElem?_eq_getElem aq] at h1
  have e2:b=c:=by rw [← Option.some.inj h1];exact e
  rw [List.getElem_append_left hjw] at h2
  rcases h2 with h2|⟨_,h3,h4⟩
  ·exact hw (by rw [← e2,h2];exact List.getElem_mem hjw)
  ·rcases hc with rfl|rfl
   ·exact h3 e2
   ·exact h4 e2
 ·obtain ⟨j,hj,e⟩:=List.mem_iff_getElem.mp hm
  rw [List.length_drop] at hj
  have hjr:j < r.length:=by omega
  obtain ⟨b,h1,h2⟩:=hat (w.length + 1 + j) qd
  rw [List.getElem_drop] at e
  rw [List.getElem?_eq_getElem aq] at h1
  have e2:b=c:=by rw [← Option.some.inj h1];exact e
  have e3:(w ++ 32 :: r)[w.length + 1 + j]'qd=r[j]:=by
   rw [List.getElem_append_right aq]
   have:w.length + 1 + j - w.length=j + 1:=by omega
   simp [this]
  rw [e3] at h2
  rcases h2 with h2|⟨_,h3,h4⟩
  ·exact hr (by rw [← e2,h2];exact List.getElem_mem hjr)
  ·rcases hc with rfl|rfl
   ·exact h3 e2
   ·exact h4 e2
end Go.Proofs.YtokpnfljjjjikaaGreatDoor.jk
namespace Go.Proofs.YtokpnfljjjjikaaGreatDoor.jk
open Go.RowKit Go.Proofs.YtokpnfljjjjikaaGreatDoor Go.Proofs.YtokpnfljjjjikaaGreatDoor.n9 Go.Proofs.aj.bQ Go.Proofs.aj.cT
set_option linter.unusedVariables false
set_option linter.unusedSimpArgs false
theorem VN {k:Nat} {x y:List UInt8} {f2:Bool} (h:pF k ⟨au x,au y,f2⟩) (h0:x.length < 4611686018427387904) (h1:y.length < 4611686018427387904):(61:UInt8) ∉ x∧(32:UInt8) ∉ x∧(32:UInt8) ∉ y∧x.map pZ=x∧(f2=false→y= []):=by
 have hh:bN.f k (au x) (au y) f2=some true:=h
 unfold bN.f at hh
 obtain ⟨hk,k',h3⟩:=DV (au x) (au y) f2 (by rw [br];exact h0) k 0 (Nat.zero_le _) hh
 obtain ⟨hv,h4⟩:=DU (au x) (au y) f2 (by rw [br];exact h1) k' 0 (Nat.zero_le _) h3
 have kx:∀ b,b∈x→pZ b=b∧b≠61∧b≠32:=fun b hb=>O2 b (Df (Q:=YX) hk b hb)
 have vy:∀ b,b∈y→b≠32:=fun b hb=>O3 b (Df (Q:=fun c=>33≤c∧c≤126∧c≠61) hv b hb)
 refine ⟨fun hm=>(kx 61 hm).2.1 rfl,fun hm=>(kx 32 hm).2.2 rfl,fun hm=>vy 32 hm rfl,?_,fun hf=>?_⟩
 ·have:=List.map_congr_left (f:=pZ) (g:=id) fun b hb=>(kx b hb).1
  rw [this,List.map_id]
 ·subst hf
  rw [toList_mk] at h4
  cases y with
  |nil=>rfl
  |cons c y=>simp at h4
def oG (ys:List Int) (p:gI):List UInt8:=(qP ys (32 :: p.f0.data.toList)).drop 1 ++ (if p.f2=true then 61 :: p.f1.data.toList else [])
theorem JL (ys:List Int) (x:List UInt8):∃ x',qP ys (32 :: x)=32 :: x'∧(qP ys (32 :: x)).drop 1=x'∧x'.length=x.length∧x'.map pZ=x.map pZ∧(∀ c:UInt8,c=32∨c=61→c ∉ x→c ∉ x'):=by
 obtain ⟨w',r',h1,h2,h3,_,h5,h6⟩:=EI ys [] x
 have hw:w'= []:=List.eq_nil_of_length_eq_zero h2
 subst hw
 rw [List.nil_append,List.nil_append] at h1
 exact ⟨r',h1,by rw [h1];rfl,h3,h5,fun c hc=>(h6 c hc).2⟩
theorem AE (ys:List Int) {k:Nat} {p:gI} (h:pF k p) (h0:p.f0.size < 4611686018427387904) (h1:p.f1.size < 4611686018427387904):iT (oG ys p)=p∧(32:UInt8) ∉ oG ys p∧(oG ys p).length=(jX p).length:=by
 obtain ⟨f0,f1,f2⟩:=p
 obtain ⟨x,rfl⟩:∃ x,f0=au x:=⟨f0.data.toList,(mk_data f0).symm⟩
 obtain ⟨y,rfl⟩:∃ y,f1=au y:=⟨f1.data.toList,(mk_data f1).symm⟩
 rw [br] at h0 h1
 obtain ⟨x61,x32,y32,xup,hy⟩:=VN h h0 h1
 obtain ⟨x',e1,e2,e3,e4,e5⟩:=JL ys x
 have hwo:oG ys ⟨au x,au y,f2⟩=x' ++ (if f2=true then 61 :: y else []):=by
  unfold oG
  show (qP ys (32 :: x)).drop 1 ++ (if f2=true then 61 :: y else [])=_
  rw [e2]
 have apM:jX ⟨au x,au y,f2⟩=x ++ (if f2=true then 61 :: y else []):=rfl
 have ai8:=e5 61 (.inr rfl) x61
 have apN:=e5 32 (.inl rfl) x32
 rw [hwo,apM]
 refine ⟨?_,?_,by rw [List.length_append,List.length_append,e3]⟩
 ·unfold iT
  cases f2 with
  |true=>
   rw [if_pos rfl,AA 61 y x' ai8]
   simp only
   rw [e4,xup]
  |false=>
   rw [if_neg bL,List.append_nil,tU 61 x' ai8,hy rfl]
   simp only
   rw [e4,xup]
 ·intro hm
  rcases List.mem_append.mp hm with hm|hm
  ·exact apN hm
  ·cases f2 with
   |true=>
    rw [if_pos rfl] at hm
    rcases List.mem_cons.mp hm with e|hm
    ·exact absurd e bL
    ·exact y32 hm
   |false=>
    rw [if_neg bL] at hm
    cases hm
theorem O7 (ys:List Int) (k:Nat) (P:List gI) (h:∀ p,p∈P→pF k p) (hs:∀ p,p∈P→p.f0.size < 4611686018427387904∧p.f1.size < 4611686018427387904) (hl:(zA (P.map (oG ys))).length < 4294967281):bR.f k (au (zA (P.map (oG ys))))=some (P,true):=by
 have e:(P.map (oG ys)).map iT=P:=by
  rw [List.map_map]
  have:=List.map_congr_left (f:=iT ∘oG ys) (g:=id) fun p hp=>(AE ys (h p hp) (hs p hp).1 (hs p hp).2).1
  rw [this,List.map_id]
 have hb:=zC k (P.map (oG ys)) (fun x hx=>by
  obtain ⟨p,hp,rfl⟩:=List.mem_map.mp hx
  exact (AE ys (h p hp) (hs p hp).1 (hs p hp).2).2.1) hl (fun x hx=>by
  obtain ⟨p,hp,rfl⟩:=List.mem_map.mp hx
  show pF k (iT (oG ys p))
  rw [(AE ys (h p hp) (hs p hp).1 (hs p hp).2).1]
  exact h p hp)
 rw [e] at hb
 exact hb
theorem I6 (ys:List Int) (k:Nat) (P:List gI) (h:∀ p,p∈P→pF k p) (hs:∀ p,p∈P→p.f0.size < 4611686018427387904∧p.f1.size < 4611686018427387904):(zA (P.map (oG ys))).length=(jf P).length:=by
 unfold jf
 apply JD
 rw [List.map_map,List.map_map]
 exact List.map_congr_left fun p hp=>(AE ys (h p hp) (hs p hp).1 (hs p hp).2).2.2
theorem O8 (w w' x:List UInt8) (hu:w'.map pZ=w.map pZ) (h1:(32:UInt8) ∉ w) (h2:(32:UInt8) ∉ w') (k:Nat):ak.f k (au (w' ++ lM x))=ak.f k (au (w ++ lM x)):=by
 have hl:w'.length=w.length:=by have:=congrArg List.length hu;rwa [List.length_map,List.length_map] at this
 have hsz:(au (w' ++ lM x)).size=(au (w ++ lM x)).size:=by rw [br,br,List.length_append,List.length_append,hl]
 unfold ak.f
 rw [hsz]
 by_cases O9:(510:Int) < ((au (w ++ lM x)).size:Int)
 ·rw [if_pos O9,if_pos O9]
 ·rw [if_neg O9,if_neg O9]
  have hlen:(w ++ lM x).length≤510:=by rw [br] at O9;omega
  have hlen':(w' ++ lM x).length≤510:=by rw [List.length_append,hl,← List.length_append];exact hlen
  rw [DR _ 32 aq,DR _ 32 aq]
  have hc:∀ v:List UInt8,(32:UInt8) ∉ v→Lib.cut (v ++ lM x) [32]=(v,(if x= [] then [] else x),!decide (x= [])):=by
   intro v hv
   unfold lM
   by_cases hx:x= []
   ·rw [if_pos hx,if_pos hx,List.append_nil,tU 32 v hv,decide_eq_true hx]
    rfl
   ·rw [if_neg hx,if_neg hx,AA 32 x v hv,decide_eq_false hx]
    rfl
  rw [hc w h1,hc w' h2]
  simp only [Option.bind_some]
  rw [List.length_append] at hlen hlen'
  rw [qO w aq,qO w' aq,hu]
theorem Pb {n:Bool} {R:List ByteArray} {lo dom:ByteArray} {lit:Bool} {P:List gI} {m:Nat} {t:List UInt8} (ag:OU n R lo dom lit m t) (v:Int) (r X:List UInt8) (hr:r.length=(fB v).length) (hru:r.map pZ=fB v) (k:Nat) (hk: 3000000≤k) (hX:bR.f k (au X)=some (P,true)) (htl:t.length + X.length≤600):
 ey.f k (au (r ++ (t ++ X))) (au (fB v))=some (true,n,R,lo,dom,lit,P):=by
 obtain ⟨h1,h2⟩:=sV v
 have hsz:(au (r ++ (t ++ X))).size=(fB v).length + (t.length + X.length):=by
  rw [br,List.length_append,List.length_append,hr]
 unfold ey.f
 rw [hsz,br,if_neg aq,ym,← hr,List.take_left,qO _ aq,hru]
 simp only [Option.bind_some,if_true]
 rw [hr,← hsz,nr,← hr,List.drop_left,ag.rd k hk _ aq]
 simp only [Option.bind_some,if_true]
 rw [if_pos ⟨aq,aq,aq⟩,nr,show (((r.length:Int) + (t.length:Int))).toNat=(r ++ t).length by rw [List.length_append];omega,← List.append_assoc,List.drop_left,hX]
 rfl
theorem Pc (k:Nat) (hk: 5000≤k) (T:List UInt8) (S:ByteArray) {v:Int} {a:ByteArray} {n:Bool} {R:List ByteArray} {lo dom:ByteArray} {lit:Bool} {P:List gI} (hS:T.length=S.size) (hp:ak.f k (au T)=some (v,a,n,R,lo,dom,lit,P,0)) (hR:R.length≤1000) (hP:P.length≤1000):
 ((ak.f k (au T)).bind fun lJ=>(if ((au T).size:Int)=(S.size:Int) then (if lJ.2.2.2.2.2.2.2.2=0 then ((aZ.f k v a n R lo dom lit P lJ.1 lJ.2.1 lJ.2.2.1 lJ.2.2.2.1 lJ.2.2.2.2.1 lJ.2.2.2.2.2.1 lJ.2.2.2.2.2.2.1 lJ.2.2.2.2.2.2.2.1).bind fun IY=>(if IY=true then ((bO.f k).bind fun C6=>(some C6)) else (some false))) else (some false)) else (some false)))=some true:=by
 rw [hp]
 simp only [Option.bind_some,if_true]
 rw [if_pos j6,Q6 v a n R lo dom lit P hR hP k hk]
 simp only [Option.bind_some,if_true]
 rw [EG k aq]
 rfl
theorem Iz (ys:List Int) (hy:ys.length≤1048576) (S:ByteArray) (T:List UInt8) (hS:T.length=S.size) (hT:T.length≤510) (v:Int) (a:ByteArray) (n:Bool) (R:List ByteArray) (lo dom:ByteArray) (lit:Bool) (P:List gI) (hR:R.length≤1000) (hP:P.length≤1000)
 (hp:∀ k,3001100≤k→ak.f k (au T)=some (v,a,n,R,lo,dom,lit,P,0)):∀ (k i:Nat) (acc:List UInt8),P.length - i + 3001200 < k→i≤P.length→acc ++ zA ((P.drop i).map (oG ys))=T→
 aC.l0 k ys S (au acc) P (P.length:Int) (i:Int) v a n R lo dom lit P=some true
 | 0,i,acc,hk,_,_ =>absurd hk (Nat.not_lt_zero _)
 |k + 1,i,acc,hk,hi,he=>by
  unfold aC.l0
  by_cases hlt:i < P.length
  ·have hw:wrap64 ((i:Int) + 1)=((i + 1:Nat):Int):=by unfold wrap64;omega
   have hd:P.drop i=P[i] :: P.drop (i + 1):=List.drop_eq_getElem_cons hlt
   have hr:cv P (i:Int)=P[i]:=by
    unfold cv
    rw [List.getD_eq_getElem?_getD,show ((i:Int)).toNat=i by omega,List.getElem?_eq_getElem hlt]
    rfl
   rw [hd] at he
   rw [hr,hw]
   obtain ⟨q,hq⟩:∃ q,P[i]=q:=⟨_,rfl⟩
   rw [hq] at he ⊢
   obtain ⟨f0,f1,f2⟩:=q
   obtain ⟨x,rfl⟩:∃ x,f0=au x:=⟨f0.data.toList,(mk_data f0).symm⟩
   obtain ⟨y,rfl⟩:∃ y,f1=au y:=⟨f1.data.toList,(mk_data f1).symm⟩
   obtain ⟨x',e1,e2,e3,e4,e5⟩:=JL ys x
   have Vv:zA ((⟨au x,au y,f2⟩ :: P.drop (i + 1)).map (oG ys))=32 :: ((x' ++ (if f2=true then 61 :: y else [])) ++ zA ((P.drop (i + 1)).map (oG ys))):=by
    show 32 :: (oG ys ⟨au x,au y,f2⟩ ++ _)=_
    rw [show oG ys ⟨au x,au y,f2⟩=x' ++ (if f2=true then 61 :: y else []) from by
     unfold oG
     show (qP ys (32 :: x)).drop 1 ++ (if f2=true then 61 :: y else [])=_
     rw [e2]]
   rw [Vv] at he
   have hlen:=congrArg List.length he
   simp only [List.length_append,List.length_cons] at hlen
   have q0:(⟨#[32]⟩:ByteArray) ++ au x=au (32 :: x):=iM [32] x
   have q1:(⟨#[61]⟩:ByteArray) ++ au y=au (61 :: y):=iM [61] y
   rw [if_pos aq,if_pos aq,if_pos aq]
   simp only
   rw [q0,q1,br,br,br,if_pos aq,Iy ys (32 :: x) uy aq,e1]
   simp only [Option.bind_some]
   rw [br,br,iM,br,iM,if_pos uy]
   cases f2 with
   |true=>
    rw [if_pos rfl] at hlen he
    simp only [List.length_cons] at hlen
    rw [if_pos rfl,if_pos aq,if_pos J8]
    exact Iz ys hy S T hS hT v a n R lo dom lit P hR hP hp k (i + 1) _ aq aq (by rw [← he];simp)
   |false=>
    rw [if_neg bL] at hlen he
    rw [if_neg bL]
    exact Iz ys hy S T hS hT v a n R lo dom lit P hR hP hp k (i + 1) _ aq aq (by rw [← he];simp)
  ·have hd:P.drop i= []:=List.drop_of_length_le aq
   rw [if_neg aq]
   rw [hd] at he
   have he2:acc=T:=by rw [← he];simp [zA]
   subst he2
   exact Pc k aq acc S hS (hp k aq) hR hP
theorem DX (v:Int) (hv: 0≤v∧v < 256) (a:ByteArray) (n:Bool) (R:List ByteArray) (lo dom:ByteArray) (lit:Bool) (P:List gI) (ys:List Int) (ha:a.size≤1048576) (hR:R.length≤1048576) (hRs:∀ y,y∈R→y.size≤1048576) (hlo:lo.size≤1048576) (hdom:dom.size≤1048576) (hP:P.length≤1048576) (hPs:∀ p,p∈P→p.f0.size≤1048576∧p.f1.size≤1048576) (hy:ys.length≤1048576):
 ∃ k,aC.f k v a n R lo dom lit P ys=some true:=by
 refine ⟨6000000,?_⟩
 rcases Q9 v hv a n R lo dom lit P ha hR hRs hlo hdom hP hPs with h|⟨w,u,hpr,hword,VZ,hL,hPl,hRl,hp,hcase⟩
 ·unfold aC.f
  rw [h]
  simp only [Option.bind_some]
  rw [if_neg bL,EG _ aq]
  rfl
 ·have hL2:=hL
  rw [List.length_append] at hL2
  have hwu:(qP ys w).map pZ=w.map pZ:=O6 ys w
  have Vv:(qP ys w).length=w.length:=qQ ys w
  have apO:=Rc 32 (.inl rfl) ys w VZ
  unfold aC.f
  rw [hpr]
  simp only [Option.bind_some,if_true]
  rw [hword]
  simp only [Option.bind_some]
  rw [br,br,if_neg Fi,Iy ys w aq aq]
  simp only [Option.bind_some]
  have apP:(au (w ++ u)).extract ((w.length:Int)).toNat (w ++ u).length=au u:=by
   have:=nr (w ++ u) w.length
   rw [br,List.drop_left] at this
   rw [show ((w.length:Int)).toNat=w.length by omega]
   exact this
  rw [if_pos aq,if_pos Fi,apP,br,br,if_pos aq,iM]
  rcases hcase with ⟨h3,h4,x,rfl⟩|⟨Zb,t,rfl,rfl,rfl,ag,hok,pa,pb⟩
  ·have hb4:(v == 4)=false:=beq_eq_false_iff_ne.mpr h4
   rw [if_neg h3,hb4]
   show aC.j0 (5999999 + 1) _ _ _ _ _ _ _ _ _ _ _ _ _=_
   rw [aC.j0,if_neg bL]
   exact Pc 5999999 aq (qP ys w ++ lM x) (au (w ++ lM x)) (by rw [br,List.length_append,List.length_append,Vv]) (by rw [O8 w (qP ys w) x hwu VZ apO];exact hp 5999999 aq) hRl hPl
  ·have hvb:pP v:=by unfold pP;omega
   obtain ⟨g1,g2⟩:=sV v
   have acN:∀ p,p∈P→p.f0.size < 4611686018427387904∧p.f1.size < 4611686018427387904:=fun p hp=>by obtain ⟨z0,z1⟩:=hPs p hp;omega
   have hXl:=I6 ys 3000000 P hok acN
   rw [List.length_cons,List.length_append,List.length_append] at hL2
   obtain ⟨w',r',s1,s2,s3,s4,s5,s6⟩:=EI ys (iE v) (fB v)
   have Ek:=(s6 32 (.inl rfl)).1 VZ
   obtain ⟨T,hTe⟩:∃ T,w' ++ 32 :: (r' ++ (t ++ zA (P.map (oG ys))))=T:=⟨_,rfl⟩
   have hTl:T.length=(au (iE v ++ 32 :: (fB v ++ (t ++ jf P)))).size:=by
    rw [← hTe,br]
    simp only [List.length_append,List.length_cons]
    omega
   have hTp:∀ k,3001100≤k→ak.f k (au T)=some (v,⟨#[]⟩,n,R,lo,dom,lit,P,0):=by
    intro k hk
    have hne:r' ++ (t ++ zA (P.map (oG ys)))≠ []:=by
     intro e
     have:=congrArg List.length e
     rw [List.length_append,List.length_append,List.length_nil] at this
     have:=ag.ne
     omega
    have e1:=O8 (iE v) w' (r' ++ (t ++ zA (P.map (oG ys)))) s4 VZ Ek k
    rw [Dd hne] at e1
    rw [← hTe,e1,uq hvb _ k (by simp only [List.length_append];omega)]
    have hpd:=Pb ag v r' (zA (P.map (oG ys))) s3 (by rw [s5,g1]) k aq (O7 ys k P (fun p hp=>Iu aq (hok p hp)) acN aq) aq
    rcases Zb with rfl|rfl
    ·rw [(wA k _ true).2.2.1 rfl]
     unfold ak.G6
     rw [show (⟨#[70,82,79,77,58]⟩:ByteArray)=au (fB 3) from rfl,hpd]
     simp only [Option.bind_some,if_true]
     rcases pa rfl with rfl|hd
     ·rw [if_pos rfl]
      rfl
     ·rw [hd,if_neg (bL: ¬ false=true)]
      split<;>rfl
    ·rw [(wA k _ true).2.2.2.1 rfl]
     unfold ak.G7
     rw [show (⟨#[84,79,58]⟩:ByteArray)=au (fB 4) from rfl,hpd]
     simp only [Option.bind_some,if_true]
     rw [pb rfl,if_neg bL]
     rfl
   have hj1:∀ A:List UInt8,A=32 :: fB v→aC.j1 5999999 ys (au (iE v ++ 32 :: (fB v ++ (t ++ jf P)))) (au (iE v)) (au A) v ⟨#[]⟩ n R lo dom lit P=some true:=by
    rintro A rfl
    show aC.j1 (5999998 + 1) _ _ _ _ _ _ _ _ _ _ _ _=_
    rw [aC.j1,ag.pr 5999998 aq]
    simp only [Option.bind_some,if_true]
    rw [br,br,if_pos uy,iM,Iy ys _ J8 aq]
    simp only [Option.bind_some]
    rw [s1,br,br,if_pos J8,iM]
    exact Iz ys hy _ T hTl (by rw [hTl,br];exact hL) v ⟨#[]⟩ n R lo dom lit P hRl hPl hTp 5999998 0 _ aq (Nat.zero_le _) (by rw [List.drop_zero,← hTe];simp)
   rcases Zb with rfl|rfl
   ·rw [if_pos rfl]
    show aC.j0 (5999999 + 1) _ _ _ _ _ _ _ _ _ _ _ _ _=_
    rw [aC.j0,if_pos rfl,if_pos rfl]
    exact hj1 [32,70,82,79,77,58] rfl
   ·rw [if_neg bL]
    show aC.j0 (5999999 + 1) _ _ _ _ _ _ _ _ _ _ _ _ _=_
    rw [aC.j0,if_pos bL,if_neg bL]
    exact hj1 [32,84,79,58] rfl
end Go.Proofs.YtokpnfljjjjikaaGreatDoor.jk
