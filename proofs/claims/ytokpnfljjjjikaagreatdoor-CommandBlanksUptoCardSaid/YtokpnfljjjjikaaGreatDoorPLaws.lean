import Derived.Test.YtokpnfljjjjikaaGreatDoorQCbx21
namespace Go.Proofs.YtokpnfljjjjikaaGreatDoor.jo
open Go.RowKit Go.Proofs.YtokpnfljjjjikaaGreatDoor Go.Proofs.YtokpnfljjjjikaaGreatDoor.nK Go.Proofs.aj.bQ Go.Proofs.aj.cM
def rest (s:ByteArray) (p:Nat):List UInt8:=s.data.toList.drop p
theorem gz (s:ByteArray) (p:Nat):(rest s p).length=s.size - p:=by
 unfold rest
 rw [List.length_drop,dh]
theorem iR (s:ByteArray) (p n:Nat):rest s (p + n)=(rest s p).drop n:=by
 unfold rest
 rw [List.drop_drop]
theorem oP {s:ByteArray} {p:Nat} {b:UInt8} {l:List UInt8} (h:rest s p=b :: l):p < s.size∧bt s (p:Int)=(b.toNat:Int)∧rest s (p + 1)=l:=by
 have hlen:=gz s p
 rw [h] at hlen
 have hp:p < s.size:=by simp at hlen;omega
 refine ⟨hp,?_,?_⟩
 ·have h0:(rest s p)[0]? =some b:=by rw [h];rfl
  unfold rest at h0
  rw [List.getElem?_drop] at h0
  unfold bt
  have hp':((p:Int)).toNat < s.size:=by omega
  rw [dif_pos hp']
  have h1:s[((p:Int)).toNat]'hp'=b:=by
   have h2:s.data.toList[p]? =some b:=by simpa using h0
   rw [List.getElem?_eq_getElem (by rw [dh];exact hp)] at h2
   have h3:=Option.some.inj h2
   rw [← h3]
   simp [ByteArray.getElem_eq_getElem_data]
  rw [h1]
 ·rw [iR,h]
  rfl
theorem rY {s:ByteArray} {p:Nat} (h:rest s p= []):s.size≤p:=by
 have hlen:=gz s p
 rw [h] at hlen
 simp at hlen
 omega
theorem kC (s:ByteArray) (p q:Nat) (_h:p≤q):s.extract p q=au ((rest s p).take (q - p)):=by
 apply ByteArray.ext
 rw [← Array.toList_inj]
 simp [au,rest]
theorem mZ {α:Type} (P:α→Bool):∀ l:List α,l.take (l.takeWhile P).length=l.takeWhile P
 | []=>rfl
 |b :: l=>by
  by_cases hb:P b=true
  ·simp [hb,mZ P l]
  ·simp [hb]
theorem rz (n:Nat) (h:n < 4611686018427387904):wrap64 ((n:Int) + 1)=((n + 1:Nat):Int):=by unfold wrap64;omega
def cN (c:UInt8):List UInt8→Bool
 | []=>false
 |b :: _ =>b == c
theorem nG (s:ByteArray) (p:Nat) (c:UInt8) (ci:Int) (hc:ci=(c.toNat:Int)) (hs:s.size < 4611686018427387904):
 bf.f s (p:Int) ci=some (cN c (rest s p),s,(((if cN c (rest s p)=true then p + 1 else p):Nat):Int)):=by
 subst hc
 unfold bf.f
 cases hr:rest s p with
 |nil=>
  have:=rY hr
  rw [if_neg aq]
  rfl
 |cons b l=>
  obtain ⟨h1,h2,_⟩:=oP hr
  rw [if_pos aq,if_pos aq,h2]
  by_cases hb:b=c
  ·subst hb
   rw [if_pos rfl,rz p aq]
   simp [cN]
  ·rw [if_neg (by intro h;exact hb (UInt8.toNat_inj.mp aq))]
   simp [cN,hb]
def Sg:List UInt8→UInt8
 | []=>0
 |b :: _ =>b
theorem Sh (s:ByteArray) (p:Nat):cS.f s (p:Int)=some (((Sg (rest s p)).toNat:Int),s,(p:Int)):=by
 unfold cS.f
 cases hr:rest s p with
 |nil=>
  have:=rY hr
  rw [if_neg aq]
  rfl
 |cons b l=>
  obtain ⟨h1,h2,_⟩:=oP hr
  rw [if_pos aq,if_pos aq,h2]
  rfl
theorem fA {Q:UInt8→Prop} (h:∀ n,n < 256→Q (UInt8.ofNat n)) (b:UInt8):Q b:=by
 have:=h b.toNat (UInt8.toNat_lt b)
 rwa [UInt8.ofNat_toNat] at this
def mM (b:UInt8):Bool:=(eI.f (b.toNat:Int)).getD false
theorem Y9 (b:UInt8):eI.f (b.toNat:Int)=some (mM b):=by
 unfold mM
 have h:(eI.f (b.toNat:Int)).isSome=true:=by
  have h2:∀ n,n < 256→(eI.f ((n:Nat):Int)).isSome=true:=by decide +kernel
  exact h2 _ (UInt8.toNat_lt b)
 cases hf:eI.f (b.toNat:Int) with
 |none=>rw [hf] at h;cases h
 |some x=>rfl
def j6 (b:UInt8):Bool:=(iF.f (b.toNat:Int)).getD false
theorem VV (b:UInt8):iF.f (b.toNat:Int)=some (j6 b):=by
 unfold j6
 have h:(iF.f (b.toNat:Int)).isSome=true:=by
  have h2:∀ n,n < 256→(iF.f ((n:Nat):Int)).isSome=true:=by decide +kernel
  exact h2 _ (UInt8.toNat_lt b)
 cases hf:iF.f (b.toNat:Int) with
 |none=>rw [hf] at h;cases h
 |some x=>rfl
def jq (b:UInt8):Bool:=b != 93
theorem VW (b:UInt8):fZ.f (b.toNat:Int)=some (jq b):=by
 unfold fZ.f jq
 congr 1
 by_cases hb:b=93
 ·subst hb;rfl
 ·have: ¬ ((b.toNat:Int)=93):=by
   intro h
   exact hb (UInt8.toNat_inj.mp (by simpa using (aq:b.toNat=93)))
  rw [bne_iff_ne.mpr this,bne_iff_ne.mpr hb]
theorem Si (s:ByteArray) (hs:s.size < 4611686018427387904) (a:Nat):∀ (k p:Nat),(rest s p).length < k→a≤p→p≤s.size→
 aK.l0 k (a:Int) s (p:Int)=some (s.extract a (p + ((rest s p).takeWhile mM).length),decide (a < p + ((rest s p).takeWhile mM).length),s,((p + ((rest s p).takeWhile mM).length:Nat):Int))
 | 0,p,h,_,_ =>absurd h (Nat.not_lt_zero _)
 |k + 1,p,h,ha,hp=>by
  unfold aK.l0
  cases hr:rest s p with
  |nil=>
   have:=rY hr
   rw [if_neg aq,if_pos aq,if_pos aq,if_pos aq]
   simp
   try exact decide_eq_decide.mpr Iff.rfl
  |cons c l=>
   obtain ⟨h1,h2,h3⟩:=oP hr
   rw [if_pos aq,if_pos aq,h2,Y9]
   simp only [Option.bind_some]
   by_cases hb:mM c=true
   ·rw [if_pos hb,rz p aq,Si s hs a k (p + 1) DC aq aq,h3]
    have e:p + 1 + (l.takeWhile mM).length=p + ((c :: l).takeWhile mM).length:=by simp [hb];omega
    rw [e]
   ·rw [if_neg hb,if_pos aq,if_pos aq,if_pos aq]
    simp [hb]
theorem abW (s:ByteArray) (hs:s.size < 4611686018427387904) (k p:Nat) (hk:(rest s p).length < k) (hp:p≤s.size):
 aK.f k s (p:Int)=some (au ((rest s p).takeWhile mM),decide (0 < ((rest s p).takeWhile mM).length),s,((p + ((rest s p).takeWhile mM).length:Nat):Int)):=by
 unfold aK.f
 rw [Si s hs p k p hk (Nat.le_refl _) hp,kC _ _ _ aq,Nat.add_sub_cancel_left,mZ]
 congr 2
 simp
theorem MK (s:ByteArray) (hs:s.size < 4611686018427387904) (a:Nat):∀ (k p:Nat),(rest s p).length < k→a≤p→p≤s.size→
 bq.l0 k (a:Int) s (p:Int)=some (s.extract a (p + ((rest s p).takeWhile j6).length),decide (a < p + ((rest s p).takeWhile j6).length),s,((p + ((rest s p).takeWhile j6).length:Nat):Int))
 | 0,p,h,_,_ =>absurd h (Nat.not_lt_zero _)
 |k + 1,p,h,ha,hp=>by
  unfold bq.l0
  cases hr:rest s p with
  |nil=>
   have:=rY hr
   rw [if_neg aq,if_pos aq,if_pos aq,if_pos aq]
   simp
   try exact decide_eq_decide.mpr Iff.rfl
  |cons c l=>
   obtain ⟨h1,h2,h3⟩:=oP hr
   rw [if_pos aq,if_pos aq,h2,VV]
   simp only [Option.bind_some]
   by_cases hb:j6 c=true
   ·rw [if_pos hb,rz p aq,MK s hs a k (p + 1) DC aq aq,h3]
    have e:p + 1 + (l.takeWhile j6).length=p + ((c :: l).takeWhile j6).length:=by simp [hb];omega
    rw [e]
   ·rw [if_neg hb,if_pos aq,if_pos aq,if_pos aq]
    simp [hb]
theorem Za (s:ByteArray) (hs:s.size < 4611686018427387904) (k p:Nat) (hk:(rest s p).length < k) (hp:p≤s.size):
 bq.f k s (p:Int)=some (au ((rest s p).takeWhile j6),decide (0 < ((rest s p).takeWhile j6).length),s,((p + ((rest s p).takeWhile j6).length:Nat):Int)):=by
 unfold bq.f
 rw [MK s hs p k p hk (Nat.le_refl _) hp,kC _ _ _ aq,Nat.add_sub_cancel_left,mZ]
 congr 2
 simp
theorem ML (s:ByteArray) (hs:s.size < 4611686018427387904) (a:Nat):∀ (k p:Nat),(rest s p).length < k→a≤p→p≤s.size→
 aJ.l0 k (a:Int) s (p:Int)=some (s.extract a (p + ((rest s p).takeWhile jq).length),decide (a < p + ((rest s p).takeWhile jq).length),s,((p + ((rest s p).takeWhile jq).length:Nat):Int))
 | 0,p,h,_,_ =>absurd h (Nat.not_lt_zero _)
 |k + 1,p,h,ha,hp=>by
  unfold aJ.l0
  cases hr:rest s p with
  |nil=>
   have:=rY hr
   rw [if_neg aq,if_pos aq,if_pos aq,if_pos aq]
   simp
   try exact decide_eq_decide.mpr Iff.rfl
  |cons c l=>
   obtain ⟨h1,h2,h3⟩:=oP hr
   rw [if_pos aq,if_pos aq,h2,VW]
   simp only [Option.bind_some]
   by_cases hb:jq c=true
   ·rw [if_pos hb,rz p aq,ML s hs a k (p + 1) DC aq aq,h3]
    have e:p + 1 + (l.takeWhile jq).length=p + ((c :: l).takeWhile jq).length:=by simp [hb];omega
    rw [e]
   ·rw [if_neg hb,if_pos aq,if_pos aq,if_pos aq]
    simp [hb]
theorem Zb (s:ByteArray) (hs:s.size < 4611686018427387904) (k p:Nat) (hk:(rest s p).length < k) (hp:p≤s.size):
 aJ.f k s (p:Int)=some (au ((rest s p).takeWhile jq),decide (0 < ((rest s p).takeWhile jq).length),s,((p + ((rest s p).takeWhile jq).length:Nat):Int)):=by
 unfold aJ.f
 rw [ML s hs p k p hk (Nat.le_refl _) hp,kC _ _ _ aq,Nat.add_sub_cancel_left,mZ]
 congr 2
 simp
theorem Sj (l:List UInt8) (i:Nat) (h:i < l.length):bt (au l) (i:Int)=((l.getD i 0).toNat:Int):=by
 unfold bt
 have h':((i:Int)).toNat < (au l).size:=by show _ < l.length;omega
 rw [dif_pos h']
 have:(au l)[((i:Int)).toNat]'(h')=l.getD i 0:=by
  simp only [Int.toNat_natCast]
  rw [List.getD_eq_getElem?_getD,List.getElem?_eq_getElem h]
  rfl
 rw [this]
theorem bD (l:List UInt8):(au l).size=l.length:=rfl
theorem nH {α:Type} (P:α→Bool) (l:List α):(l.takeWhile P).length≤l.length:=(List.takeWhile_sublist P).length_le
def eT (l:List UInt8):Bool×Nat:=
 (match l.takeWhile mM with
  | []=>false
  |c :: t=>c != 45 && (c :: t).getD t.length 0 != 45,(l.takeWhile mM).length)
theorem toNat_eq {a b:UInt8} (h:(a.toNat:Int)=(b.toNat:Int)):a=b:=UInt8.toNat_inj.mp aq
theorem label_eq (s:ByteArray) (hs:s.size < 4611686018427387904) (k p:Nat) (hk:(rest s p).length < k) (hp:p≤s.size):
 eY.f k s (p:Int)=some ((eT (rest s p)).1,s,((p + (eT (rest s p)).2:Nat):Int)):=by
 unfold eY.f eT
 rw [abW s hs k p hk hp]
 simp only [Option.bind_some]
 have hle:=nH mM (rest s p)
 have hrl:=gz s p
 generalize (rest s p).takeWhile mM=w at hle ⊢
 cases w with
 |nil=>simp
 |cons c t=>
  have h0:bt (au (c :: t)) 0=(c.toNat:Int):=Sj (c :: t) 0 aV
  have e1:wrap64 (((au (c :: t)).size:Int) - 1)=(t.length:Int):=by
   rw [bD]
   unfold wrap64
   simp at hle ⊢
   omega
  have h1:bt (au (c :: t)) (t.length:Int)=(((c :: t).getD t.length 0).toNat:Int):=Sj (c :: t) t.length aV
  rw [if_pos aV,if_pos (by rw [bD];first|(simp;done)|(simp;omega)),h0,e1,h1]
  by_cases hc:c=45
  ·subst hc
   rw [if_pos (show ((UInt8.toNat 45:Nat):Int)=45 from rfl)]
   simp
  ·rw [if_neg (show ¬ (c.toNat:Int)=45 from fun h=>hc (toNat_eq (b:=45) h)),if_pos aq,if_pos (by rw [bD];first|(simp;done)|(simp;omega))]
   have:((((c :: t).getD t.length 0).toNat:Int) != 45)=((c :: t).getD t.length 0 != 45):=by
    by_cases hl:(c :: t).getD t.length 0=45
    ·rw [hl];rfl
    ·rw [bne_iff_ne.mpr hl,bne_iff_ne.mpr (show (((c :: t).getD t.length 0).toNat:Int)≠45 from fun h=>hl (toNat_eq (b:=45) h))]
   rw [this]
   simp [hc]
def gV (l:List UInt8):Bool×Nat:=(decide (0 < (l.takeWhile j6).length),(l.takeWhile j6).length)
theorem VX (s:ByteArray) (hs:s.size < 4611686018427387904) (k p:Nat) (hk:(rest s p).length < k) (hp:p≤s.size):
 fF.f k s (p:Int)=some ((gV (rest s p)).1,s,((p + (gV (rest s p)).2:Nat):Int)):=by
 unfold fF.f gV
 rw [Za s hs k p hk hp]
 rfl
theorem yQ (l:List UInt8):(eT l).2≤l.length:=nH _ _
theorem xh (l:List UInt8):(gV l).2≤l.length:=nH _ _
def Fm (part:List UInt8→Bool×Nat) (c:UInt8):Nat→List UInt8→Bool×Nat
 | 0,_ =>(false,0)
 |n + 1,l=>if (part l).1=true then (if cN c (l.drop (part l).2)=true then ((Fm part c n (l.drop ((part l).2 + 1))).1,(part l).2 + 1 + (Fm part c n (l.drop ((part l).2 + 1))).2) else (true,(part l).2)) else (false,(part l).2)
def fu (part:List UInt8→Bool×Nat) (c:UInt8) (l:List UInt8):Bool×Nat:=Fm part c (l.length + 1) l
theorem gq {c:UInt8} {l:List UInt8} {n:Nat} (h:cN c (l.drop n)=true):n < l.length:=by
 rcases Nat.lt_or_ge n l.length with h1|h1
 ·exact h1
 ·rw [List.drop_of_length_le h1] at h
  cases h
theorem GY (part:List UInt8→Bool×Nat) (c:UInt8):∀ (n m:Nat) (l:List UInt8),l.length < n→l.length < m→Fm part c n l=Fm part c m l
 | 0,_,_,h,_ =>absurd h (Nat.not_lt_zero _)
 |_,0,_,_,h=>absurd h (Nat.not_lt_zero _)
 |n + 1,m + 1,l,h1,h2=>by
  unfold Fm
  by_cases hp:(part l).1=true
  ·rw [if_pos hp,if_pos hp]
   by_cases hn:cN c (l.drop (part l).2)=true
   ·have:=gq hn
    rw [if_pos hn,if_pos hn,GY part c n m _ kW kW]
   ·rw [if_neg hn,if_neg hn]
  ·rw [if_neg hp,if_neg hp]
theorem kU (part:List UInt8→Bool×Nat) (c:UInt8) (l:List UInt8):
 fu part c l=if (part l).1=true then (if cN c (l.drop (part l).2)=true then ((fu part c (l.drop ((part l).2 + 1))).1,(part l).2 + 1 + (fu part c (l.drop ((part l).2 + 1))).2) else (true,(part l).2)) else (false,(part l).2):=by
 unfold fu
 rw [Fm]
 by_cases hp:(part l).1=true
 ·rw [if_pos hp,if_pos hp]
  by_cases hn:cN c (l.drop (part l).2)=true
  ·have:=gq hn
   rw [if_pos hn,if_pos hn,GY part c l.length ((l.drop ((part l).2 + 1)).length + 1) _ kW aq]
  ·rw [if_neg hn,if_neg hn]
 ·rw [if_neg hp,if_neg hp]
theorem uk (part:List UInt8→Bool×Nat) (c:UInt8) (hpart:∀ l,(part l).2≤l.length):∀ (n:Nat) (l:List UInt8),l.length < n→(fu part c l).2≤l.length
 | 0,_,h=>absurd h (Nat.not_lt_zero _)
 |n + 1,l,h=>by
  rw [kU]
  have hl:=hpart l
  by_cases hp:(part l).1=true
  ·rw [if_pos hp]
   by_cases hn:cN c (l.drop (part l).2)=true
   ·have h1:=gq hn
    have h2:=uk part c hpart n (l.drop ((part l).2 + 1)) kW
    rw [List.length_drop] at h2
    rw [if_pos hn]
    show _ + 1 + _≤_
    omega
   ·rw [if_neg hn]
    exact hl
  ·rw [if_neg hp]
   exact hl
theorem Fp (s:ByteArray) (hs:s.size < 4611686018427387904):∀ (k p:Nat),(rest s p).length + 1 < k→p≤s.size→
 aN.l0 k 46 s (p:Int)=some ((fu eT 46 (rest s p)).1,s,((p + (fu eT 46 (rest s p)).2:Nat):Int))
 | 0,p,h,_ =>absurd h aq
 |k + 1,p,h,hp=>by
  have hle:=yQ (rest s p)
  have hrl:=gz s p
  unfold aN.l0
  rw [label_eq s hs k p aq hp,kU]
  simp only [Option.bind_some]
  by_cases h1:(eT (rest s p)).1=true
  ·rw [if_pos h1,if_pos h1,nG s _ 46 46 rfl hs]
   simp only [Option.bind_some,iR]
   by_cases h2:cN 46 ((rest s p).drop (eT (rest s p)).2)=true
   ·have h3:=gq h2
    rw [if_pos h2,if_pos h2,if_pos h2]
    have h4:=Fp s hs k (p + (eT (rest s p)).2 + 1) oW aq
    rw [h4,Nat.add_assoc p,iR]
    congr 3
    omega
   ·rw [if_neg h2,if_neg h2,if_neg h2]
  ·rw [if_neg h1,if_neg h1]
theorem Ce (s:ByteArray) (hs:s.size < 4611686018427387904):∀ (k p:Nat),(rest s p).length + 1 < k→p≤s.size→
 aH.l0 k 46 s (p:Int)=some ((fu gV 46 (rest s p)).1,s,((p + (fu gV 46 (rest s p)).2:Nat):Int))
 | 0,p,h,_ =>absurd h aq
 |k + 1,p,h,hp=>by
  have hle:=xh (rest s p)
  have hrl:=gz s p
  unfold aH.l0
  rw [VX s hs k p aq hp,kU]
  simp only [Option.bind_some]
  by_cases h1:(gV (rest s p)).1=true
  ·rw [if_pos h1,if_pos h1,nG s _ 46 46 rfl hs]
   simp only [Option.bind_some,iR]
   by_cases h2:cN 46 ((rest s p).drop (gV (rest s p)).2)=true
   ·have h3:=gq h2
    rw [if_pos h2,if_pos h2,if_pos h2]
    have h4:=Ce s hs k (p + (gV (rest s p)).2 + 1) oW aq
    rw [h4,Nat.add_assoc p,iR]
    congr 3
    omega
   ·rw [if_neg h2,if_neg h2,if_neg h2]
  ·rw [if_neg h1,if_neg h1]
def oD (l:List UInt8):Bool×ByteArray×Nat:=((fu eT 46 l).1,cz.g (au (l.take (fu eT 46 l).2)),(fu eT 46 l).2)
theorem Bv (l:List UInt8):(oD l).2.2≤l.length:=uk eT 46 yQ _ l (Nat.lt_succ_self _)
theorem domain_eq (s:ByteArray) (hs:s.size < 4611686018427387904) (k p:Nat) (hk:(rest s p).length + 1 < k) (hp:p≤s.size):
 cg.f k s (p:Int)=some ((oD (rest s p)).2.1,(oD (rest s p)).1,s,((p + (oD (rest s p)).2.2:Nat):Int)):=by
 have hle:=Bv (rest s p)
 have hrl:=gz s p
 unfold oD at hle ⊢
 simp only at hle ⊢
 unfold cg.f aN.f
 rw [Fp s hs k p hk hp]
 simp only [Option.bind_some]
 rw [if_pos aq,if_pos aq,if_pos aq]
 have e:s.extract ((p:Int)).toNat (((p + (fu eT 46 (rest s p)).2:Nat):Int)).toNat=au ((rest s p).take (fu eT 46 (rest s p)).2):=by
  rw [Int.toNat_natCast,Int.toNat_natCast,kC _ _ _ aq,Nat.add_sub_cancel_left]
 rw [e]
 have hf:cz.f (au ((rest s p).take (fu eT 46 (rest s p)).2))=some (cz.g (au ((rest s p).take (fu eT 46 (rest s p)).2))):=by
  unfold cz.f
  rw [if_pos]
  rw [bD,List.length_take]
  omega
 rw [hf]
 rfl
def kj:List UInt8→List UInt8→Bool×List UInt8×Nat
 | [],_ =>(false,[],0)
 |b :: l,acc=>
  if b=34 then (true,acc,1)
  else if b=92 then
   match l with
   | []=>(false,[],2)
   |c :: l'=>if c < 32∨126 < c then (false,[],2) else ((kj l' (acc ++ [c])).1,(kj l' (acc ++ [c])).2.1,(kj l' (acc ++ [c])).2.2 + 2)
  else if b < 32∨126 < b then (false,[],1)
  else ((kj l (acc ++ [b])).1,(kj l (acc ++ [b])).2.1,(kj l (acc ++ [b])).2.2 + 1)
def oF (l:List UInt8):List Int:=l.map fun b=>(b.toNat:Int)
theorem MM (l:List UInt8):strOfNums (oF l)=au l:=by
 unfold strOfNums oF au
 congr 1
 rw [List.map_map,← Array.toList_inj]
 show List.map _ l=l
 rw [show ((fun n:Int=>UInt8.ofNat n.toNat) ∘fun b:UInt8=>(b.toNat:Int))=id from by funext b;simp]
 simp
theorem ltI {b c:UInt8}:((b.toNat:Int) < (c.toNat:Int))↔b < c:=by
 rw [UInt8.lt_iff_toNat_lt]
 omega
theorem O8 {b:UInt8}:((b.toNat:Int) < 32)↔b < 32:=ltI (c:=32)
theorem Fq {b:UInt8}:((b.toNat:Int) > 126)↔126 < b:=ltI (b:=126)
theorem Fu (s:ByteArray) (hs:s.size < 70368744177664):∀ (k p:Nat) (acc:List UInt8),(rest s p).length + 1 < k→p≤s.size→acc.length + (rest s p).length≤s.size→
 cj.l0 k (oF acc) s (p:Int)=some (au (kj (rest s p) acc).2.1,(kj (rest s p) acc).1,s,((p + (kj (rest s p) acc).2.2:Nat):Int))
 | 0,p,acc,h,_,_ =>absurd h aq
 |k + 1,p,acc,h,hp,ha=>by
  unfold cj.l0
  have hrl:=gz s p
  cases hr:rest s p with
  |nil=>
   have:=rY hr
   rw [if_neg aq]
   rfl
  |cons b l=>
   obtain ⟨h1,h2,h3⟩:=oP hr
   have hlen:l.length + 1=s.size - p:=by rw [hr] at hrl;simpa using hrl
   rw [if_pos aq,if_pos aq,h2]
   unfold kj
   by_cases hq:b=34
   ·subst hq
    rw [if_pos rfl,if_pos (show ((UInt8.toNat 34:Nat):Int)=34 from rfl),MM,rz p aq]
   ·rw [if_neg hq,if_neg (show ¬ (b.toNat:Int)=34 from fun h=>hq (toNat_eq (b:=34) h))]
    by_cases hb:b=92
    ·subst hb
     rw [if_pos rfl,if_pos (show ((UInt8.toNat 92:Nat):Int)=92 from rfl),rz p aq,Sh,h3]
     simp only [Option.bind_some]
     cases l with
     |nil=>
      have e:wrap64 (((p + 1:Nat):Int) + 1)=((p + 2:Nat):Int):=by unfold wrap64;omega
      rw [if_pos bG,e]
      rfl
     |cons c l'=>
      have e:wrap64 (((p + 1:Nat):Int) + 1)=((p + 2:Nat):Int):=by unfold wrap64;omega
      rw [e]
      show (if ((c.toNat:Int) < 32) then _ else if ((c.toNat:Int) > 126) then _ else _)=_
      by_cases hc:c < 32
      ·rw [if_pos (O8.mpr hc)]
       simp only [if_pos (Or.inl hc:c < 32∨126 < c)]
       rfl
      ·rw [if_neg (fun h=>hc (O8.mp h))]
       by_cases hd: 126 < c
       ·rw [if_pos (Fq.mpr hd)]
        simp only [if_pos (Or.inr hd:c < 32∨126 < c)]
        rfl
       ·rw [if_neg (fun h=>hd (Fq.mp h)),if_pos (by simp [oF];rw [hr] at ha;simp at ha;omega)]
        have hcd: ¬ (c < 32∨126 < c):=fun h=>h.elim hc hd
        simp only [if_neg hcd]
        have hr2:rest s (p + 2)=l':=by rw [iR,hr];rfl
        have hn:oF acc ++ [(c.toNat:Int)]=oF (acc ++ [c]):=by simp [oF]
        have:=Fu s hs k (p + 2) (acc ++ [c]) (by rw [hr2];simp at hlen;rw [hr] at h;simp at h;omega) (by simp at hlen;omega) (by rw [hr2];rw [hr] at ha;simp at ha ⊢;omega)
        rw [show Sg (c :: l')=c from rfl,hn,this,hr2,Nat.add_assoc,Nat.add_comm 2]
    ·rw [if_neg hb,if_neg (show ¬ (b.toNat:Int)=92 from fun h=>hb (toNat_eq (b:=92) h)),rz p aq]
     by_cases hc:b < 32
     ·rw [if_pos (O8.mpr hc),if_pos (Or.inl hc)]
      rfl
     ·rw [if_neg (fun h=>hc (O8.mp h))]
      by_cases hd: 126 < b
      ·rw [if_pos (Fq.mpr hd),if_pos (Or.inr hd)]
       rfl
      ·rw [if_neg (fun h=>hd (Fq.mp h)),if_pos (by simp [oF];rw [hr] at ha;simp at ha;omega),if_neg (fun h=>h.elim hc hd)]
       have hn:oF acc ++ [(b.toNat:Int)]=oF (acc ++ [b]):=by simp [oF]
       have:=Fu s hs k (p + 1) (acc ++ [b]) DC aq (by rw [h3];rw [hr] at ha;simp at ha ⊢;omega)
       rw [hn,this,h3,Nat.add_assoc,Nat.add_comm 1]
theorem Fv:∀ (n:Nat) (l acc:List UInt8),l.length < n→(kj l acc).1=true→(kj l acc).2.2≤l.length
 | 0,_,_,h,_ =>absurd h (Nat.not_lt_zero _)
 |n + 1,l,acc,h,ho=>by
  cases l with
  |nil=>unfold kj at ho;cases ho
  |cons b l=>
   unfold kj at ho ⊢
   by_cases hq:b=34
   ·rw [if_pos hq] at ho ⊢
    simp
   ·rw [if_neg hq] at ho ⊢
    by_cases hb:b=92
    ·rw [if_pos hb] at ho ⊢
     cases l with
     |nil=>cases ho
     |cons c l'=>
      by_cases hc:c < 32∨126 < c
      ·simp only [if_pos hc] at ho
       cases ho
      ·simp only [if_neg hc] at ho ⊢
       have:=Fv n l' (acc ++ [c]) xA ho
       simp
       omega
    ·rw [if_neg hb] at ho ⊢
     by_cases hc:b < 32∨126 < b
     ·rw [if_pos hc] at ho
      cases ho
     ·rw [if_neg hc] at ho ⊢
      have:=Fv n l (acc ++ [b]) xA ho
      simp
      omega
def eN (l:List UInt8):Bool×ByteArray×Nat:=
 if cN 34 l=true then ((kj (l.drop 1) []).1,au (kj (l.drop 1) []).2.1,1 + (kj (l.drop 1) []).2.2)
 else ((fu gV 46 l).1,au (l.take (fu gV 46 l).2),(fu gV 46 l).2)
theorem oG {c:UInt8} {l:List UInt8} (h:cN c l=true): 0 < l.length:=by
 cases l with
 |nil=>cases h
 |cons _ _ =>simp
theorem Th (l:List UInt8) (h:(eN l).1=true):(eN l).2.2≤l.length:=by
 unfold eN at h ⊢
 by_cases hq:cN 34 l=true
 ·rw [if_pos hq] at h ⊢
  have h1:=oG hq
  have h2:=Fv _ (l.drop 1) [] (Nat.lt_succ_self _) h
  rw [List.length_drop] at h2
  show 1 + _≤_
  omega
 ·rw [if_neg hq]
  exact uk gV 46 xh _ l (Nat.lt_succ_self _)
theorem VY (s:ByteArray) (hs:s.size < 70368744177664) (k p:Nat) (hk:(rest s p).length + 1 < k) (hp:p≤s.size):
 cj.f k s (p:Int)=some ((eN (rest s p)).2.1,(eN (rest s p)).1,s,((p + (eN (rest s p)).2.2:Nat):Int)):=by
 have hrl:=gz s p
 unfold cj.f eN
 rw [nG s p 34 34 rfl aq]
 simp only [Option.bind_some]
 by_cases hq:cN 34 (rest s p)=true
 ·have h1:=oG hq
  have:=Fu s hs k (p + 1) [] oW aq (by rw [gz];simp)
  rw [if_pos hq,if_pos hq,if_pos hq]
  rw [show ([]:List Int)=oF [] from rfl,this,iR,Nat.add_assoc]
 ·rw [if_neg hq,if_neg hq,if_neg hq]
  have hle:=uk gV 46 xh _ (rest s p) (Nat.lt_succ_self _)
  unfold aH.f
  rw [Ce s aq k p hk hp]
  simp only [Option.bind_some]
  rw [if_pos aq,if_pos aq,if_pos aq,Int.toNat_natCast,Int.toNat_natCast,kC _ _ _ aq,Nat.add_sub_cancel_left]
theorem more {α:Type} {f:Nat→Option α} (hm:∀ k,cH (f k) (f (k + 1))) {k1 k2:Nat} (h:k1≤k2) {r:α} (hf:f k1=some r):f k2=some r:=by
 induction h with
 |refl=>exact hf
 |step _ ih=>exact hm _ _ ih
theorem Fw (k0:Nat) {xs:List ByteArray} (hf:∀ y,y∈xs→∀ k,k0≤k→∃ r,fY.f y=some r):∀ (k i:Nat),xs.length - i + k0 < k→i≤xs.length→xs.length < 4611686018427387904→∃ r,az.l0 k xs (xs.length:Int) (i:Int)=some r
 | 0,_,h,_,_ =>absurd h (Nat.not_lt_zero _)
 |k + 1,i,h,hi,hl=>by
  unfold az.l0
  by_cases hlt:i < xs.length
  ·rw [if_pos aq,if_pos aq,if_pos aq]
   have hrd:jZ ByteArray.empty xs (i:Int)=xs[i]:=by simp [jZ,hlt]
   obtain ⟨r,hr⟩:=hf xs[i] (List.getElem_mem hlt) k aq
   rw [hrd,hr]
   simp only [Option.bind_some]
   split
   ·exact ⟨_,rfl⟩
   ·rw [rz i aq]
    exact Fw k0 hf k (i + 1) aq aq hl
  ·rw [if_neg aq]
   exact ⟨_,rfl⟩
theorem MN (k0 k:Nat) {xs:List ByteArray} (hf:∀ y,y∈xs→∀ k,k0≤k→∃ r,fY.f y=some r) (hk:xs.length + k0 < k) (hl:xs.length < 4611686018427387904):∃ r,az.f k xs=some r:=Fw k0 hf k 0 aq (Nat.zero_le _) hl
theorem Bw (k0:Nat) {xs:List ByteArray} (hf:∀ y,y∈xs→∀ k,k0≤k→∃ r,jR.f y=some r):∀ (k i:Nat),xs.length - i + k0 < k→i≤xs.length→xs.length < 4611686018427387904→∃ r,aA.l0 k xs (xs.length:Int) (i:Int)=some r
 | 0,_,h,_,_ =>absurd h (Nat.not_lt_zero _)
 |k + 1,i,h,hi,hl=>by
  unfold aA.l0
  by_cases hlt:i < xs.length
  ·rw [if_pos aq,if_pos aq,if_pos aq]
   have hrd:jZ ByteArray.empty xs (i:Int)=xs[i]:=by simp [jZ,hlt]
   obtain ⟨r,hr⟩:=hf xs[i] (List.getElem_mem hlt) k aq
   rw [hrd,hr]
   simp only [Option.bind_some]
   split
   ·exact ⟨_,rfl⟩
   ·rw [rz i aq]
    exact Bw k0 hf k (i + 1) aq aq hl
  ·rw [if_neg aq]
   exact ⟨_,rfl⟩
theorem Gt (k0 k:Nat) {xs:List ByteArray} (hf:∀ y,y∈xs→∀ k,k0≤k→∃ r,jR.f y=some r) (hk:xs.length + k0 < k) (hl:xs.length < 4611686018427387904):∃ r,aA.f k xs=some r:=Bw k0 hf k 0 aq (Nat.zero_le _) hl
theorem Bx (k0:Nat) {xs:List ByteArray} (hf:∀ y,y∈xs→∀ k,k0≤k→∃ r,fQ.f k y=some r):∀ (k i:Nat),xs.length - i + k0 < k→i≤xs.length→xs.length < 4611686018427387904→∃ r,aD.l0 k xs (xs.length:Int) (i:Int)=some r
 | 0,_,h,_,_ =>absurd h (Nat.not_lt_zero _)
 |k + 1,i,h,hi,hl=>by
  unfold aD.l0
  by_cases hlt:i < xs.length
  ·rw [if_pos aq,if_pos aq,if_pos aq]
   have hrd:jZ ByteArray.empty xs (i:Int)=xs[i]:=by simp [jZ,hlt]
   obtain ⟨r,hr⟩:=hf xs[i] (List.getElem_mem hlt) k aq
   rw [hrd,hr]
   simp only [Option.bind_some]
   split
   ·exact ⟨_,rfl⟩
   ·rw [rz i aq]
    exact Bx k0 hf k (i + 1) aq aq hl
  ·rw [if_neg aq]
   exact ⟨_,rfl⟩
theorem Gu (k0 k:Nat) {xs:List ByteArray} (hf:∀ y,y∈xs→∀ k,k0≤k→∃ r,fQ.f k y=some r) (hk:xs.length + k0 < k) (hl:xs.length < 4611686018427387904):∃ r,aD.f k xs=some r:=Bx k0 hf k 0 aq (Nat.zero_le _) hl
theorem qg (x:ByteArray) (c:UInt8) (hx:x.size < 4294967281):strings_Split.f x ⟨#[c]⟩=some ((pieces c x.data.toList).map au):=by
 unfold strings_Split.f
 rw [show one? ⟨#[c]⟩=some c from rfl]
 simp only [if_pos hx]
theorem Fx (c:UInt8) (x:ByteArray):((pieces c x.data.toList).map au).length≤x.size + 1:=by
 rw [List.length_map,kZ]
 have:=List.count_le_length (a:=c) (l:=x.data.toList)
 rw [dh] at this
 omega
theorem CP (x:ByteArray) (hx:x.size < 4294967281):∃ r,eU.f x=some r:=by
 unfold eU.f
 rw [if_pos hx]
 exact ⟨_,rfl⟩
theorem VZ (x:ByteArray) (hx:x.size < 4294967281):∃ r,o8.f x=some r:=by
 unfold o8.f strings_Cut.f
 rw [if_pos hx]
 simp only [Option.bind_some]
 have h1:(au (Lib.cut x.data.toList [58,58]).1).size < 4294967281:=by
  show (Lib.cut x.data.toList [58,58]).1.length < _
  have:=dh x
  unfold Lib.cut
  split
  ·simp only [List.length_take];omega
  ·simp only;omega
 have h2:(au (Lib.cut x.data.toList [58,58]).2.1).size < 4294967281:=by
  show (Lib.cut x.data.toList [58,58]).2.1.length < _
  have:=dh x
  unfold Lib.cut
  split
  ·simp only [List.length_drop];omega
  ·simp only [List.length_nil];omega
 obtain ⟨a,ha⟩:=CP _ h1
 obtain ⟨b,hb⟩:=CP _ h2
 show ∃ r,((eU.f (au (Lib.cut x.data.toList [58,58]).1)).bind fun t151=>((eU.f (au (Lib.cut x.data.toList [58,58]).2.1)).bind fun t152=>_))=some r
 rw [ha,hb]
 simp only [Option.bind_some]
 split
 ·split
  ·split<;>exact ⟨_,rfl⟩
  ·exact ⟨_,rfl⟩
 ·exact ⟨_,rfl⟩
theorem Ti (x:ByteArray) (hx:x.size < 4294967281):∃ r,fY.f x=some r:=by
 unfold fY.f
 rw [if_pos aq]
 exact ⟨_,rfl⟩
theorem K4 (x:ByteArray) (hx:x.size < 4294967281) (k:Nat) (hk:x.size + 4 < k):∃ r,bW.f k x=some r:=by
 obtain ⟨k,rfl⟩:∃ k',k=k' + 1:=⟨k - 1,aq⟩
 have hj:∀ b,∃ r,bW.j0 (k + 1) x b=some r∨b=true∧x.size < 5:=by
  intro b
  rw [bW.j0]
  cases b with
  |true=>
   by_cases h5:x.size < 5
   ·exact ⟨true,.inr ⟨rfl,h5⟩⟩
   ·obtain ⟨r,hr⟩:=VZ (x.extract 5 x.size) (by rw [ByteArray.size_extract];omega)
    exact ⟨r,.inl (by rw [if_pos rfl,if_pos aq,hr];rfl)⟩
  |false=>
   rw [if_neg bG,qg x 46 hx]
   simp only [Option.bind_some]
   split
   ·have hn:=Fx 46 x
    obtain ⟨r,hr⟩:=MN 0 k (xs:=(pieces 46 x.data.toList).map au) (fun y hy _ _ =>Ti y (by have:=CK 46 x y hy;omega)) aq aq
    unfold bz.f
    rw [hr]
    exact ⟨_,.inl rfl⟩
   ·exact ⟨_,.inl rfl⟩
 unfold bW.f
 split
 ·rename_i h5
  rw [if_pos bG,if_pos aq]
  have hf:cz.f (x.extract 0 5)=some (cz.g (x.extract 0 5)):=by
   unfold cz.f
   rw [if_pos]
   rw [ByteArray.size_extract]
   omega
  rw [hf]
  simp only [Option.bind_some]
  obtain ⟨r,hr|⟨_,hr⟩⟩:=hj ((cz.g (x.extract 0 5)).toList == ([105,112,118,54,58]:List UInt8))
  ·exact ⟨r,hr⟩
  ·omega
 ·obtain ⟨r,hr|⟨hr,_⟩⟩:=hj false
  ·exact ⟨r,hr⟩
  ·cases hr
def O9 (w:ByteArray):Bool:=(bW.f (w.size + 5) w).getD false
theorem Pb (x:ByteArray) (hx:x.size < 4294967281) (k:Nat) (hk:x.size + 4 < k):bW.f k x=some (O9 x):=by
 obtain ⟨r,hr⟩:=K4 x hx (x.size + 5) aq
 have h1:O9 x=r:=by unfold O9;rw [hr];rfl
 rw [h1]
 exact kN (fun k=>bW.mono x k) aq hr
def lG (l:List UInt8):Bool×ByteArray×ByteArray×Bool×Nat:=
 if (eN l).1=true then
  if cN 64 (l.drop (eN l).2.2)=true then
   if cN 91 (l.drop ((eN l).2.2 + 1))=true then
    if cN 93 (l.drop ((eN l).2.2 + 2 + ((l.drop ((eN l).2.2 + 2)).takeWhile jq).length))=true then
     (O9 (au ((l.drop ((eN l).2.2 + 2)).takeWhile jq)),(eN l).2.1,cz.g (au ((l.drop ((eN l).2.2 + 2)).takeWhile jq)),true,(eN l).2.2 + 2 + ((l.drop ((eN l).2.2 + 2)).takeWhile jq).length + 1)
    else (false,(eN l).2.1,cz.g (au ((l.drop ((eN l).2.2 + 2)).takeWhile jq)),true,(eN l).2.2 + 2 + ((l.drop ((eN l).2.2 + 2)).takeWhile jq).length)
   else ((oD (l.drop ((eN l).2.2 + 1))).1,(eN l).2.1,(oD (l.drop ((eN l).2.2 + 1))).2.1,false,(eN l).2.2 + 1 + (oD (l.drop ((eN l).2.2 + 1))).2.2)
  else (false,⟨#[]⟩,⟨#[]⟩,false,(eN l).2.2)
 else (false,⟨#[]⟩,⟨#[]⟩,false,(eN l).2.2)
theorem GZ {c:UInt8} {s:ByteArray} {p:Nat} (h:cN c (rest s p)=true):p < s.size:=by
 have:=oG h
 rw [gz] at this
 omega
theorem abX (s:ByteArray) (hs:s.size < 4294967281) (k p:Nat) (hk:(rest s p).length + 6 < k) (hp:p≤s.size):
 cv.f k s (p:Int)=some ((lG (rest s p)).2.1,(lG (rest s p)).2.2.1,(lG (rest s p)).2.2.2.1,(lG (rest s p)).1,s,((p + (lG (rest s p)).2.2.2.2:Nat):Int)):=by
 obtain ⟨k,rfl⟩:∃ k',k=k' + 1:=⟨k - 1,aq⟩
 have hrl:=gz s p
 unfold cv.f lG
 rw [VY s aq (k + 1) p aq hp]
 simp only [Option.bind_some]
 by_cases h1:(eN (rest s p)).1=true
 ·have hle:=Th _ h1
  rw [if_pos h1,if_pos h1,nG s _ 64 64 rfl aq]
  simp only [Option.bind_some,iR]
  by_cases h2:cN 64 ((rest s p).drop (eN (rest s p)).2.2)=true
  ·have hl2:=GZ (by rw [iR];exact h2)
   rw [if_pos h2,if_pos h2,h2,cv.j0,if_neg bG,nG s _ 91 91 rfl aq]
   simp only [Option.bind_some]
   rw [Nat.add_assoc p,iR]
   by_cases h3:cN 91 ((rest s p).drop ((eN (rest s p)).2.2 + 1))=true
   ·have hl3:=GZ (by rw [iR];exact h3)
    rw [if_pos h3,if_pos h3,if_pos h3,Nat.add_assoc p,Zb s aq k _ oW aq,iR]
    simp only [Option.bind_some]
    have hw:=nH jq ((rest s p).drop ((eN (rest s p)).2.2 + 1 + 1))
    rw [List.length_drop] at hw
    have hf:cz.f (au (((rest s p).drop ((eN (rest s p)).2.2 + 1 + 1)).takeWhile jq))=some (cz.g (au (((rest s p).drop ((eN (rest s p)).2.2 + 1 + 1)).takeWhile jq))):=by
     unfold cz.f
     rw [if_pos]
     rw [bD]
     omega
    rw [hf]
    simp only [Option.bind_some]
    rw [nG s _ 93 93 rfl aq]
    simp only [Option.bind_some]
    rw [Nat.add_assoc p,iR]
    by_cases h4:cN 93 ((rest s p).drop ((eN (rest s p)).2.2 + 1 + 1 + (((rest s p).drop ((eN (rest s p)).2.2 + 1 + 1)).takeWhile jq).length))=true
    ·rw [if_pos h4,if_pos h4,if_pos h4,Pb _ iI k iI]
     rfl
    ·rw [if_neg h4,if_neg h4,if_neg h4]
   ·rw [if_neg h3,if_neg h3,if_neg h3,domain_eq s aq k _ oW aq,iR]
    simp only [Option.bind_some]
    rw [Nat.add_assoc p]
  ·rw [if_neg h2,if_neg h2,Bool.eq_false_iff.mpr h2,cv.j0,if_pos (show (!false)=true from rfl)]
 ·rw [if_neg h1,if_neg h1,cv.j0,if_pos rfl]
def jJ (l:List UInt8):Bool×ByteArray×Nat:=
 if cN 64 l=true then ((oD (l.drop 1)).1,(oD (l.drop 1)).2.1,1 + (oD (l.drop 1)).2.2) else (false,(oD l).2.1,(oD l).2.2)
theorem Sk (l:List UInt8):(jJ l).2.2≤l.length:=by
 unfold jJ
 split
 ·rename_i h
  have h1:=oG h
  have:=Bv (l.drop 1)
  rw [List.length_drop] at this
  show 1 + _≤_
  omega
 ·exact Bv l
theorem abY (s:ByteArray) (hs:s.size < 4294967281) (k p:Nat) (rs:List ByteArray) (hr:rs.length < 8000000000000) (hk:(rest s p).length + 1 < k) (hp:p≤s.size):
 gQ.f k s (p:Int) rs=some ((jJ (rest s p)).1,s,((p + (jJ (rest s p)).2.2:Nat):Int),rs ++ [(jJ (rest s p)).2.1]):=by
 have hrl:=gz s p
 unfold gQ.f jJ
 rw [nG s p 64 64 rfl aq]
 simp only [Option.bind_some]
 by_cases h:cN 64 (rest s p)=true
 ·have h1:=oG h
  rw [if_pos h,if_pos h,h,domain_eq s aq k _ oW aq,iR]
  simp only [Option.bind_some]
  rw [if_pos hr,Bool.true_and,Nat.add_assoc]
 ·rw [if_neg h,if_neg h,Bool.eq_false_iff.mpr h,domain_eq s aq k _ hk hp]
  simp only [Option.bind_some]
  rw [if_pos hr,Bool.false_and]
def xj:Nat→List UInt8→Bool×List ByteArray×Nat
 | 0,_ =>(false,[],0)
 |n + 1,l=>if (jJ l).1=true then (if cN 44 (l.drop (jJ l).2.2)=true then ((xj n (l.drop ((jJ l).2.2 + 1))).1,(jJ l).2.1 :: (xj n (l.drop ((jJ l).2.2 + 1))).2.1,(jJ l).2.2 + 1 + (xj n (l.drop ((jJ l).2.2 + 1))).2.2) else (true,[(jJ l).2.1],(jJ l).2.2)) else (false,[(jJ l).2.1],(jJ l).2.2)
def iw (l:List UInt8):Bool×List ByteArray×Nat:=xj (l.length + 1) l
theorem Fy:∀ (n m:Nat) (l:List UInt8),l.length < n→l.length < m→xj n l=xj m l
 | 0,_,_,h,_ =>absurd h (Nat.not_lt_zero _)
 |_,0,_,_,h=>absurd h (Nat.not_lt_zero _)
 |n + 1,m + 1,l,h1,h2=>by
  unfold xj
  by_cases hp:(jJ l).1=true
  ·rw [if_pos hp,if_pos hp]
   by_cases hn:cN 44 (l.drop (jJ l).2.2)=true
   ·have:=gq hn
    rw [if_pos hn,if_pos hn,Fy n m _ kW kW]
   ·rw [if_neg hn,if_neg hn]
  ·rw [if_neg hp,if_neg hp]
theorem rJ (l:List UInt8):
 iw l=if (jJ l).1=true then (if cN 44 (l.drop (jJ l).2.2)=true then ((iw (l.drop ((jJ l).2.2 + 1))).1,(jJ l).2.1 :: (iw (l.drop ((jJ l).2.2 + 1))).2.1,(jJ l).2.2 + 1 + (iw (l.drop ((jJ l).2.2 + 1))).2.2) else (true,[(jJ l).2.1],(jJ l).2.2)) else (false,[(jJ l).2.1],(jJ l).2.2):=by
 unfold iw
 rw [xj]
 by_cases hp:(jJ l).1=true
 ·rw [if_pos hp,if_pos hp]
  by_cases hn:cN 44 (l.drop (jJ l).2.2)=true
  ·have:=gq hn
   rw [if_pos hn,if_pos hn,Fy l.length ((l.drop ((jJ l).2.2 + 1)).length + 1) _ kW aq]
  ·rw [if_neg hn,if_neg hn]
 ·rw [if_neg hp,if_neg hp]
theorem G0:∀ (n:Nat) (l:List UInt8),l.length < n→(iw l).2.2≤l.length
 | 0,_,h=>absurd h (Nat.not_lt_zero _)
 |n + 1,l,h=>by
  rw [rJ]
  have hl:=Sk l
  by_cases hp:(jJ l).1=true
  ·rw [if_pos hp]
   by_cases hn:cN 44 (l.drop (jJ l).2.2)=true
   ·have h1:=gq hn
    have h2:=G0 n (l.drop ((jJ l).2.2 + 1)) kW
    rw [List.length_drop] at h2
    rw [if_pos hn]
    show _ + 1 + _≤_
    omega
   ·rw [if_neg hn]
    exact hl
  ·rw [if_neg hp]
   exact hl
theorem G1 (s:ByteArray) (hs:s.size < 4294967281):∀ (k p:Nat) (rs:List ByteArray),(rest s p).length + 2 < k→p≤s.size→rs.length + (rest s p).length≤s.size→
 dm.l0 k s (p:Int) rs=some ((iw (rest s p)).1,s,((p + (iw (rest s p)).2.2:Nat):Int),rs ++ (iw (rest s p)).2.1)
 | 0,p,_,h,_,_ =>absurd h aq
 |k + 1,p,rs,h,hp,hr=>by
  have hle:=Sk (rest s p)
  have hrl:=gz s p
  unfold dm.l0
  rw [abY s hs k p rs aq aq hp,rJ]
  simp only [Option.bind_some]
  by_cases h1:(jJ (rest s p)).1=true
  ·rw [if_pos h1,if_pos h1,nG s _ 44 44 rfl aq]
   simp only [Option.bind_some,iR]
   by_cases h2:cN 44 ((rest s p).drop (jJ (rest s p)).2.2)=true
   ·have h3:=gq h2
    rw [if_pos h2,if_pos h2,if_pos h2]
    have h4:=G1 s hs k (p + (jJ (rest s p)).2.2 + 1) (rs ++ [(jJ (rest s p)).2.1]) oW aq (by rw [gz,List.length_append];simp;omega)
    rw [h4,Nat.add_assoc p,iR,List.append_assoc]
    congr 4
    dsimp only
    omega
   ·rw [if_neg h2,if_neg h2,if_neg h2]
  ·rw [if_neg h1,if_neg h1]
def jO (l:List UInt8):Bool:=decide (10 < l.length) && (cz.g (au (l.take 10))).toList == ([112,111,115,116,109,97,115,116,101,114]:List UInt8) && cN 62 (l.drop 10)
theorem Pc (s:ByteArray) (p:Nat) (_hp:p≤s.size):pz s (p:Int)=jO (rest s p):=by
 have hrl:=gz s p
 unfold pz jO
 by_cases h:p + 10 < s.size
 ·rw [decide_eq_true aq,decide_eq_true aq]
  have e:s.extract ((p:Int)).toNat ((p:Int) + 10).toNat=au ((rest s p).take 10):=by
   rw [show ((p:Int) + 10).toNat=p + 10 from by omega,Int.toNat_natCast,kC _ _ _ aq,Nat.add_sub_cancel_left]
  rw [e]
  congr 1
  rw [← iR]
  cases hr:rest s (p + 10) with
  |nil=>
   have:=rY hr
   omega
  |cons b l=>
   obtain ⟨_,h2,_⟩:=oP hr
   rw [show ((p:Int) + 10)=((p + 10:Nat):Int) from by omega,h2]
   show ((b.toNat:Int) == 62)=(b == 62)
   by_cases hb:b=62
   ·subst hb;rfl
   ·rw [beq_eq_false_iff_ne.mpr hb,beq_eq_false_iff_ne.mpr (show (b.toNat:Int)≠62 from fun h=>hb (toNat_eq (b:=62) h))]
 ·rw [decide_eq_false aq,decide_eq_false aq]
  rfl
def fV (l:List UInt8):Bool×List ByteArray×ByteArray×ByteArray×Bool×Nat:=
 if jO l=true then (true,[],kO,⟨#[]⟩,false,10)
 else if cN 64 l=true then
  (if (iw l).1=true then
    (if cN 58 (l.drop (iw l).2.2)=true then
      ((lG (l.drop ((iw l).2.2 + 1))).1,(iw l).2.1,(lG (l.drop ((iw l).2.2 + 1))).2.1,(lG (l.drop ((iw l).2.2 + 1))).2.2.1,(lG (l.drop ((iw l).2.2 + 1))).2.2.2.1,(iw l).2.2 + 1 + (lG (l.drop ((iw l).2.2 + 1))).2.2.2.2)
    else (false,[],⟨#[]⟩,⟨#[]⟩,false,(iw l).2.2))
  else (false,[],⟨#[]⟩,⟨#[]⟩,false,(iw l).2.2))
 else ((lG l).1,[],(lG l).2.1,(lG l).2.2.1,(lG l).2.2.2.1,(lG l).2.2.2.2)
theorem G3 (s:ByteArray) (hs:s.size < 4294967281) (k p:Nat) (rs:List ByteArray) (hk:(rest s p).length + 6 < k) (hp:p≤s.size):
 cT.f3 k s (p:Int) rs=some (false,rs,(lG (rest s p)).2.1,(lG (rest s p)).2.2.1,(lG (rest s p)).2.2.2.1,(lG (rest s p)).1,s,((p + (lG (rest s p)).2.2.2.2:Nat):Int)):=by
 unfold cT.f3
 rw [abX s hs k p hk hp]
 rfl
theorem Sl (l:List UInt8):((Sg l).toNat:Int)=64↔cN 64 l=true:=by
 cases l with
 |nil=>simp [Sg,cN]
 |cons b l=>
  show (b.toNat:Int)=64↔(b == 64)=true
  rw [beq_iff_eq]
  exact ⟨fun h=>toNat_eq (b:=64) h,fun h=>by rw [h];rfl⟩
theorem inner_eq (s:ByteArray) (hs:s.size < 4294967281) (k p:Nat) (hk:(rest s p).length + 6 < k) (hp:p≤s.size):
 cT.f k s (p:Int)=some (false,(fV (rest s p)).2.1,(fV (rest s p)).2.2.1,(fV (rest s p)).2.2.2.1,(fV (rest s p)).2.2.2.2.1,(fV (rest s p)).1,s,((p + (fV (rest s p)).2.2.2.2.2:Nat):Int)):=by
 have hrl:=gz s p
 unfold cT.f fV
 rw [if_pos ⟨aq,aq,aq⟩,Pc s p hp]
 by_cases h0:jO (rest s p)=true
 ·rw [if_pos h0,if_pos h0]
  rfl
 ·rw [if_neg h0,if_neg h0]
  unfold cT.f2
  rw [Sh]
  simp only [Option.bind_some]
  by_cases h1:cN 64 (rest s p)=true
  ·have hle:=G0 _ (rest s p) (Nat.lt_succ_self _)
   rw [if_pos ((Sl _).mpr h1),if_pos h1,G1 s hs k p [] aq hp sB]
   simp only [Option.bind_some]
   by_cases h2:(iw (rest s p)).1=true
   ·rw [if_pos h2,if_pos h2,nG s _ 58 58 rfl aq]
    simp only [Option.bind_some,iR]
    by_cases h3:cN 58 ((rest s p).drop (iw (rest s p)).2.2)=true
    ·have h3':=gq h3
     rw [if_pos h3,if_pos h3,if_pos h3,Nat.add_assoc p,G3 s hs k _ _ oW aq,iR,List.nil_append,Nat.add_assoc p]
    ·rw [if_neg h3,if_neg h3,if_neg h3]
   ·rw [if_neg h2,if_neg h2]
  ·rw [if_neg (fun h=>h1 ((Sl _).mp h)),if_neg h1,G3 s hs k p [] hk hp]
theorem zC (x:ByteArray) (k:Nat) (hk:x.size + 2 < k):∃ r,eK.f k x=some r:=by
 unfold eK.f
 split
 ·rename_i h
  have hn:=Fx 46 x
  rw [qg x 46 aq]
  simp only [Option.bind_some]
  obtain ⟨r,hr⟩:=Gt 0 k (xs:=(pieces 46 x.data.toList).map au) (fun y _ _ _ =>⟨_,rfl⟩) aq aq
  unfold bJ.f
  rw [hr]
  exact ⟨_,rfl⟩
 ·exact ⟨_,rfl⟩
theorem MO (a b:ByteArray) (c:Bool) (k:Nat) (hk:b.size + 2 < k):∃ r,ey.f k a b c=some r:=by
 unfold ey.f
 obtain ⟨r,hr⟩:=zC b k hk
 split
 ·split
  ·exact ⟨_,rfl⟩
  ·rw [hr]
   exact ⟨_,rfl⟩
 ·exact ⟨_,rfl⟩
theorem Tj (k:Nat) (s:ByteArray) (q:Int) (nul:Bool) (route:List ByteArray) (lo dom:ByteArray) (lit:Bool) (M:Nat) (hM:∀ y,y∈route→y.size≤M) (hd:dom.size≤M) (hk:route.length + M + 5 < k) (hr:route.length < 4611686018427387904):
 ∃ r,bT.j0 k false s q nul route lo dom lit=some r:=by
 obtain ⟨k,rfl⟩:∃ k',k=k' + 1:=⟨k - 1,aq⟩
 rw [bT.j0,if_neg bG]
 obtain ⟨a,ha⟩:=MO lo dom lit k aq
 rw [ha]
 simp only [Option.bind_some]
 split
 ·split
  ·exact ⟨_,rfl⟩
  ·obtain ⟨c,hc⟩:=Gu (M + 3) k (xs:=route) (fun y hy k1 hk1=>by
    obtain ⟨d,hd⟩:=zC y k1 (by have:=hM y hy;omega)
    unfold fQ.f
    rw [hd]
    exact ⟨_,rfl⟩) aq hr
   unfold bu.f
   rw [hc]
   simp only [Option.bind_some]
   split<;>exact ⟨_,rfl⟩
 ·exact ⟨_,rfl⟩
end Go.Proofs.YtokpnfljjjjikaaGreatDoor.jo
namespace Go.Proofs.YtokpnfljjjjikaaGreatDoor.jo
open Go.RowKit Go.Proofs.YtokpnfljjjjikaaGreatDoor Go.Proofs.YtokpnfljjjjikaaGreatDoor.nK Go.Proofs.aj.bQ Go.Proofs.aj.cM
def Agree (n:Nat) (l l2:List UInt8):Prop:=l2.take (n + 1)=l.take (n + 1)
theorem Agree.le {n m:Nat} {l l2:List UInt8} (h:Agree n l l2) (hm:m≤n):Agree m l l2:=by
 unfold Agree at h ⊢
 have:=congrArg (List.take (m + 1)) h
 rwa [List.take_take,List.take_take,Nat.min_eq_left aq] at this
theorem Agree.drop {n a:Nat} {l l2:List UInt8} (h:Agree (a + n) l l2):Agree n (l.drop a) (l2.drop a):=by
 unfold Agree at h ⊢
 rw [List.take_drop,List.take_drop,show a + (n + 1)=a + n + 1 from rfl,h]
theorem Agree.take {n m:Nat} {l l2:List UInt8} (h:Agree n l l2) (hm:m≤n + 1):l2.take m=l.take m:=by
 cases m with
 |zero=>simp
 |succ m=>exact h.le aq
end Go.Proofs.YtokpnfljjjjikaaGreatDoor.jo
namespace Go.Proofs.YtokpnfljjjjikaaGreatDoor.jo
open Go.RowKit Go.Proofs.YtokpnfljjjjikaaGreatDoor Go.Proofs.YtokpnfljjjjikaaGreatDoor.nK Go.Proofs.aj.bQ Go.Proofs.aj.cM
theorem Fz (x:ByteArray):(cz.g x).size=x.size:=by
 unfold cz.g
 rw [strOfNums_size,List.length_map,bytesOf_length]
theorem Cf (l:List UInt8):(oD l).2.1.size≤l.length:=by
 unfold oD
 show (cz.g _).size≤_
 rw [Fz,bD,List.length_take]
 omega
theorem G5 (l:List UInt8):(lG l).2.2.1.size≤l.length:=by
 have hw:=nH jq (l.drop ((eN l).2.2 + 2))
 have hd:=Cf (l.drop ((eN l).2.2 + 1))
 rw [List.length_drop] at hw hd
 have hs:(cz.g (au ((l.drop ((eN l).2.2 + 2)).takeWhile jq))).size≤l.length:=by
  rw [Fz,bD]
  omega
 unfold lG
 split
 ·split
  ·split
   ·split
    ·exact hs
    ·exact hs
   ·exact Nat.le_trans hd aq
  ·exact Nat.zero_le _
 ·exact Nat.zero_le _
theorem Tk (l:List UInt8):(jJ l).2.1.size≤l.length:=by
 unfold jJ
 split
 ·exact Nat.le_trans (Cf _) kW
 ·exact Cf l
theorem CQ:∀ (n:Nat) (l:List UInt8),l.length < n→(iw l).2.1.length≤l.length + 1∧∀ y,y∈(iw l).2.1→y.size≤l.length
 | 0,_,h=>absurd h (Nat.not_lt_zero _)
 |n + 1,l,h=>by
  have hi:=Tk l
  have h1:∀ y,y∈ [(jJ l).2.1]→y.size≤l.length:=by
   intro y hy
   rw [List.mem_singleton.mp hy]
   exact hi
  rw [rJ]
  split
  ·split
   ·rename_i h2
    have h3:=gq h2
    obtain ⟨h4,h5⟩:=CQ n (l.drop ((jJ l).2.2 + 1)) kW
    rw [List.length_drop] at h4 h5
    refine ⟨?_,?_⟩
    ·show ((jJ l).2.1 :: _).length≤_
     rw [List.length_cons]
     omega
    ·intro y hy
     rcases List.mem_cons.mp hy with rfl|hy
     ·exact hi
     ·exact Nat.le_trans (h5 y hy) aq
   ·exact ⟨aV,h1⟩
  ·exact ⟨aV,h1⟩
theorem xk (l:List UInt8):(fV l).2.1.length≤l.length + 1∧(∀ y,y∈(fV l).2.1→y.size≤l.length)∧(fV l).2.2.2.1.size≤l.length:=by
 have hr:=CQ _ l (Nat.lt_succ_self _)
 have hb:=G5 l
 have hb2:=G5 (l.drop ((iw l).2.2 + 1))
 rw [List.length_drop] at hb2
 have hn:([]:List ByteArray).length≤l.length + 1∧∀ y,y∈([]:List ByteArray)→y.size≤l.length:=⟨Nat.zero_le _,fun _ h=>by cases h⟩
 unfold fV
 split
 ·exact ⟨hn.1,hn.2,Nat.zero_le _⟩
 ·split
  ·split
   ·split
    ·exact ⟨hr.1,hr.2,Nat.le_trans hb2 aq⟩
    ·exact ⟨hn.1,hn.2,Nat.zero_le _⟩
   ·exact ⟨hn.1,hn.2,Nat.zero_le _⟩
  ·exact ⟨hn.1,hn.2,hb⟩
def wo (l:List UInt8):Bool:=cN 60 l && cN 62 (l.drop 1)
def Gv (l:List UInt8):Bool:=cN 60 l && (fV (l.drop 1)).1 && cN 62 (l.drop (1 + (fV (l.drop 1)).2.2.2.2.2))
def FA (l:List UInt8) (n:Nat):Prop:=(wo l=true∧n=2)∨(wo l=false∧Gv l=true∧n=2 + (fV (l.drop 1)).2.2.2.2.2)
theorem Tm {l:List UInt8} {n:Nat} (h:FA l n): 2≤n∧n≤l.length:=by
 rcases h with ⟨h,rfl⟩|⟨_,h,rfl⟩
 ·unfold wo at h
  simp only [Bool.and_eq_true] at h
  have:=gq h.2
  omega
 ·unfold Gv at h
  simp only [Bool.and_eq_true] at h
  have:=gq h.2
  omega
end Go.Proofs.YtokpnfljjjjikaaGreatDoor.jo
namespace Go.Proofs.YtokpnfljjjjikaaGreatDoor.jo
open Go.RowKit Go.Proofs.YtokpnfljjjjikaaGreatDoor Go.Proofs.YtokpnfljjjjikaaGreatDoor.nK Go.Proofs.aj.bQ Go.Proofs.aj.cM
set_option linter.unusedVariables false
set_option linter.unusedSimpArgs false
def pK (P:UInt8→Bool) (t:List UInt8):Prop:=∀ b t',t=b :: t'→P b=false
theorem K5 {P:UInt8→Bool} {t:List UInt8} (h:pK P t):∀ l:List UInt8,(l ++ t).takeWhile P=l.takeWhile P
 | []=>by
   cases t with
   |nil=>rfl
   |cons b t=>rw [List.nil_append,List.takeWhile_cons_of_neg (by rw [h b t rfl];decide)];rfl
 |b :: l=>by
  by_cases hb:P b=true
  ·rw [List.cons_append,List.takeWhile_cons_of_pos hb,List.takeWhile_cons_of_pos hb,K5 h l]
  ·rw [List.cons_append,List.takeWhile_cons_of_neg hb,List.takeWhile_cons_of_neg hb]
theorem K6 (P:UInt8→Bool):∀ l:List UInt8,pK P (l.drop (l.takeWhile P).length)
 | []=>by intro b t' h;simp at h
 |b :: l=>by
  by_cases hb:P b=true
  ·rw [List.takeWhile_cons_of_pos hb]
   exact K6 P l
  ·rw [List.takeWhile_cons_of_neg hb]
   intro c t' h
   cases h
   exact Bool.eq_false_iff.mpr hb
theorem Tn {c:UInt8} {l t:List UInt8} {n:Nat} (hn:n≤l.length) (h:cN c t=false):cN c ((l ++ t).drop n)=cN c (l.drop n):=by
 rw [List.drop_append_of_le_length hn]
 cases l.drop n with
 |nil=>rw [List.nil_append,h];rfl
 |cons b l=>rfl
theorem MP {t:List UInt8} (h:pK mM t) (l:List UInt8):eT (l ++ t)=eT l:=by
 unfold eT
 rw [K5 h l]
theorem Pd {t:List UInt8} (h:pK j6 t) (l:List UInt8):gV (l ++ t)=gV l:=by
 unfold gV
 rw [K5 h l]
theorem zD {part:List UInt8→Bool×Nat} {c:UInt8} {t:List UInt8} (hp:∀ l,(part l).2≤l.length) (hpt:∀ l,part (l ++ t)=part l) (hc:cN c t=false):
 ∀ (n:Nat) (l:List UInt8),l.length < n→fu part c (l ++ t)=fu part c l
 | 0,_,h=>absurd h (Nat.not_lt_zero _)
 |n + 1,l,h=>by
  rw [kU part c (l ++ t),kU part c l,hpt,Tn (hp l) hc]
  by_cases h1:(part l).1=true
  ·rw [if_pos h1,if_pos h1]
   by_cases h2:cN c (l.drop (part l).2)=true
   ·have h3:=gq h2
    rw [if_pos h2,if_pos h2,List.drop_append_of_le_length aq,zD hp hpt hc n _ kW]
   ·rw [if_neg h2,if_neg h2]
  ·rw [if_neg h1,if_neg h1]
theorem zE {part:List UInt8→Bool×Nat} {P:UInt8→Bool} {c:UInt8} (hp:∀ l:List UInt8,pK P (l.drop (part l).2)):
 ∀ (n:Nat) (l:List UInt8),l.length < n→(fu part c l).1=true→pK P (l.drop (fu part c l).2)∧cN c (l.drop (fu part c l).2)=false
 | 0,_,h,_ =>absurd h (Nat.not_lt_zero _)
 |n + 1,l,h,h1=>by
  rw [kU] at h1 ⊢
  by_cases h2:(part l).1=true
  ·rw [if_pos h2] at h1 ⊢
   by_cases h3:cN c (l.drop (part l).2)=true
   ·have h4:=gq h3
    rw [if_pos h3] at h1 ⊢
    have h5:=zE hp n (l.drop ((part l).2 + 1)) kW h1
    rw [List.drop_drop] at h5
    exact h5
   ·rw [if_neg h3]
    exact ⟨hp l,Bool.eq_false_iff.mpr h3⟩
  ·rw [if_neg h2] at h1
   cases h1
theorem MQ (l:List UInt8):pK mM (l.drop (eT l).2):=K6 mM l
theorem Pe (l:List UInt8):pK j6 (l.drop (gV l).2):=K6 j6 l
theorem tJ {t:List UInt8} (h:pK mM t) (h2:cN 46 t=false) (l:List UInt8):fu eT 46 (l ++ t)=fu eT 46 l:=
 zD yQ (MP h) h2 _ l (Nat.lt_succ_self _)
theorem FB {t:List UInt8} (h:pK j6 t) (h2:cN 46 t=false) (l:List UInt8):fu gV 46 (l ++ t)=fu gV 46 l:=
 zD xh (Pd h) h2 _ l (Nat.lt_succ_self _)
theorem MR (l:List UInt8) (h:(fu eT 46 l).1=true):fu eT 46 (l.take (fu eT 46 l).2)=(true,(fu eT 46 l).2):=by
 obtain ⟨h1,h2⟩:=zE (P:=mM) MQ _ l (Nat.lt_succ_self _) h
 have h3:=tJ h1 h2 (l.take (fu eT 46 l).2)
 rw [List.take_append_drop] at h3
 rw [← h3,← h]
theorem Pf (l:List UInt8) (h:(fu gV 46 l).1=true):fu gV 46 (l.take (fu gV 46 l).2)=(true,(fu gV 46 l).2):=by
 obtain ⟨h1,h2⟩:=zE (P:=j6) Pe _ l (Nat.lt_succ_self _) h
 have h3:=FB h1 h2 (l.take (fu gV 46 l).2)
 rw [List.take_append_drop] at h3
 rw [← h3,← h]
def fC (b:UInt8):UInt8:=UInt8.ofNat (Io (b.toNat:Int)).toNat
theorem ng (l:List UInt8):cz.g (au l)=au (l.map fC):=by
 unfold cz.g strOfNums bytesOf au
 congr 1
 simp only [List.map_map]
 rfl
theorem Zc (b:UInt8):mM (fC b)=mM b:=fA (Q:=fun b=>mM (fC b)=mM b) gh b
theorem Zd (b:UInt8):fC (fC b)=fC b:=fA (Q:=fun b=>fC (fC b)=fC b) gh b
theorem V3 (b:UInt8):(fC b != 45)=(b != 45):=fA (Q:=fun b=>(fC b != 45)=(b != 45)) gh b
theorem Pg (b:UInt8):(fC b == 46)=(b == 46):=fA (Q:=fun b=>(fC b == 46)=(b == 46)) gh b
theorem qV (l:List UInt8):(l.map fC).map fC=l.map fC:=by
 rw [List.map_map]
 congr 1
 funext b
 exact Zd b
theorem abZ (l:List UInt8):(l.map fC).takeWhile mM=(l.takeWhile mM).map fC:=by
 rw [List.takeWhile_map]
 congr 2
 funext b
 exact Zc b
theorem FC (l:List UInt8) (n:Nat):(l.map fC).getD n 0=fC (l.getD n 0):=by
 rw [List.getD_eq_getElem?_getD,List.getD_eq_getElem?_getD,List.getElem?_map]
 cases l[n]? with
 |none=>rfl
 |some b=>rfl
theorem Ph (l:List UInt8):eT (l.map fC)=eT l:=by
 unfold eT
 rw [abZ,List.length_map]
 cases l.takeWhile mM with
 |nil=>rfl
 |cons c t=>
  show (fC c != 45 && ((c :: t).map fC).getD (t.map fC).length 0 != 45,_)=(c != 45 && (c :: t).getD t.length 0 != 45,_)
  rw [FC,V3,V3,List.length_map]
theorem V4 (l:List UInt8):cN 46 (l.map fC)=cN 46 l:=by
 cases l with
 |nil=>rfl
 |cons b l=>exact Pg b
theorem zF:∀ (n:Nat) (l:List UInt8),l.length < n→fu eT 46 (l.map fC)=fu eT 46 l
 | 0,_,h=>absurd h (Nat.not_lt_zero _)
 |n + 1,l,h=>by
  rw [kU eT 46 (l.map fC),kU eT 46 l,Ph,← List.map_drop,V4]
  by_cases h1:(eT l).1=true
  ·rw [if_pos h1,if_pos h1]
   by_cases h2:cN 46 (l.drop (eT l).2)=true
   ·have h3:=gq h2
    rw [if_pos h2,if_pos h2,← List.map_drop,zF n _ kW]
   ·rw [if_neg h2,if_neg h2]
  ·rw [if_neg h1,if_neg h1]
def um (l:List UInt8):List UInt8:=(l.take (fu eT 46 l).2).map fC
theorem Cg (l:List UInt8):(oD l).2.1=au (um l):=ng _
theorem xm (l:List UInt8):(um l).length=(oD l).2.2:=by
 have h:=Bv l
 unfold um
 rw [List.length_map,List.length_take]
 exact Nat.min_eq_left h
theorem V5 (l t:List UInt8) (h:(oD l).1=true) (ht:pK mM t) (h2:cN 46 t=false):oD (um l ++ t)=(true,au (um l),(um l).length):=by
 have h1:fu eT 46 (um l ++ t)=(true,(um l).length):=by
  rw [tJ ht h2]
  unfold um
  rw [zF _ _ (Nat.lt_succ_self _),MR l h,List.length_map,List.length_take,Nat.min_eq_left (show (fu eT 46 l).2≤l.length from Bv l)]
 unfold oD
 rw [h1]
 simp only
 rw [List.take_left',ng]
 ·unfold um
  rw [qV]
 ·rfl
theorem CR {part:List UInt8→Bool×Nat} {R:UInt8→Prop} {c:UInt8} (hc:R c) (hp:∀ (l:List UInt8) (b:UInt8),b∈l.take (part l).2→R b):
 ∀ (n:Nat) (l:List UInt8),l.length < n→∀ b,b∈l.take (fu part c l).2→R b
 | 0,_,h=>absurd h (Nat.not_lt_zero _)
 |n + 1,l,h=>by
  intro b hb
  rw [kU] at hb
  by_cases h1:(part l).1=true
  ·rw [if_pos h1] at hb
   by_cases h2:cN c (l.drop (part l).2)=true
   ·have h3:=gq h2
    rw [if_pos h2] at hb
    simp only at hb
    rw [List.take_add,List.mem_append,List.take_add,List.mem_append] at hb
    rcases hb with (hb|hb)|hb
    ·exact hp l b hb
    ·cases hl:l.drop (part l).2 with
     |nil=>rw [hl] at hb;simp at hb
     |cons d l'=>
      rw [hl] at hb h2
      simp at hb
      have:d=c:=by simpa [cN] using h2
      rw [hb,this]
      exact hc
    ·exact CR hc hp n _ kW b hb
   ·rw [if_neg h2] at hb
    exact hp l b hb
  ·rw [if_neg h1] at hb
   exact hp l b hb
def yY (b:UInt8):Prop:=¬ (b < 32∨126 < b)
instance (b:UInt8):Decidable (yY b):=by unfold yY;infer_instance
theorem Tp (b:UInt8):j6 b=true→yY b:=fA (Q:=fun b=>j6 b=true→yY b) gh b
theorem FD (b:UInt8):j6 b=true→b≠34:=fA (Q:=fun b=>j6 b=true→b≠34) gh b
theorem V6 {P:UInt8→Bool}:∀ (l:List UInt8) (b:UInt8),b∈l.takeWhile P→P b=true
 | [],_,h=>by cases h
 |c :: l,b,h=>by
  by_cases hc:P c=true
  ·rw [List.takeWhile_cons_of_pos hc] at h
   rcases List.mem_cons.mp h with rfl|h
   ·exact hc
   ·exact V6 l b h
  ·rw [List.takeWhile_cons_of_neg hc] at h
   cases h
theorem Pj (l:List UInt8) (b:UInt8) (hb:b∈l.take (fu gV 46 l).2):yY b:=
 CR (R:=yY) bG (fun l b hb=>Tp b (V6 l b (by
  have e:l.take (gV l).2=l.takeWhile j6:=mZ j6 l
  rwa [e] at hb))) _ l (Nat.lt_succ_self _) b hb
theorem zG:∀ (n:Nat) (l acc:List UInt8),l.length < n→(∀ b,b∈acc→yY b)→∀ b,b∈(kj l acc).2.1→yY b
 | 0,_,_,h,_ =>absurd h (Nat.not_lt_zero _)
 |n + 1,l,acc,h,ha=>by
  intro d hd
  cases l with
  |nil=>unfold kj at hd;cases hd
  |cons b l=>
   unfold kj at hd
   by_cases hq:b=34
   ·rw [if_pos hq] at hd
    exact ha d hd
   ·rw [if_neg hq] at hd
    by_cases hb:b=92
    ·rw [if_pos hb] at hd
     cases l with
     |nil=>cases hd
     |cons c l'=>
      by_cases hc:c < 32∨126 < c
      ·simp only [if_pos hc] at hd
       cases hd
      ·simp only [if_neg hc] at hd
       refine zG n l' (acc ++ [c]) xA (fun x hx=>?_) d hd
       rcases List.mem_append.mp hx with hx|hx
       ·exact ha x hx
       ·rw [List.mem_singleton.mp hx];exact hc
    ·rw [if_neg hb] at hd
     by_cases hc:b < 32∨126 < b
     ·rw [if_pos hc] at hd
      cases hd
     ·rw [if_neg hc] at hd
      refine zG n l (acc ++ [b]) xA (fun x hx=>?_) d hd
      rcases List.mem_append.mp hx with hx|hx
      ·exact ha x hx
      ·rw [List.mem_singleton.mp hx];exact hc
def xp (l:List UInt8):List UInt8:=if cN 34 l=true then (kj (l.drop 1) []).2.1 else l.take (fu gV 46 l).2
theorem CS (l:List UInt8):(eN l).2.1=au (xp l):=by
 unfold eN xp
 split<;>rfl
theorem CT (l:List UInt8) (b:UInt8) (hb:b∈xp l):yY b:=by
 unfold xp at hb
 split at hb
 ·exact zG _ _ [] (Nat.lt_succ_self _) (fun _ h=>by cases h) b hb
 ·exact Pj l b hb
def qB (b:UInt8):List UInt8:=if b=34∨b=92 then [92,b] else [b]
def qL (l:List UInt8):List UInt8:=l.flatMap qB
theorem FE (t:List UInt8):∀ (l acc:List UInt8),(∀ b,b∈l→yY b)→kj (qL l ++ 34 :: t) acc=(true,acc ++ l,(qL l).length + 1)
 | [],acc,_ =>by
   show kj (34 :: t) acc=_
   unfold kj
   simp [qL]
 |b :: l,acc,h=>by
  have hf:=h b (List.mem_cons_self ..)
  have ih:=FE t l (acc ++ [b]) (fun x hx=>h x (List.mem_cons_of_mem _ hx))
  have e:qL (b :: l)=qB b ++ qL l:=rfl
  rw [e,List.append_assoc]
  unfold qB
  by_cases hb:b=34∨b=92
  ·rw [if_pos hb]
   show kj (92 :: b :: (qL l ++ 34 :: t)) acc=_
   unfold kj
   rw [if_neg bG,if_pos rfl]
   simp only
   rw [if_neg hf,ih]
   simp
  ·rw [if_neg hb]
   show kj (b :: (qL l ++ 34 :: t)) acc=_
   unfold kj
   rw [if_neg (fun h=>hb (.inl h)),if_neg (fun h=>hb (.inr h)),if_neg hf,ih]
   simp
def Ch (l:List UInt8):Bool:=(fu gV 46 l).1 && (fu gV 46 l).2 == l.length
def pL (l:List UInt8):List UInt8:=if Ch l=true then l else 34 :: (qL l ++ [34])
theorem FH (l t:List UInt8) (h:∀ b,b∈l→yY b) (ht:pK j6 t) (h2:cN 46 t=false):eN (pL l ++ t)=(true,au l,(pL l).length):=by
 unfold pL
 by_cases hp:Ch l=true
 ·rw [if_pos hp]
  unfold Ch at hp
  simp only [Bool.and_eq_true,beq_iff_eq] at hp
  have hn:cN 34 (l ++ t)=false:=by
   have h1:(fu gV 46 l).1=true:=hp.1
   rw [kU] at h1
   cases l with
   |nil=>simp [gV] at h1
   |cons b l=>
    have hb:j6 b=true:=by
     by_cases hb:j6 b=true
     ·exact hb
     ·exfalso
      have:(gV (b :: l)).1=false:=by
       unfold gV
       rw [List.takeWhile_cons_of_neg hb]
       rfl
      rw [this] at h1
      simp at h1
    have:=FD b hb
    show (b == 34)=false
    simpa using this
  unfold eN
  rw [if_neg (by rw [hn];decide),FB ht h2,hp.1,hp.2,List.take_left']
  rfl
 ·rw [if_neg hp]
  unfold eN
  rw [if_pos (show cN 34 (34 :: (qL l ++ [34]) ++ t)=true from rfl)]
  have e:((34:UInt8) :: (qL l ++ [34]) ++ t).drop 1=qL l ++ 34 :: t:=by simp
  rw [e,FE t l [] h]
  simp
  omega
end Go.Proofs.YtokpnfljjjjikaaGreatDoor.jo
namespace Go.Proofs.YtokpnfljjjjikaaGreatDoor.jo
open Go.RowKit Go.Proofs.YtokpnfljjjjikaaGreatDoor Go.Proofs.YtokpnfljjjjikaaGreatDoor.nK Go.Proofs.aj.bQ Go.Proofs.aj.cM
set_option linter.unusedVariables false
set_option linter.unusedSimpArgs false
def lI (d:List UInt8):Prop:=fu eT 46 d=(true,d.length)∧d.map fC=d
theorem Sm (l:List UInt8) (h:(oD l).1=true):lI (um l):=by
 refine ⟨?_,?_⟩
 ·have h1:=V5 l [] h (by intro b t' e;cases e) rfl
  rw [List.append_nil] at h1
  have h2:(fu eT 46 (um l)).1=true:=congrArg (·.1) h1
  have h3:(fu eT 46 (um l)).2=(um l).length:=congrArg (·.2.2) h1
  exact Prod.ext h2 h3
 ·unfold um
  rw [qV]
theorem lI.read {d:List UInt8} (h:lI d) {t:List UInt8} (ht:pK mM t) (h2:cN 46 t=false):oD (d ++ t)=(true,au d,d.length):=by
 unfold oD
 rw [tJ ht h2,h.1]
 simp only
 rw [List.take_left',ng,h.2]
 rfl
theorem lI.head {d:List UInt8} (h:lI d):∃ b d',d=b :: d'∧mM b=true:=by
 have h1:(fu eT 46 d).1=true:=by rw [h.1]
 rw [kU] at h1
 cases d with
 |nil=>simp [eT] at h1
 |cons b d'=>
  refine ⟨b,d',rfl,?_⟩
  by_cases hb:mM b=true
  ·exact hb
  ·exfalso
   have:(eT (b :: d')).1=false:=by
    unfold eT
    rw [List.takeWhile_cons_of_neg hb]
   rw [this] at h1
   simp at h1
theorem Tq (b:UInt8):mM b=true→(b == 91)=false:=fA (Q:=fun b=>mM b=true→(b == 91)=false) gh b
structure wq (lo dom:List UInt8) (lit:Bool):Prop where
 los:∀ b,b∈lo→yY b
 doms:lit=false→lI dom
 words:lit=true→O9 (au dom)=true∧(∀ b,b∈dom→jq b=true)∧dom.map fC=dom
def iN (lo dom:List UInt8) (lit:Bool):List UInt8:=pL lo ++ (if lit=true then 64 :: 91 :: (dom ++ [93]) else 64 :: dom)
theorem Sn (t:List UInt8):pK j6 (64 :: t):=by
 intro b t' e
 cases e
 decide +kernel
theorem Pk {P:UInt8→Bool} {t:List UInt8} (ht:pK P t):∀ l:List UInt8,(∀ b,b∈l→P b=true)→(l ++ t).takeWhile P=l
 | [],_ =>by
   cases t with
   |nil=>rfl
   |cons b t=>rw [List.nil_append,List.takeWhile_cons_of_neg (by rw [ht b t rfl];decide)]
 |b :: l,h=>by rw [List.cons_append,List.takeWhile_cons_of_pos (h b (List.mem_cons_self ..)),Pk ht l (fun x hx=>h x (List.mem_cons_of_mem _ hx))]
theorem drop_left (l t:List UInt8) (n:Nat):(l ++ t).drop (l.length + n)=t.drop n:=by
 rw [← List.drop_drop,List.drop_left]
theorem V7 {lo dom:List UInt8} {lit:Bool} (h:wq lo dom lit) {t:List UInt8} (ht:pK mM t) (h2:cN 46 t=false):
 lG (iN lo dom lit ++ t)=(true,au lo,au dom,lit,(iN lo dom lit).length):=by
 unfold iN
 cases lit with
 |true=>
  obtain ⟨hl,hw,hs⟩:=h.words rfl
  simp only [if_true]
  rw [List.append_assoc]
  have e0:((64:UInt8) :: 91 :: (dom ++ [93])) ++ t=64 :: 91 :: (dom ++ 93 :: t):=by simp
  rw [e0]
  have e1:=FH lo (64 :: 91 :: (dom ++ 93 :: t)) h.los (Sn _) rfl
  unfold lG
  rw [e1]
  simp only
  rw [if_pos trivial,show ((pL lo ++ 64 :: 91 :: (dom ++ 93 :: t)).drop (pL lo).length)=64 :: 91 :: (dom ++ 93 :: t) from List.drop_left]
  rw [if_pos (show cN 64 (64 :: 91 :: (dom ++ 93 :: t))=true from rfl),drop_left _ _ 1]
  rw [if_pos (show cN 91 ((64 :: 91 :: (dom ++ 93 :: t)).drop 1)=true from rfl),drop_left _ _ 2]
  have e2:((64:UInt8) :: 91 :: (dom ++ 93 :: t)).drop 2=dom ++ 93 :: t:=rfl
  rw [e2,Pk (P:=jq) (t:=93 :: t) (by intro b t' e;cases e;rfl) dom hw,Nat.add_assoc,drop_left _ _ (2 + dom.length)]
  have e3:((64:UInt8) :: 91 :: (dom ++ 93 :: t)).drop (2 + dom.length)=93 :: t:=by
   rw [← List.drop_drop,e2,List.drop_left]
  rw [e3,if_pos (show cN 93 (93 :: t)=true from rfl),hl,ng,hs]
  simp
  omega
 |false=>
  have hd:=h.doms rfl
  obtain ⟨b,d',hb,hlb⟩:=hd.head
  simp only [Bool.false_eq_true,if_false]
  rw [List.append_assoc]
  have e1:=FH lo ((64 :: dom) ++ t) h.los (by rw [List.cons_append];exact Sn _) rfl
  unfold lG
  rw [e1]
  simp only
  rw [if_pos trivial,show ((pL lo ++ ((64 :: dom) ++ t)).drop (pL lo).length)=(64 :: dom) ++ t from List.drop_left]
  rw [if_pos (show cN 64 ((64 :: dom) ++ t)=true from rfl),drop_left _ _ 1]
  have e2:(((64:UInt8) :: dom) ++ t).drop 1=dom ++ t:=rfl
  rw [e2,if_neg (by rw [hb];show ¬ (b == 91)=true;rw [Tq b hlb];decide),hd.read ht h2]
  simp
  omega
def fT:List (List UInt8)→List UInt8
 | []=>[]
 | [d]=>64 :: d
 |d :: ds=>64 :: (d ++ 44 :: fT ds)
theorem tK (c:UInt8) (h:mM c=false) (t:List UInt8):pK mM (c :: t):=by
 intro b t' e
 cases e
 exact h
theorem FI (t:List UInt8):∀ ds:List (List UInt8),ds≠ []→(∀ d,d∈ds→lI d)→iw (fT ds ++ 58 :: t)=(true,ds.map au,(fT ds).length)
 | [],h,_ =>absurd rfl h
 | [d],_,h=>by
   have hd:=h d (List.mem_cons_self ..)
   rw [rJ]
   have e:jJ (fT [d] ++ 58 :: t)=(true,au d,1 + d.length):=by
    unfold jJ
    rw [if_pos (show cN 64 (fT [d] ++ 58 :: t)=true from rfl)]
    have e2:(fT [d] ++ 58 :: t).drop 1=d ++ 58 :: t:=rfl
    rw [e2,hd.read (tK 58 gh t) rfl]
   rw [e]
   have e3:(fT [d] ++ 58 :: t).drop (1 + d.length)=58 :: t:=by
    show ((64:UInt8) :: (d ++ 58 :: t)).drop (1 + d.length)=_
    rw [Nat.add_comm,List.drop_succ_cons,List.drop_left]
   simp only [if_true]
   rw [e3,if_neg (show ¬ cN 44 (58 :: t)=true by simp [cN])]
   simp [fT]
   omega
 |d :: d2 :: ds,_,h=>by
  have hd:=h d (List.mem_cons_self ..)
  have ih:=FI t (d2 :: ds) aV (fun x hx=>h x (List.mem_cons_of_mem _ hx))
  have e0:fT (d :: d2 :: ds) ++ 58 :: t=64 :: (d ++ 44 :: (fT (d2 :: ds) ++ 58 :: t)):=by
   show (64 :: (d ++ 44 :: fT (d2 :: ds))) ++ 58 :: t=_
   simp
  rw [rJ,e0]
  have e:jJ (64 :: (d ++ 44 :: (fT (d2 :: ds) ++ 58 :: t)))=(true,au d,1 + d.length):=by
   unfold jJ
   rw [if_pos (show cN 64 (64 :: (d ++ 44 :: (fT (d2 :: ds) ++ 58 :: t)))=true from rfl)]
   have e2:((64:UInt8) :: (d ++ 44 :: (fT (d2 :: ds) ++ 58 :: t))).drop 1=d ++ 44 :: (fT (d2 :: ds) ++ 58 :: t):=rfl
   rw [e2,hd.read (tK 44 gh _) rfl]
  rw [e]
  have e3:((64:UInt8) :: (d ++ 44 :: (fT (d2 :: ds) ++ 58 :: t))).drop (1 + d.length)=44 :: (fT (d2 :: ds) ++ 58 :: t):=by
   rw [Nat.add_comm,List.drop_succ_cons,List.drop_left]
  have e4:((64:UInt8) :: (d ++ 44 :: (fT (d2 :: ds) ++ 58 :: t))).drop (1 + d.length + 1)=fT (d2 :: ds) ++ 58 :: t:=by
   rw [← List.drop_drop,e3]
   rfl
  simp only [if_true]
  rw [e3,if_pos (show cN 44 (44 :: (fT (d2 :: ds) ++ 58 :: t))=true from rfl),e4,ih]
  simp [fT]
  omega
theorem V8 (b:UInt8):fC b∈([112,111,115,116,109,97,115,116,101,114]:List UInt8)→j6 b=true:=fA (Q:=fun b=>fC b∈([112,111,115,116,109,97,115,116,101,114]:List UInt8)→j6 b=true) gh b
theorem Tt (l:List UInt8) (h:jO l=true):(lG l).1=false:=by
 unfold jO at h
 simp only [Bool.and_eq_true,decide_eq_true_eq] at h
 obtain ⟨⟨h1,h2⟩,h3⟩:=h
 rw [ng,ByteArray.toList_eq] at h2
 have h2':(l.take 10).map fC= [112,111,115,116,109,97,115,116,101,114]:=by simpa [au] using h2
 have ha:∀ b,b∈l.take 10→j6 b=true:=fun b hb=>V8 b (by rw [← h2'];exact List.mem_map_of_mem hb)
 obtain ⟨c,t,hc⟩:∃ c t,l.drop 10=c :: t:=by
  cases hd:l.drop 10 with
  |nil=>rw [hd] at h3;cases h3
  |cons c t=>exact ⟨c,t,rfl⟩
 have aja:c=62:=by rw [hc] at h3;simpa [cN] using h3
 subst aja
 have e:l=l.take 10 ++ 62 :: t:=by rw [← hc,List.take_append_drop]
 have hlen:(l.take 10).length=10:=by rw [List.length_take];omega
 have hst:pK j6 (62 :: t):=by
  intro b t' e
  cases e
  decide +kernel
 have htw:l.takeWhile j6=l.take 10:=by
  conv=>lhs;rw [e]
  exact Pk hst _ ha
 have hat:gV l=(true,10):=by
  unfold gV
  rw [htw,hlen]
  rfl
 have hli:fu gV 46 l=(true,10):=by
  rw [kU,hat]
  simp only [if_true]
  rw [hc,if_neg (show ¬ cN 46 (62 :: t)=true by simp [cN])]
 have hn:cN 34 l=false:=by
  cases hl:l with
  |nil=>rfl
  |cons b l'=>
   have hb:j6 b=true:=ha b (by rw [hl];simp)
   show (b == 34)=false
   simpa using FD b hb
 have hlo:eN l=(true,au (l.take 10),10):=by
  unfold eN
  rw [if_neg (by rw [hn];decide),hli]
 unfold lG
 rw [hlo]
 simp only [if_true]
 rw [hc,if_neg (show ¬ cN 64 (62 :: t)=true by simp [cN])]
theorem V9 (l:List UInt8):jO (64 :: l)=false:=by
 cases h:jO (64 :: l) with
 |false=>rfl
 |true=>
  exfalso
  unfold jO at h
  simp only [Bool.and_eq_true,decide_eq_true_eq] at h
  obtain ⟨⟨h1,h2⟩,h3⟩:=h
  rw [ng,ByteArray.toList_eq] at h2
  have h2':((64 :: l).take 10).map fC= [112,111,115,116,109,97,115,116,101,114]:=by simpa [au] using h2
  rw [List.take_succ_cons,List.map_cons] at h2'
  have:=(List.cons.inj h2').1
  revert this
  decide
def gj (ds:List (List UInt8)) (lo dom:List UInt8) (lit:Bool):List UInt8:=match ds with
 | []=>iN lo dom lit
 |_ =>fT ds ++ 58 :: iN lo dom lit
theorem MS (ds:List (List UInt8)) (h:ds≠ []):∃ l,fT ds=64 :: l:=by
 match ds,h with
 | [d],_ =>exact ⟨_,rfl⟩
 |d :: d2 :: ds,_ =>exact ⟨_,rfl⟩
theorem Pm {ds:List (List UInt8)} {lo dom:List UInt8} {lit:Bool} (hds:∀ d,d∈ds→lI d) (h:wq lo dom lit) (t:List UInt8):
 fV (gj ds lo dom lit ++ 62 :: t)=(true,ds.map au,au lo,au dom,lit,(gj ds lo dom lit).length):=by
 have hb:=V7 h (t:=62 :: t) (tK 62 gh t) rfl
 cases ds with
 |nil=>
  show fV (iN lo dom lit ++ 62 :: t)=_
  unfold fV
  have ha:jO (iN lo dom lit ++ 62 :: t)=false:=by
   cases ha:jO (iN lo dom lit ++ 62 :: t) with
   |false=>rfl
   |true=>
    have:=Tt _ ha
    rw [hb] at this
    cases this
  have hn:cN 64 (iN lo dom lit ++ 62 :: t)=false:=by
   cases hn:cN 64 (iN lo dom lit ++ 62 :: t) with
   |false=>rfl
   |true=>
    exfalso
    have h1:(lG (iN lo dom lit ++ 62 :: t)).1=true:=by rw [hb]
    generalize iN lo dom lit ++ 62 :: t=l at hn h1
    cases l with
    |nil=>cases hn
    |cons b l=>
     have ajb:b=64:=by simpa [cN] using hn
     subst ajb
     have hlo:(eN (64 :: l)).1=false:=by
      unfold eN
      rw [if_neg (show ¬ cN 34 (64 :: l)=true by simp [cN])]
      show (fu gV 46 (64 :: l)).1=false
      rw [kU]
      have:(gV (64 :: l)).1=false:=by
       unfold gV
       rw [List.takeWhile_cons_of_neg gh]
       rfl
      rw [this]
      rfl
     unfold lG at h1
     rw [hlo] at h1
     simp at h1
  rw [if_neg (by rw [ha];decide),if_neg (by rw [hn];decide),hb]
  rfl
 |cons d ds=>
  show fV ((fT (d :: ds) ++ 58 :: iN lo dom lit) ++ 62 :: t)=_
  rw [List.append_assoc,List.cons_append]
  have hr:=FI (iN lo dom lit ++ 62 :: t) (d :: ds) aV hds
  obtain ⟨l,hl⟩:=MS (d :: ds) aV
  have hh:fT (d :: ds) ++ 58 :: (iN lo dom lit ++ 62 :: t)=64 :: (l ++ 58 :: (iN lo dom lit ++ 62 :: t)):=by rw [hl];rfl
  unfold fV
  rw [if_neg (by rw [hh,V9];decide),if_pos (by rw [hh];rfl),hr]
  simp only [if_true]
  rw [List.drop_left,if_pos (show cN 58 (58 :: (iN lo dom lit ++ 62 :: t))=true from rfl),drop_left _ _ 1]
  have e:((58:UInt8) :: (iN lo dom lit ++ 62 :: t)).drop 1=iN lo dom lit ++ 62 :: t:=rfl
  rw [e,hb]
  simp [gj]
  omega
end Go.Proofs.YtokpnfljjjjikaaGreatDoor.jo
namespace Go.Proofs.YtokpnfljjjjikaaGreatDoor.jo
open Go.RowKit Go.Proofs.YtokpnfljjjjikaaGreatDoor Go.Proofs.YtokpnfljjjjikaaGreatDoor.nK Go.Proofs.aj.bQ Go.Proofs.aj.cM
set_option linter.unusedVariables false
set_option linter.unusedSimpArgs false
theorem G6 {g:ByteArray→Bool} {xs:List ByteArray} (hf:∀ y,y∈xs→fY.f y=some (g y)):∀ (k i:Nat),xs.length - i < k→i≤xs.length→xs.length < 4611686018427387904→
 ∃ r,az.l0 k xs (xs.length:Int) (i:Int)=some r∧decide (r≥0)=(xs.drop i).any g
 | 0,_,h,_,_ =>absurd h (Nat.not_lt_zero _)
 |k + 1,i,h,hi,hl=>by
  unfold az.l0
  by_cases hlt:i < xs.length
  ·rw [if_pos aq,if_pos aq,if_pos aq]
   have hrd:jZ ByteArray.empty xs (i:Int)=xs[i]:=by simp [jZ,hlt]
   have hd:xs.drop i=xs[i] :: xs.drop (i + 1):=List.drop_eq_getElem_cons hlt
   rw [hrd,hf xs[i] (List.getElem_mem hlt),hd,List.any_cons]
   simp only [Option.bind_some]
   cases hg:g xs[i] with
   |true=>exact ⟨_,if_pos rfl,aV⟩
   |false=>
    rw [if_neg bG,rz i aq]
    obtain ⟨r,h1,h2⟩:=G6 hf k (i + 1) aq aq hl
    exact ⟨r,h1,by rw [h2];rfl⟩
  ·rw [if_neg aq,List.drop_of_length_le aq]
   exact ⟨_,rfl,rfl⟩
theorem ab0 {g:ByteArray→Bool} {xs:List ByteArray} (hf:∀ y,y∈xs→fY.f y=some (g y)) (k:Nat) (hk:xs.length < k) (hl:xs.length < 4611686018427387904):bz.f k xs=some (xs.any g):=by
 obtain ⟨r,h1,h2⟩:=G6 hf k 0 aq (Nat.zero_le _) hl
 unfold bz.f az.f
 rw [show (0:Int)=((0:Nat):Int) from rfl,h1]
 simp only [Option.bind_some]
 rw [show decide (r≥((0:Nat):Int))=decide (r≥0) from rfl,h2,List.drop_zero]
def nI (l:List UInt8):Bool:=(pu 10 255 (au l)).isNone || decide (3 < l.length)
def sy (l:List UInt8):Int:=if l.length=0 then 0 else if (pieces 58 l).any (fun p=>iQ (au p)) then -1 else ((pieces 58 l).length:Int)
def K7 (l:List UInt8):Bool:=
 if (Lib.cut l [58,58]).2.2=true then (decide (0≤sy (Lib.cut l [58,58]).1) && (decide (0≤sy (Lib.cut l [58,58]).2.1) && decide (sy (Lib.cut l [58,58]).1 + sy (Lib.cut l [58,58]).2.1≤6)))
 else sy (Lib.cut l [58,58]).1 == 8
def CU (l:List UInt8):Bool:=decide ((pieces 46 l).length=4) && !((pieces 46 l).any nI)
def tY (l:List UInt8):Bool:=decide (5 < l.length) && ((l.take 5).map fC == [105,112,118,54,58])
def FJ (l:List UInt8):Bool:=if tY l=true then K7 (l.drop 5) else CU l
theorem G7 (l:List UInt8) (hl:l.length < 4294967281):eU.f (au l)=some (sy l):=by
 unfold eU.f sy
 rw [if_pos (by exact hl)]
 congr 1
 rw [bD]
 by_cases h0:l.length=0
 ·rw [if_pos h0,if_pos h0]
 ·rw [if_neg h0,if_neg h0]
  rw [List.any_map]
  rfl
theorem FL (c:UInt8) (l:List UInt8):(pieces c l).length≤l.length + 1:=by
 rw [kZ]
 have:=List.count_le_length (a:=c) (l:=l)
 omega
theorem CV (l:List UInt8): -1≤sy l∧sy l≤l.length + 1:=by
 have h:=FL 58 l
 unfold sy
 split
 ·omega
 ·split
  ·omega
  ·omega
theorem Ze (l:List UInt8):(Lib.cut l [58,58]).1.length≤l.length∧(Lib.cut l [58,58]).2.1.length≤l.length:=by
 unfold Lib.cut
 split
 ·refine ⟨?_,?_⟩
  ·rw [List.length_take];omega
  ·rw [List.length_drop];omega
 ·exact ⟨Nat.le_refl _,Nat.zero_le _⟩
theorem ab1 (l:List UInt8) (hl:l.length < 4294967281):o8.f (au l)=some (K7 l):=by
 obtain ⟨h1,h2⟩:=Ze l
 have g1:=CV (Lib.cut l [58,58]).1
 have g2:=CV (Lib.cut l [58,58]).2.1
 unfold o8.f strings_Cut.f
 rw [if_pos (by exact hl)]
 simp only [Option.bind_some]
 show ((eU.f (au (Lib.cut l [58,58]).1)).bind fun t151=>((eU.f (au (Lib.cut l [58,58]).2.1)).bind fun t152=>_))=some (K7 l)
 rw [G7 _ aq,G7 _ aq]
 simp only [Option.bind_some]
 show (if (Lib.cut l [58,58]).2.2=true then _ else _)=_
 unfold K7
 by_cases hg:(Lib.cut l [58,58]).2.2=true
 ·rw [if_pos hg,if_pos hg]
  by_cases ha: 0≤sy (Lib.cut l [58,58]).1
  ·rw [if_pos aq,decide_eq_true ha,Bool.true_and]
   by_cases hb: 0≤sy (Lib.cut l [58,58]).2.1
   ·rw [if_pos aq,decide_eq_true hb,Bool.true_and]
    have e:wrap64 (sy (Lib.cut l [58,58]).1 + sy (Lib.cut l [58,58]).2.1)=sy (Lib.cut l [58,58]).1 + sy (Lib.cut l [58,58]).2.1:=by unfold wrap64;omega
    rw [e]
   ·rw [if_neg aq,decide_eq_false hb,Bool.false_and]
  ·rw [if_neg aq,decide_eq_false ha,Bool.false_and]
 ·rw [if_neg hg,if_neg hg]
theorem Wa (l:List UInt8) (hl:l.length < 4294967281):fY.f (au l)=some (nI l):=by
 unfold fY.f nI
 rw [if_pos iI]
 rfl
theorem FM (c:UInt8) (l x:List UInt8) (h:x∈pieces c l):x.length≤l.length:=o7 c l x h
theorem vU (l:List UInt8) (hl:l.length < 4294967281) (k:Nat) (hk:l.length + 4 < k):bW.f k (au l)=some (FJ l):=by
 obtain ⟨k,rfl⟩:∃ k',k=k' + 1:=⟨k - 1,aq⟩
 have aal:bW.j0 (k + 1) (au l) false=some (CU l):=by
  rw [bW.j0,if_neg bG,qg _ 46 zT]
  simp only [Option.bind_some]
  show (if (((pieces 46 l).map au).length:Int)=4 then _ else _)=_
  unfold CU
  have hp:=FL 46 l
  by_cases h4:(pieces 46 l).length=4
  ·rw [if_pos mK,decide_eq_true h4,Bool.true_and]
   have ha:=ab0 (g:=fun y=>nI y.data.toList) (xs:=(pieces 46 l).map au) (fun y hy=>by
    obtain ⟨p,hp,rfl⟩:=List.mem_map.mp hy
    have:=FM 46 l p hp
    exact Wa p aq) k mK mK
   show ((bz.f k ((pieces 46 l).map au)).bind _)=_
   rw [ha]
   simp only [Option.bind_some]
   rw [List.any_map]
   rfl
  ·rw [if_neg mK,decide_eq_false h4,Bool.false_and]
 unfold bW.f FJ
 rw [bD]
 by_cases h5: 5 < l.length
 ·rw [if_pos aq,if_pos bG,if_pos aq]
  have e1:(au l).extract 0 5=au (l.take 5):=by
   have:=kC (au l) 0 5 aq
   exact this
  have hf:cz.f (au (l.take 5))=some (au ((l.take 5).map fC)):=by
   unfold cz.f
   rw [if_pos (by rw [bD,List.length_take];omega),ng]
  rw [e1,hf]
  simp only [Option.bind_some]
  rw [show (au ((l.take 5).map fC)).toList=(l.take 5).map fC from ByteArray.toList_eq ..]
  have hi:tY l=((l.take 5).map fC == [105,112,118,54,58]):=by unfold tY;rw [decide_eq_true h5,Bool.true_and]
  rw [← hi]
  cases hs:tY l with
  |true=>
   rw [if_pos rfl,bW.j0,if_pos rfl,if_pos iI]
   have e2:(au l).extract 5 (au l).size=au (l.drop 5):=by
    rw [kC (au l) 5 (au l).size iI,bD]
    congr 1
    show (l.drop 5).take (l.length - 5)=l.drop 5
    exact List.take_of_length_le kW
   rw [e2,ab1 _ kW]
   rfl
  |false=>
   rw [if_neg bG]
   exact aal
 ·rw [if_neg aq,aal,if_neg (by unfold tY;rw [decide_eq_false h5];simp)]
theorem Er (l:List UInt8) (hl:l.length < 4294967281):O9 (au l)=FJ l:=by
 unfold O9
 rw [vU l hl _ iI]
 rfl
theorem ab2 (b:UInt8):(fC b == 58)=(b == 58):=fA (Q:=fun b=>(fC b == 58)=(b == 58)) gh b
theorem Zf (b:UInt8):((58:UInt8) == fC b)=((58:UInt8) == b):=fA (Q:=fun b=>((58:UInt8) == fC b)=((58:UInt8) == b)) gh b
theorem Zg (b:UInt8):rT ((fC b).toNat:Int)=rT (b.toNat:Int):=fA (Q:=fun b=>rT ((fC b).toNat:Int)=rT (b.toNat:Int)) gh b
theorem vV {c:UInt8} (hc:∀ b,(fC b == c)=(b == c)):∀ l:List UInt8,pieces c (l.map fC)=(pieces c l).map (fun p=>p.map fC)
 | []=>rfl
 |b :: l=>by
  have ih:=vV hc l
  rw [List.map_cons]
  unfold pieces
  rw [hc b,ih]
  by_cases hb:(b == c)=true
  ·rw [if_pos hb,if_pos hb]
   rfl
  ·rw [if_neg hb,if_neg hb]
   cases pieces c l with
   |nil=>rfl
   |cons p ps=>rfl
theorem xq (l:List UInt8):bytesOf (au l)=l.map fun b=>(b.toNat:Int):=rfl
theorem MT (base most:Int):∀ (l:List UInt8) (n:Int),rN base most ((l.map fC).map fun b=>(b.toNat:Int)) n=rN base most (l.map fun b=>(b.toNat:Int)) n
 | [],_ =>rfl
 |b :: l,n=>by
  rw [List.map_cons,List.map_cons,List.map_cons]
  unfold rN
  rw [Zg,MT base most l]
theorem Wb (base most:Int) (l:List UInt8):pu base most (au (l.map fC))=pu base most (au l):=by
 unfold pu
 rw [bD,bD,List.length_map,xq,xq,MT]
theorem MU (l:List UInt8):sy (l.map fC)=sy l:=by
 unfold sy
 rw [List.length_map,vV ab2,List.any_map,List.length_map]
 have e:((fun p=>iQ (au p)) ∘fun p=>List.map fC p)=fun p=>iQ (au p):=by
  funext p
  show iQ (au (p.map fC))=iQ (au p)
  unfold iQ
  rw [Wb,bD,bD,List.length_map]
 rw [e]
theorem G8:∀ l:List UInt8,Lib.index (l.map fC) [58,58]=Lib.index l [58,58]
 | []=>rfl
 |b :: l=>by
  rw [List.map_cons]
  unfold Lib.index
  rw [G8 l]
  have e:List.isPrefixOf [58,58] (fC b :: l.map fC)=List.isPrefixOf [58,58] (b :: l):=by
   cases l with
   |nil=>simp [List.isPrefixOf]
   |cons c l=>simp only [List.map_cons,List.isPrefixOf,Zf]
  rw [e]
theorem Zh (l:List UInt8):Lib.cut (l.map fC) [58,58]=((Lib.cut l [58,58]).1.map fC,(Lib.cut l [58,58]).2.1.map fC,(Lib.cut l [58,58]).2.2):=by
 unfold Lib.cut
 rw [G8]
 split
 ·rw [List.map_take,List.map_drop]
 ·rfl
theorem Wc (l:List UInt8):K7 (l.map fC)=K7 l:=by
 unfold K7
 rw [Zh,MU,MU]
theorem Tu (l:List UInt8):CU (l.map fC)=CU l:=by
 unfold CU
 rw [vV Pg,List.length_map,List.any_map]
 have e:(nI ∘fun p=>List.map fC p)=nI:=by
  funext p
  show nI (p.map fC)=nI p
  unfold nI
  rw [Wb,List.length_map]
 rw [e]
theorem MV (l:List UInt8):FJ (l.map fC)=FJ l:=by
 have h:tY (l.map fC)=tY l:=by
  unfold tY
  rw [List.length_map,← List.map_take,qV]
 unfold FJ
 rw [h,← List.map_drop,Wc,Tu]
theorem vW (c:UInt8):∀ (l:List UInt8) (b:UInt8),b∈l→b=c∨∃ p,p∈pieces c l∧b∈p
 | [],_,h=>by cases h
 |d :: l,b,h=>by
  unfold pieces
  by_cases hd:(d == c)=true
  ·rw [if_pos hd]
   rcases List.mem_cons.mp h with rfl|h
   ·exact .inl (by simpa using hd)
   ·rcases vW c l b h with h1|⟨p,hp,hb⟩
    ·exact .inl h1
    ·exact .inr ⟨p,List.mem_cons_of_mem _ hp,hb⟩
  ·rw [if_neg hd]
   have ih:=vW c l b
   cases hq:pieces c l with
   |nil=>exact absurd hq (rG c l)
   |cons p ps=>
    rw [hq] at ih
    rcases List.mem_cons.mp h with rfl|h
    ·exact .inr ⟨_,List.mem_cons_self ..,List.mem_cons_self ..⟩
    ·rcases ih h with h1|⟨p',hp,hb⟩
     ·exact .inl h1
     ·rcases List.mem_cons.mp hp with rfl|hp
      ·exact .inr ⟨_,List.mem_cons_self ..,List.mem_cons_of_mem _ hb⟩
      ·exact .inr ⟨p',List.mem_cons_of_mem _ hp,hb⟩
theorem FN (c:UInt8):∀ l:List UInt8,((pieces c l).map fun p=>p.length + 1).sum=l.length + 1
 | []=>rfl
 |d :: l=>by
  have ih:=FN c l
  unfold pieces
  by_cases hd:(d == c)=true
  ·rw [if_pos hd,List.map_cons,List.sum_cons,ih,List.length_cons,List.length_nil]
   omega
  ·rw [if_neg hd]
   cases hq:pieces c l with
   |nil=>exact absurd hq (rG c l)
   |cons p ps=>
    rw [hq,List.map_cons,List.sum_cons] at ih
    simp only [List.map_cons,List.sum_cons,List.length_cons]
    omega
theorem Wd (m:Nat):∀ L:List (List UInt8),(∀ p,p∈L→p.length≤m)→(L.map fun p=>p.length + 1).sum≤L.length * (m + 1)
 | [],_ =>Nat.zero_le _
 |p :: L,h=>by
  have ih:=Wd m L (fun q hq=>h q (List.mem_cons_of_mem _ hq))
  have h1:=h p (List.mem_cons_self ..)
  rw [List.map_cons,List.sum_cons,List.length_cons,Nat.add_mul]
  omega
theorem Bz (c:UInt8) (m:Nat) (l:List UInt8) (h:∀ p,p∈pieces c l→p.length≤m):l.length + 1≤(pieces c l).length * (m + 1):=by
 rw [← FN c l]
 exact Wd m _ h
theorem MW (base most:Int):∀ (l:List Int) (n r:Int),rN base most l n=some r→∀ c,c∈l→rT c < base
 | [],_,_,_ =>fun c h=>by cases h
 |d :: l,n,r,h=>by
  intro c hc
  unfold rN at h
  split at h
  ·cases h
  ·rename_i h1
   split at h
   ·cases h
   ·rcases List.mem_cons.mp hc with rfl|hc
    ·omega
    ·exact MW base most l _ r h c hc
theorem We (base most:Int) (l:List UInt8) (h:(pu base most (au l)).isNone=false) (b:UInt8) (hb:b∈l):rT (b.toNat:Int) < base:=by
 unfold pu at h
 split at h
 ·cases h
 ·cases hr:rN base most (bytesOf (au l)) 0 with
  |none=>rw [hr] at h;cases h
  |some r=>exact MW base most _ 0 r hr _ (List.mem_map_of_mem hb)
theorem MX (b:UInt8):rT (b.toNat:Int) < 16→jq b=true:=fA (Q:=fun b=>rT (b.toNat:Int) < 16→jq b=true) gh b
theorem FO (l:List UInt8) (h: 0≤sy l):(∀ b,b∈l→jq b=true)∧(l.length:Int)≤5 * sy l:=by
 unfold sy at h ⊢
 by_cases h0:l.length=0
 ·rw [if_pos h0]
  have:l= []:=List.eq_nil_of_length_eq_zero h0
  subst this
  exact ⟨fun b hb=>(by cases hb),aV⟩
 ·rw [if_neg h0] at h ⊢
  by_cases ha:((pieces 58 l).any fun p=>iQ (au p))=true
  ·rw [if_pos ha] at h
   omega
  ·rw [if_neg ha]
   have hg:∀ p,p∈pieces 58 l→iQ (au p)=false:=fun p hp=>by
    cases hb:iQ (au p) with
    |false=>rfl
    |true=>exact absurd (List.any_eq_true.mpr ⟨p,hp,hb⟩) ha
   refine ⟨fun b hb=>?_,?_⟩
   ·rcases vW 58 l b hb with rfl|⟨p,hp,hb⟩
    ·decide
    ·have h1:=hg p hp
     unfold iQ at h1
     rw [Bool.or_eq_false_iff] at h1
     exact MX b (We 16 65535 p h1.1 b hb)
   ·have h2:=Bz 58 4 l (fun p hp=>by
     have h1:=hg p hp
     unfold iQ at h1
     rw [Bool.or_eq_false_iff,bD] at h1
     have:=of_decide_eq_false h1.2
     omega)
    omega
theorem CW:∀ l:List UInt8,0≤Lib.index l [58,58]→l=l.take (Lib.index l [58,58]).toNat ++ 58 :: 58 :: l.drop ((Lib.index l [58,58]).toNat + 2)
 | [],h=>by simp [Lib.index] at h
 |b :: l,h=>by
  unfold Lib.index at h ⊢
  by_cases hp:List.isPrefixOf [58,58] (b :: l)=true
  ·rw [if_pos hp]
   cases l with
   |nil=>simp [List.isPrefixOf] at hp
   |cons c l=>
    simp [List.isPrefixOf] at hp
    obtain ⟨rfl,rfl⟩:=hp
    rfl
  ·rw [if_neg hp] at h ⊢
   by_cases h1:(Lib.index l [58,58] == -1)=true
   ·rw [if_pos h1] at h
    omega
   ·rw [if_neg h1] at h ⊢
    have h2: 0≤Lib.index l [58,58]:=by
     have: ¬ Lib.index l [58,58]= -1:=by simpa using h1
     omega
    have ih:=CW l h2
    obtain ⟨n,hn⟩:∃ n:Nat,Lib.index l [58,58]=n:=⟨_,(Int.toNat_of_nonneg h2).symm⟩
    rw [hn] at ih ⊢
    rw [show ((n:Int) + 1).toNat=n + 1 from by omega]
    rw [Int.toNat_natCast] at ih
    rw [List.take_succ_cons,List.cons_append,show n + 1 + 2=(n + 2) + 1 from by omega,List.drop_succ_cons,← ih]
theorem Wf (l:List UInt8) (h:K7 l=true):(∀ b,b∈l→jq b=true)∧l.length≤100:=by
 unfold K7 at h
 unfold Lib.cut at h
 by_cases hi: 0≤Lib.index l [58,58]
 ·simp only [if_pos hi,if_true,Bool.and_eq_true,decide_eq_true_eq] at h
  obtain ⟨h1,h2,h3⟩:=h
  obtain ⟨w1,n1⟩:=FO _ h1
  obtain ⟨w2,n2⟩:=FO _ h2
  have e:=CW l hi
  have e2:(Lib.index l [58,58]).toNat + [58,58].length=(Lib.index l [58,58]).toNat + 2:=rfl
  rw [show ([58,58]:List UInt8).length=2 from rfl] at w2 n2 h3
  refine ⟨fun b hb=>?_,?_⟩
  ·rw [e] at hb
   rcases List.mem_append.mp hb with hb|hb
   ·exact w1 b hb
   ·rcases List.mem_cons.mp hb with rfl|hb
    ·decide
    ·rcases List.mem_cons.mp hb with rfl|hb
     ·decide
     ·exact w2 b hb
  ·rw [e,List.length_append,List.length_cons,List.length_cons]
   omega
 ·simp only [if_neg hi,Bool.false_eq_true,if_false,beq_iff_eq] at h
  obtain ⟨w1,n1⟩:=FO l aq
  exact ⟨w1,aq⟩
theorem Tv (l:List UInt8) (h:CU l=true):(∀ b,b∈l→jq b=true)∧l.length≤100:=by
 unfold CU at h
 simp only [Bool.and_eq_true,decide_eq_true_eq,Bool.not_eq_true'] at h
 obtain ⟨h1,h2⟩:=h
 have hg:∀ p,p∈pieces 46 l→nI p=false:=fun p hp=>by
  cases hb:nI p with
  |false=>rfl
  |true=>rw [List.any_eq_true.mpr ⟨p,hp,hb⟩] at h2;cases h2
 refine ⟨fun b hb=>?_,?_⟩
 ·rcases vW 46 l b hb with rfl|⟨p,hp,hb⟩
  ·decide
  ·have h3:=hg p hp
   unfold nI at h3
   rw [Bool.or_eq_false_iff] at h3
   have:=We 10 255 p h3.1 b hb
   exact MX b aq
 ·have h4:=Bz 46 3 l (fun p hp=>by
   have h3:=hg p hp
   unfold nI at h3
   rw [Bool.or_eq_false_iff] at h3
   have:=of_decide_eq_false h3.2
   omega)
  rw [h1] at h4
  omega
theorem Wh (b:UInt8):fC b∈([105,112,118,54,58]:List UInt8)→jq b=true:=fA (Q:=fun b=>fC b∈([105,112,118,54,58]:List UInt8)→jq b=true) gh b
theorem MZ (l:List UInt8) (h:FJ l=true):(∀ b,b∈l→jq b=true)∧l.length≤255:=by
 unfold FJ at h
 by_cases hs:tY l=true
 ·rw [if_pos hs] at h
  obtain ⟨w,n⟩:=Wf _ h
  unfold tY at hs
  simp only [Bool.and_eq_true,beq_iff_eq] at hs
  refine ⟨fun b hb=>?_,by rw [List.length_drop] at n;omega⟩
  have e:l=l.take 5 ++ l.drop 5:=(List.take_append_drop 5 l).symm
  rw [e] at hb
  rcases List.mem_append.mp hb with hb|hb
  ·exact Wh b (by rw [← hs.2];exact List.mem_map_of_mem hb)
  ·exact w b hb
 ·rw [if_neg hs] at h
  obtain ⟨w,n⟩:=Tv _ h
  exact ⟨w,aq⟩
theorem Tw (b:UInt8):jq (fC b)=jq b:=fA (Q:=fun b=>jq (fC b)=jq b) gh b
end Go.Proofs.YtokpnfljjjjikaaGreatDoor.jo
namespace Go.Proofs.YtokpnfljjjjikaaGreatDoor.jo
open Go.RowKit Go.Proofs.YtokpnfljjjjikaaGreatDoor Go.Proofs.YtokpnfljjjjikaaGreatDoor.nK Go.Proofs.aj.bQ Go.Proofs.aj.cM
set_option linter.unusedVariables false
set_option linter.unusedSimpArgs false
theorem Ci (a b:List UInt8):qL (a ++ b)=qL a ++ qL b:=List.flatMap_append
theorem Wi (b:UInt8):(qL [b]).length≤2:=by
 show (qB b ++ []).length≤2
 unfold qB
 split<;>simp
theorem Zi (b:UInt8) (h1: ¬ b=34) (h2: ¬ b=92):(qL [b]).length=1:=by
 show (qB b ++ []).length=1
 unfold qB
 rw [if_neg (fun h=>h.elim h1 h2)]
 rfl
theorem aam:∀ l:List UInt8,l.length≤(qL l).length
 | []=>Nat.le_refl _
 |b :: l=>by
  have ih:=aam l
  have e:qL (b :: l)=qB b ++ qL l:=rfl
  rw [e,List.length_append]
  unfold qB
  split<;>simp<;>omega
theorem vX:∀ (n:Nat) (l acc:List UInt8),l.length < n→(kj l acc).1=true→∃ x,(kj l acc).2.1=acc ++ x∧(qL x).length + 1≤(kj l acc).2.2
 | 0,_,_,h,_ =>absurd h (Nat.not_lt_zero _)
 |n + 1,l,acc,h,ho=>by
  cases l with
  |nil=>unfold kj at ho;cases ho
  |cons b l=>
   unfold kj at ho ⊢
   by_cases hq:b=34
   ·rw [if_pos hq] at ho ⊢
    exact ⟨[],aV,by simp [qL]⟩
   ·rw [if_neg hq] at ho ⊢
    by_cases hb:b=92
    ·rw [if_pos hb] at ho ⊢
     cases l with
     |nil=>cases ho
     |cons c l'=>
      by_cases hc:c < 32∨126 < c
      ·simp only [if_pos hc] at ho
       cases ho
      ·simp only [if_neg hc] at ho ⊢
       obtain ⟨x,h1,h2⟩:=vX n l' (acc ++ [c]) xA ho
       refine ⟨c :: x,by rw [h1];simp,?_⟩
       have e:qL (c :: x)=qL [c] ++ qL x:=Ci [c] x
       rw [e,List.length_append]
       have:=Wi c
       omega
    ·rw [if_neg hb] at ho ⊢
     by_cases hc:b < 32∨126 < b
     ·rw [if_pos hc] at ho
      cases ho
     ·rw [if_neg hc] at ho ⊢
      obtain ⟨x,h1,h2⟩:=vX n l (acc ++ [b]) xA ho
      refine ⟨b :: x,by rw [h1];simp,?_⟩
      have e:qL (b :: x)=qL [b] ++ qL x:=Ci [b] x
      rw [e,List.length_append,Zi b hq hb]
      show _≤_ + 1
      omega
theorem Gw (l:List UInt8) (h:(eN l).1=true):(pL (xp l)).length≤(eN l).2.2:=by
 unfold eN at h ⊢
 unfold xp
 by_cases hq:cN 34 l=true
 ·rw [if_pos hq] at h ⊢
  rw [if_pos hq]
  obtain ⟨x,h1,h2⟩:=vX _ (l.drop 1) [] (Nat.lt_succ_self _) h
  rw [List.nil_append] at h1
  rw [h1]
  have h3:=aam x
  unfold pL
  split
  ·show x.length≤1 + _
   omega
  ·show (34 :: (qL x ++ [34])).length≤1 + _
   rw [List.length_cons,List.length_append,List.length_cons,List.length_nil]
   omega
 ·rw [if_neg hq] at h ⊢
  rw [if_neg hq]
  have h1:=Pf l h
  have hle:(fu gV 46 l).2≤l.length:=uk gV 46 xh _ l (Nat.lt_succ_self _)
  have hp:Ch (l.take (fu gV 46 l).2)=true:=by
   unfold Ch
   rw [h1,List.length_take,Nat.min_eq_left hle]
   simp
  unfold pL
  rw [if_pos hp,List.length_take]
  exact Nat.min_le_left _ _
theorem Wj (l:List UInt8) (hl:l.length < 4294967281) (h:(lG l).1=true):∃ (lo dom:List UInt8) (lit:Bool),wq lo dom lit∧(lG l).2.1=au lo∧(lG l).2.2.1=au dom∧(lG l).2.2.2.1=lit∧(iN lo dom lit).length≤(lG l).2.2.2.2∧dom≠ []∧(lit=true→dom.length≤255):=by
 have hlo:(eN l).1=true:=by
  unfold lG at h
  by_cases h1:(eN l).1=true
  ·exact h1
  ·rw [if_neg h1] at h
   cases h
 have hs:=Gw l hlo
 unfold lG at h ⊢
 rw [if_pos hlo] at h ⊢
 by_cases h2:cN 64 (l.drop (eN l).2.2)=true
 ·rw [if_pos h2] at h ⊢
  by_cases h3:cN 91 (l.drop ((eN l).2.2 + 1))=true
  ·rw [if_pos h3] at h ⊢
   generalize hw:(l.drop ((eN l).2.2 + 2)).takeWhile jq=w at h ⊢
   have hwl:w.length≤l.length:=by
    rw [← hw]
    refine Nat.le_trans (nH _ _) ?_
    rw [List.length_drop];omega
   by_cases h4:cN 93 (l.drop ((eN l).2.2 + 2 + w.length))=true
   ·rw [if_pos h4] at h ⊢
    simp only at h
    rw [Er w aq] at h
    have hg:=MZ _ h
    refine ⟨xp l,w.map fC,true,⟨CT l,fun e=>(by cases e),fun _ =>⟨?_,?_,qV w⟩⟩,CS l,ng w,rfl,?_,?_,fun _ =>by rw [List.length_map];exact hg.2⟩
    ·rw [Er _ mK,MV]
     exact h
    ·intro b hb
     obtain ⟨c,hc,rfl⟩:=List.mem_map.mp hb
     rw [Tw]
     exact hg.1 c hc
    ·unfold iN
     rw [if_pos rfl,List.length_append]
     simp
     omega
    ·intro e
     have e2:w= []:=List.map_eq_nil_iff.mp e
     rw [e2] at h
     exact absurd h gh
   ·rw [if_neg h4] at h
    cases h
  ·rw [if_neg h3] at h ⊢
   have hd:=Sm _ h
   refine ⟨xp l,um (l.drop ((eN l).2.2 + 1)),false,⟨CT l,fun _ =>hd,fun e=>(by cases e)⟩,CS l,Cg _,rfl,?_,?_,fun e=>(by cases e)⟩
   ·unfold iN
    rw [if_neg bG,List.length_append,List.length_cons,xm]
    show _≤(eN l).2.2 + 1 + _
    omega
   ·obtain ⟨b,d',e,_⟩:=hd.head
    rw [e]
    simp
 ·rw [if_neg h2] at h
  cases h
theorem M3:∀ (n:Nat) (l:List UInt8),l.length < n→(iw l).1=true→∃ ds:List (List UInt8),ds≠ []∧(∀ d,d∈ds→lI d)∧(iw l).2.1=ds.map au∧(fT ds).length≤(iw l).2.2
 | 0,_,h,_ =>absurd h (Nat.not_lt_zero _)
 |n + 1,l,h,ho=>by
  rw [rJ] at ho ⊢
  by_cases h1:(jJ l).1=true
  ·rw [if_pos h1] at ho ⊢
   have h64:cN 64 l=true:=by
    unfold jJ at h1
    by_cases h64:cN 64 l=true
    ·exact h64
    ·rw [if_neg h64] at h1
     cases h1
   have e:jJ l=((oD (l.drop 1)).1,(oD (l.drop 1)).2.1,1 + (oD (l.drop 1)).2.2):=by
    unfold jJ
    rw [if_pos h64]
   have hd1:(oD (l.drop 1)).1=true:=by rw [e] at h1;exact h1
   have hd:=Sm _ hd1
   by_cases h2:cN 44 (l.drop (jJ l).2.2)=true
   ·have h3:=gq h2
    rw [if_pos h2] at ho ⊢
    obtain ⟨ds,h4,h5,h6,h7⟩:=M3 n (l.drop ((jJ l).2.2 + 1)) kW ho
    refine ⟨um (l.drop 1) :: ds,aV,fun d hd'=>?_,?_,?_⟩
    ·rcases List.mem_cons.mp hd' with rfl|hd'
     ·exact hd
     ·exact h5 d hd'
    ·show (jJ l).2.1 :: _=_
     rw [h6,e,List.map_cons]
     show (oD (l.drop 1)).2.1 :: _=_
     rw [Cg]
    ·obtain ⟨d2,ds',rfl⟩:∃ d2 ds',ds=d2 :: ds':=by
      cases ds with
      |nil=>exact absurd rfl h4
      |cons d2 ds'=>exact ⟨d2,ds',rfl⟩
     show (64 :: (um (l.drop 1) ++ 44 :: fT (d2 :: ds'))).length≤(jJ l).2.2 + 1 + _
     rw [List.length_cons,List.length_append,List.length_cons,xm,e]
     simp only
     rw [e] at h7
     simp only at h7
     omega
   ·rw [if_neg h2] at ho ⊢
    refine ⟨[um (l.drop 1)],aV,fun d hd'=>?_,?_,?_⟩
    ·rw [List.mem_singleton.mp hd']
     exact hd
    ·rw [e]
     show [(oD (l.drop 1)).2.1]= [au _]
     rw [Cg]
    ·show (64 :: um (l.drop 1)).length≤_
     rw [List.length_cons,xm,e]
     simp only
     omega
  ·rw [if_neg h1] at ho
   cases ho
theorem Wk (l:List UInt8) (hl:l.length < 4294967281) (h0:jO l=false) (h:(fV l).1=true):∃ (ds:List (List UInt8)) (lo dom:List UInt8) (lit:Bool),(∀ d,d∈ds→lI d)∧wq lo dom lit∧fV l=(true,ds.map au,au lo,au dom,lit,(fV l).2.2.2.2.2)∧(gj ds lo dom lit).length≤(fV l).2.2.2.2.2∧dom≠ []∧(lit=true→dom.length≤255):=by
 unfold fV at h ⊢
 rw [if_neg (by rw [h0];decide)] at h ⊢
 by_cases h1:cN 64 l=true
 ·rw [if_pos h1] at h ⊢
  by_cases h2:(iw l).1=true
  ·rw [if_pos h2] at h ⊢
   obtain ⟨ds,r1,r2,r3,r4⟩:=M3 _ l (Nat.lt_succ_self _) h2
   by_cases h3:cN 58 (l.drop (iw l).2.2)=true
   ·rw [if_pos h3] at h ⊢
    obtain ⟨lo,dom,lit,b1,b2,b3,b4,b5,b6,b7⟩:=Wj (l.drop ((iw l).2.2 + 1)) kW h
    refine ⟨ds,lo,dom,lit,r2,b1,?_,?_,b6,b7⟩
    ·rw [r3,b2,b3,b4]
     rw [show (lG (l.drop ((iw l).2.2 + 1))).1=true from h]
    ·cases ds with
     |nil=>exact absurd rfl r1
     |cons d ds=>
      show (fT (d :: ds) ++ 58 :: iN lo dom lit).length≤(iw l).2.2 + 1 + _
      rw [List.length_append,List.length_cons]
      omega
   ·rw [if_neg h3] at h
    cases h
  ·rw [if_neg h2] at h
   cases h
 ·rw [if_neg h1] at h ⊢
  obtain ⟨lo,dom,lit,b1,b2,b3,b4,b5,b6,b7⟩:=Wj l hl h
  refine ⟨[],lo,dom,lit,fun d hd=>(by cases hd),b1,?_,b5,b6,b7⟩
  rw [b2,b3,b4]
  rw [show (lG l).1=true from h]
  rfl
end Go.Proofs.YtokpnfljjjjikaaGreatDoor.jo
namespace Go.Proofs.YtokpnfljjjjikaaGreatDoor.jo
open Go.RowKit Go.Proofs.YtokpnfljjjjikaaGreatDoor Go.Proofs.YtokpnfljjjjikaaGreatDoor.nK Go.Proofs.aj.bQ Go.Proofs.aj.cM
abbrev Sp:=Bool×List ByteArray×ByteArray×ByteArray×Bool×Int×Int
def K8:Sp:=(false,[],⟨#[]⟩,⟨#[]⟩,false,0,150)
def K9:Sp:=(true,[],⟨#[]⟩,⟨#[]⟩,false,2,0)
theorem Cj (s:ByteArray):rest s 0=s.data.toList:=rfl
theorem prefix_eq (s:ByteArray) (hs:s.size < 4611686018427387904):strings_HasPrefix.f s ⟨#[60,62]⟩=some (wo s.data.toList):=by
 have hlen:=dh s
 unfold strings_HasPrefix.f stringslite_HasPrefix.f
 have h2:((⟨#[60,62]⟩:ByteArray).size:Int)=2:=rfl
 rw [h2]
 by_cases h: 2≤s.size
 ·rw [if_pos aq,if_pos aq,if_pos aq]
  simp only [Option.bind_some]
  congr 1
  have e:s.extract 0 ((2:Int)).toNat=au (s.data.toList.take 2):=by
   have:=kC s 0 2 aq
   simpa [Cj] using this
  rw [e,ByteArray.toList_eq,ByteArray.toList_eq]
  show (s.data.toList.take 2 == [60,62])=_
  unfold wo
  rcases hl:s.data.toList with _|⟨a,_|⟨b,l⟩⟩
  ·rw [hl] at hlen;simp at hlen;omega
  ·rw [hl] at hlen;simp at hlen;omega
  ·show ([a,b] == [60,62])=((a == 60) && (b == 62))
   simp [BEq.beq,List.beq]
 ·rw [if_neg aq]
  simp only [Option.bind_some]
  congr 1
  unfold wo
  rcases hl:s.data.toList with _|⟨a,_|⟨b,l⟩⟩
  ·rfl
  ·show false=((a == 60) && false)
   rw [Bool.and_false]
  ·rw [hl] at hlen;simp at hlen;omega
theorem Pn (k:Nat) (hk: 0 < k) (s:ByteArray) (q:Int) (a:Bool) (b:List ByteArray) (c d:ByteArray) (e:Bool):bT.j0 k true s q a b c d e=some K8:=by
 obtain ⟨k,rfl⟩:∃ k',k=k' + 1:=⟨k - 1,aq⟩
 rw [bT.j0,if_pos rfl]
 rfl
theorem rZ (s:ByteArray) (hs:s.size < 4294967281) (k:Nat) (h:wo s.data.toList=true):bT.f k s=some K9:=by
 unfold bT.f
 rw [prefix_eq s aq]
 simp only [Option.bind_some]
 rw [if_pos h]
 rfl
theorem uo (s:ByteArray) (hs:s.size < 4294967281) (k:Nat) (hk:s.size + 6 < k) (h0:wo s.data.toList=false) (h:Gv s.data.toList=true):
 bT.f k s=bT.j0 k false s ((2 + (fV (s.data.toList.drop 1)).2.2.2.2.2:Nat):Int) false (fV (s.data.toList.drop 1)).2.1 (fV (s.data.toList.drop 1)).2.2.1 (fV (s.data.toList.drop 1)).2.2.2.1 (fV (s.data.toList.drop 1)).2.2.2.2.1:=by
 unfold Gv at h
 simp only [Bool.and_eq_true] at h
 obtain ⟨⟨h1,h2⟩,h3⟩:=h
 have hpos:=oG h1
 rw [dh] at hpos
 unfold bT.f
 rw [prefix_eq s aq]
 simp only [Option.bind_some]
 rw [if_neg (by rw [h0];decide)]
 rw [show (0:Int)=((0:Nat):Int) from rfl,nG s 0 60 60 rfl aq,Cj,if_pos h1]
 simp only [Option.bind_some,Nat.zero_add]
 have hr1:rest s 1=s.data.toList.drop 1:=rfl
 rw [inner_eq s hs k 1 oW aq,hr1]
 simp only [Option.bind_some]
 rw [if_pos h1,if_pos h2,nG s _ 62 62 rfl aq]
 have hr2:rest s (1 + (fV (s.data.toList.drop 1)).2.2.2.2.2)=s.data.toList.drop (1 + (fV (s.data.toList.drop 1)).2.2.2.2.2):=rfl
 rw [hr2,h3]
 simp only [Option.bind_some,if_true,Bool.not_true]
 rw [show 1 + (fV (s.data.toList.drop 1)).2.2.2.2.2 + 1=2 + (fV (s.data.toList.drop 1)).2.2.2.2.2 from by omega]
theorem Ck (s:ByteArray) (hs:s.size < 4294967281) (k:Nat) (hk:s.size + 6 < k) (h:∀ n,¬ FA s.data.toList n):bT.f k s=some K8:=by
 have h0:wo s.data.toList=false:=by
  cases hn:wo s.data.toList with
  |false=>rfl
  |true=>exact absurd (.inl ⟨hn,rfl⟩) (h 2)
 have hs0: ¬ Gv s.data.toList=true:=fun hy=>h _ (.inr ⟨h0,hy,rfl⟩)
 unfold bT.f
 rw [prefix_eq s aq]
 simp only [Option.bind_some]
 rw [if_neg (by rw [h0];decide)]
 rw [show (0:Int)=((0:Nat):Int) from rfl,nG s 0 60 60 rfl aq,Cj]
 simp only [Option.bind_some]
 by_cases h1:cN 60 s.data.toList=true
 ·have hpos:=oG h1
  rw [dh] at hpos
  have hr1:rest s 1=s.data.toList.drop 1:=rfl
  rw [if_pos h1]
  simp only [Nat.zero_add]
  rw [inner_eq s hs k 1 oW aq,hr1]
  simp only [Option.bind_some]
  rw [if_pos h1]
  by_cases h2:(fV (s.data.toList.drop 1)).1=true
  ·rw [if_pos h2,nG s _ 62 62 rfl aq]
   simp only [Option.bind_some]
   have hr2:rest s (1 + (fV (s.data.toList.drop 1)).2.2.2.2.2)=s.data.toList.drop (1 + (fV (s.data.toList.drop 1)).2.2.2.2.2):=rfl
   have h3:cN 62 (rest s (1 + (fV (s.data.toList.drop 1)).2.2.2.2.2))=false:=by
    rw [hr2]
    cases h3:cN 62 (s.data.toList.drop (1 + (fV (s.data.toList.drop 1)).2.2.2.2.2)) with
    |false=>rfl
    |true=>exact absurd (by unfold Gv;rw [h1,h2,h3];rfl) hs0
   rw [h3]
   exact Pn k aq _ _ _ _ _ _ _
  ·rw [if_neg h2]
   exact Pn k aq _ _ _ _ _ _ _
 ·rw [if_neg h1]
  rw [inner_eq s hs k 0 oW aq]
  simp only [Option.bind_some]
  rw [if_neg h1]
  exact Pn k aq _ _ _ _ _ _ _
theorem Po (s:ByteArray) (hs:s.size < 4294967281) (k:Nat) (hk: 2 * s.size + 10 < k):∃ r,bT.f k s=some r:=by
 by_cases h:∃ n,FA s.data.toList n
 ·obtain ⟨n,⟨h,_⟩|⟨h0,h,_⟩⟩:=h
  ·exact ⟨_,rZ s hs k h⟩
  ·rw [uo s hs k aq h0 h]
   obtain ⟨h1,h2,h3⟩:=xk (s.data.toList.drop 1)
   rw [List.length_drop,dh] at h1 h2 h3
   exact Tj k s _ false _ _ _ _ s.size (fun y hy=>Nat.le_trans (h2 y hy) aq) aq aq aq
 ·exact ⟨_,Ck s hs k aq (fun n hn=>h ⟨n,hn⟩)⟩
theorem M4 (b:List ByteArray) (c d c2 d2:ByteArray) (a e a2 e2:Bool):∀ (k i:Nat),b.length - i < k→i≤b.length→b.length < 4611686018427387904→bA.l0 k (b.length:Int) (i:Int) a b c d e a2 b c2 d2 e2=some true
 | 0,_,h,_,_ =>absurd h (Nat.not_lt_zero _)
 |k + 1,i,h,hi,hl=>by
  unfold bA.l0
  by_cases hlt:i < b.length
  ·rw [if_pos aq,if_pos aq,if_pos aq,if_pos aq,if_pos rfl,rz i aq]
   exact M4 b c d c2 d2 a e a2 e2 k (i + 1) aq aq hl
  ·rw [if_neg aq]
theorem Tx (a:Bool) (b:List ByteArray) (c d:ByteArray) (e:Bool) (k:Nat) (hk:b.length + 2 < k) (hl:b.length < 4611686018427387904):bA.f k a b c d e a b c d e=some true:=by
 unfold bA.f
 obtain ⟨k,rfl⟩:∃ k',k=k' + 1:=⟨k - 1,aq⟩
 rw [if_neg aV,if_neg aV,bA.j0,if_neg aV]
 exact M4 b c d c d a e a e k 0 aq (Nat.zero_le _) hl
theorem M5 (s:ByteArray) (hs:s.size < 4294967281) (k:Nat) (hk:s.size + 6 < k) {a:Bool} {b:List ByteArray} {c d:ByteArray} {e:Bool} {q z:Int} (h:bT.f k s=some (a,b,c,d,e,q,z)):b.length≤s.size + 1:=by
 by_cases hn:∃ n,FA s.data.toList n
 ·obtain ⟨n,⟨h1,_⟩|⟨h0,h1,_⟩⟩:=hn
  ·rw [rZ s hs k h1] at h
   simp only [K9,Option.some.injEq,Prod.mk.injEq] at h
   rw [← h.2.1]
   exact Nat.zero_le _
  ·rw [uo s hs k hk h0 h1] at h
   obtain ⟨h3,_,_⟩:=xk (s.data.toList.drop 1)
   rw [List.length_drop,dh] at h3
   obtain ⟨k,rfl⟩:∃ k',k=k' + 1:=⟨k - 1,aq⟩
   rw [bT.j0,if_neg bG] at h
   obtain ⟨w,_,h⟩:=Option.bind_eq_some_iff.mp h
   split at h
   ·split at h
    ·simp only [Option.some.injEq,Prod.mk.injEq] at h
     rw [← h.2.1]
     exact Nat.zero_le _
    ·obtain ⟨w2,_,h⟩:=Option.bind_eq_some_iff.mp h
     split at h
     ·simp only [Option.some.injEq,Prod.mk.injEq] at h
      rw [← h.2.1]
      exact Nat.zero_le _
     ·simp only [Option.some.injEq,Prod.mk.injEq] at h
      rw [← h.2.1]
      omega
   ·simp only [Option.some.injEq,Prod.mk.injEq] at h
    rw [← h.2.1]
    exact Nat.zero_le _
 ·rw [Ck s hs k hk (fun n h=>hn ⟨n,h⟩)] at h
  simp only [K8,Option.some.injEq,Prod.mk.injEq] at h
  rw [← h.2.1]
  exact Nat.zero_le _
end Go.Proofs.YtokpnfljjjjikaaGreatDoor.jo
namespace Go.Proofs.YtokpnfljjjjikaaGreatDoor.jo
open Go.RowKit Go.Proofs.YtokpnfljjjjikaaGreatDoor Go.Proofs.YtokpnfljjjjikaaGreatDoor.nK Go.Proofs.aj.bQ Go.Proofs.aj.cM
set_option linter.unusedVariables false
set_option linter.unusedSimpArgs false
def iK (x:ByteArray):Bool:=(eK.f (x.size + 3) x).getD false
theorem uq (x:ByteArray) (k:Nat) (hk:x.size + 2 < k):eK.f k x=some (iK x):=by
 obtain ⟨r,hr⟩:=zC x (x.size + 3) aq
 have h1:iK x=r:=by unfold iK;rw [hr];rfl
 rw [h1]
 exact kN (fun k=>eK.mono x k) aq hr
theorem Pp (x:ByteArray) (h:iK x=true):x.size≤255:=by
 have h1:=uq x (x.size + 3) aq
 rw [h] at h1
 unfold eK.f at h1
 split at h1
 ·omega
 ·cases h1
theorem CX {g:ByteArray→Bool} {k0:Nat} {xs:List ByteArray} (hf:∀ y,y∈xs→∀ k,k0≤k→fQ.f k y=some (g y)):∀ (k i:Nat),xs.length - i + k0 < k→i≤xs.length→xs.length < 4611686018427387904→
 ∃ r,aD.l0 k xs (xs.length:Int) (i:Int)=some r∧decide (r≥0)=(xs.drop i).any g
 | 0,_,h,_,_ =>absurd h (Nat.not_lt_zero _)
 |k + 1,i,h,hi,hl=>by
  unfold aD.l0
  by_cases hlt:i < xs.length
  ·rw [if_pos aq,if_pos aq,if_pos aq]
   have hrd:jZ ByteArray.empty xs (i:Int)=xs[i]:=by simp [jZ,hlt]
   have hd:xs.drop i=xs[i] :: xs.drop (i + 1):=List.drop_eq_getElem_cons hlt
   rw [hrd,hf xs[i] (List.getElem_mem hlt) k aq,hd,List.any_cons]
   simp only [Option.bind_some]
   cases hg:g xs[i] with
   |true=>exact ⟨_,if_pos rfl,aV⟩
   |false=>
    rw [if_neg bG,rz i aq]
    obtain ⟨r,h1,h2⟩:=CX hf k (i + 1) aq aq hl
    exact ⟨r,h1,by rw [h2];rfl⟩
  ·rw [if_neg aq,List.drop_of_length_le aq]
   exact ⟨_,rfl,rfl⟩
theorem FP {g:ByteArray→Bool} {k0:Nat} {xs:List ByteArray} (hf:∀ y,y∈xs→∀ k,k0≤k→fQ.f k y=some (g y)) (k:Nat) (hk:xs.length + k0 < k) (hl:xs.length < 4611686018427387904):bu.f k xs=some (xs.any g):=by
 obtain ⟨r,h1,h2⟩:=CX hf k 0 aq (Nat.zero_le _) hl
 unfold bu.f aD.f
 rw [show (0:Int)=((0:Nat):Int) from rfl,h1]
 simp only [Option.bind_some]
 rw [show decide (r≥((0:Nat):Int))=decide (r≥0) from rfl,h2,List.drop_zero]
theorem CY {g:ByteArray→Bool} {k0:Nat} {xs:List ByteArray} (hf:∀ y,y∈xs→∀ k,k0≤k→kB.f k y=some (g y)):∀ (k i:Nat),xs.length - i + k0 < k→i≤xs.length→xs.length < 4611686018427387904→
 ∃ r,bE.l0 k xs (xs.length:Int) (i:Int)=some r∧decide (r≥0)=(xs.drop i).any g
 | 0,_,h,_,_ =>absurd h (Nat.not_lt_zero _)
 |k + 1,i,h,hi,hl=>by
  unfold bE.l0
  by_cases hlt:i < xs.length
  ·rw [if_pos aq,if_pos aq,if_pos aq]
   have hrd:jZ ByteArray.empty xs (i:Int)=xs[i]:=by simp [jZ,hlt]
   have hd:xs.drop i=xs[i] :: xs.drop (i + 1):=List.drop_eq_getElem_cons hlt
   rw [hrd,hf xs[i] (List.getElem_mem hlt) k aq,hd,List.any_cons]
   simp only [Option.bind_some]
   cases hg:g xs[i] with
   |true=>exact ⟨_,if_pos rfl,aV⟩
   |false=>
    rw [if_neg bG,rz i aq]
    obtain ⟨r,h1,h2⟩:=CY hf k (i + 1) aq aq hl
    exact ⟨r,h1,by rw [h2];rfl⟩
  ·rw [if_neg aq,List.drop_of_length_le aq]
   exact ⟨_,rfl,rfl⟩
theorem M6 {g:ByteArray→Bool} {k0:Nat} {xs:List ByteArray} (hf:∀ y,y∈xs→∀ k,k0≤k→kB.f k y=some (g y)) (k:Nat) (hk:xs.length + k0 < k) (hl:xs.length < 4611686018427387904):bZ.f k xs=some (xs.any g):=by
 obtain ⟨r,h1,h2⟩:=CY hf k 0 aq (Nat.zero_le _) hl
 unfold bZ.f bE.f
 rw [show (0:Int)=((0:Nat):Int) from rfl,h1]
 simp only [Option.bind_some]
 rw [show decide (r≥((0:Nat):Int))=decide (r≥0) from rfl,h2,List.drop_zero]
structure Fits (ds:List (List UInt8)) (lo dom:List UInt8) (lit:Bool):Prop where
 los:lo.length≤64
 doms:lit=false→iK (au dom)=true
 many:ds.length≤20
 each:∀ d,d∈ds→iK (au d)=true
theorem rK (lo dom:List UInt8) (lit:Bool) (k:Nat) (hk:dom.length + 2 < k):ey.f k (au lo) (au dom) lit=some (decide (lo.length≤64) && (lit || iK (au dom))):=by
 unfold ey.f
 rw [bD]
 by_cases h:lo.length≤64
 ·rw [if_pos aq,decide_eq_true h,Bool.true_and]
  cases lit with
  |true=>rfl
  |false=>
   rw [if_neg bG,uq _ k (by rw [bD];exact hk)]
   rfl
 ·rw [if_neg aq,decide_eq_false h]
  rfl
theorem G9 (y:ByteArray) (k:Nat) (hk:y.size + 2 < k):fQ.f k y=some (!iK y):=by
 unfold fQ.f
 rw [uq y k hk]
 rfl
theorem aev (k:Nat) (s:ByteArray) (q:Int) (ds:List (List UInt8)) (lo dom:List UInt8) (lit:Bool) (M:Nat) (hM:∀ d,d∈ds→d.length≤M) (hd:dom.length≤M) (hk:ds.length + M + 5 < k) (hl:ds.length < 4611686018427387904):
 (Fits ds lo dom lit∧bT.j0 k false s q false (ds.map au) (au lo) (au dom) lit=some (false,ds.map au,au lo,au dom,lit,q,0))∨bT.j0 k false s q false (ds.map au) (au lo) (au dom) lit=some (false,[],⟨#[]⟩,⟨#[]⟩,false,0,3):=by
 obtain ⟨k,rfl⟩:∃ k',k=k' + 1:=⟨k - 1,aq⟩
 rw [bT.j0,if_neg bG,rK lo dom lit k aq]
 simp only [Option.bind_some]
 by_cases hw:(decide (lo.length≤64) && (lit || iK (au dom)))=true
 ·rw [if_pos hw,List.length_map]
  by_cases h20:ds.length≤20
  ·rw [if_neg aq]
   rw [FP (g:=fun y=>!iK y) (k0:=M + 3) (fun y hy k hk=>by
    obtain ⟨d,hd',rfl⟩:=List.mem_map.mp hy
    have:=hM d hd'
    exact G9 _ k iI) k mK (by rw [List.length_map];exact hl)]
   simp only [Option.bind_some]
   by_cases ha:((ds.map au).any fun y=>!iK y)=true
   ·rw [if_pos ha]
    exact .inr rfl
   ·rw [if_neg ha]
    simp only [Bool.and_eq_true,decide_eq_true_eq,Bool.or_eq_true] at hw
    refine .inl ⟨⟨hw.1,fun e=>?_,h20,fun d hd'=>?_⟩,rfl⟩
    ·rcases hw.2 with h|h
     ·rw [e] at h;cases h
     ·exact h
    ·cases hs:iK (au d) with
     |true=>rfl
     |false=>exact absurd (List.any_eq_true.mpr ⟨au d,List.mem_map_of_mem hd',by rw [hs];rfl⟩) ha
  ·rw [if_pos aq]
   exact .inr rfl
 ·rw [if_neg hw]
  exact .inr rfl
theorem Zj (k:Nat) (s:ByteArray) (q:Int) (ds:List (List UInt8)) (lo dom:List UInt8) (lit:Bool) (hf:Fits ds lo dom lit) (M:Nat) (hM:∀ d,d∈ds→d.length≤M) (hd:dom.length≤M) (hk:ds.length + M + 5 < k):
 bT.j0 k false s q false (ds.map au) (au lo) (au dom) lit=some (false,ds.map au,au lo,au dom,lit,q,0):=by
 have hl:=hf.many
 obtain ⟨k,rfl⟩:∃ k',k=k' + 1:=⟨k - 1,aq⟩
 rw [bT.j0,if_neg bG,rK lo dom lit k aq]
 simp only [Option.bind_some]
 have hw:(decide (lo.length≤64) && (lit || iK (au dom)))=true:=by
  rw [decide_eq_true hf.los,Bool.true_and]
  cases lit with
  |true=>rfl
  |false=>rw [hf.doms rfl];rfl
 rw [if_pos hw,List.length_map,if_neg aq]
 rw [FP (g:=fun y=>!iK y) (k0:=M + 3) (fun y hy k hk=>by
  obtain ⟨d,hd',rfl⟩:=List.mem_map.mp hy
  have:=hM d hd'
  exact G9 _ k iI) k mK mK]
 simp only [Option.bind_some]
 rw [if_neg]
 intro ha
 obtain ⟨y,hy,h1⟩:=List.any_eq_true.mp ha
 obtain ⟨d,hd',rfl⟩:=List.mem_map.mp hy
 rw [hf.each d hd'] at h1
 cases h1
theorem yR (l:List UInt8):rest (au l) 0=l:=rfl
theorem Ty (d:List UInt8) (h:lI d) (hs:iK (au d)=true) (hl:d.length < 4294967281) (k:Nat) (hk:d.length + 3 < k):eD.f k (au d)=some true:=by
 unfold eD.f
 have h1:=domain_eq (au d) iI k 0 (by rw [yR];omega) (Nat.zero_le _)
 rw [yR] at h1
 have h2:=h.read (t:=[]) (by intro b t' e;cases e) rfl
 rw [List.append_nil] at h2
 rw [h2] at h1
 rw [show (0:Int)=((0:Nat):Int) from rfl,h1]
 simp only [Option.bind_some]
 rw [if_pos trivial,if_pos iI,uq _ k iI,hs]
 rfl
theorem Sq (d:List UInt8) (h:d.map fC=d) (hl:d.length < 4294967281):cz.f (au d)=some (au d):=by
 unfold cz.f
 rw [if_pos iI,ng,h]
theorem toList_mk (l:List UInt8):(au l).toList=l:=ByteArray.toList_eq ..
theorem Sr (d:List UInt8) (h:lI d) (hs:iK (au d)=true) (hl:d.length < 4294967281) (k:Nat) (hk:d.length + 3 < k):j5.f k (au d)=some true:=by
 unfold j5.f
 rw [Ty d h hs hl k hk]
 simp only [Option.bind_some]
 rw [if_pos trivial,Sq d h.2 hl]
 simp
theorem Zk (l:List UInt8) (i:Nat) (hi:i < l.length) (h:∀ b,b∈l→yY b): ¬ bt (au l) (i:Int) < 32∧¬ bt (au l) (i:Int) > 126:=by
 have e:=Sj l i hi
 have hf:yY (l.getD i 0):=h _ (by
  rw [List.getD_eq_getElem?_getD,List.getElem?_eq_getElem hi]
  exact List.getElem_mem hi)
 rw [e]
 refine ⟨fun h1=>hf (.inl (O8.mp h1)),fun h1=>hf (.inr (Fq.mp h1))⟩
theorem He {ds:List (List UInt8)} {lo dom:List UInt8} {lit:Bool} (h:wq lo dom lit) (hf:Fits ds lo dom lit) (hl:dom.length < 4294967281):∀ (k i:Nat),lo.length - i + dom.length + 6 < k→i≤lo.length→
 dL.l0 k (lo.length:Int) (i:Int) (au lo) (au dom) lit=some true
 | 0,_,h,_ =>absurd h (Nat.not_lt_zero _)
 |k + 1,i,hk,hi=>by
  have h64:=hf.los
  unfold dL.l0
  by_cases hlt:i < lo.length
  ·obtain ⟨b1,b2⟩:=Zk lo i hlt h.los
   rw [if_pos aq,if_pos aq,if_pos iI,if_neg b1,if_neg b2,rz i aq]
   exact He h hf hl k (i + 1) aq aq
  ·rw [if_neg aq]
   cases lit with
   |true=>
    obtain ⟨w1,w2,w3⟩:=h.words rfl
    rw [if_pos rfl,rK lo dom true k aq,decide_eq_true h64]
    simp only [Option.bind_some,Bool.true_or,Bool.true_and,if_true]
    rw [vU dom hl k aq,← Er dom hl,w1]
    simp only [Option.bind_some,if_true]
    rw [Sq dom w3 hl]
    simp
   |false=>
    rw [if_neg bG,rK lo dom false k aq,decide_eq_true h64,hf.doms rfl]
    simp only [Option.bind_some,Bool.or_true,Bool.true_and,if_true,Bool.false_or]
    rw [Sr dom (h.doms rfl) (hf.doms rfl) hl k aq]
    rfl
theorem M7 {ds:List (List UInt8)} {lo dom:List UInt8} {lit:Bool} (h:wq lo dom lit) (hf:Fits ds lo dom lit) (hl:dom.length < 4294967281) (k:Nat) (hk:dom.length + 80 < k):dL.f k (au lo) (au dom) lit=some true:=by
 have h64:=hf.los
 unfold dL.f
 rw [bD]
 exact He h hf hl k 0 aq (Nat.zero_le _)
theorem FQ {ds:List (List UInt8)} {lo dom:List UInt8} {lit:Bool} (hds:∀ d,d∈ds→lI d) (h:wq lo dom lit) (hf:Fits ds lo dom lit) (hne:dom≠ []) (M:Nat) (hM:∀ d,d∈ds→d.length≤M) (hd:dom.length≤M) (hl:M < 4294967281) (k:Nat) (hk:M + 110 < k):
 fy.f k false (ds.map au) (au lo) (au dom) lit=some true:=by
 have h20:=hf.many
 unfold fy.f
 rw [if_neg bG,toList_mk,toList_mk]
 rw [if_neg (by
  simp only [Bool.and_eq_true,beq_iff_eq]
  rintro ⟨_,e,_⟩
  exact hne e)]
 rw [M7 h hf aq k aq]
 simp only [Option.bind_some,if_true,List.length_map]
 rw [if_pos aq]
 rw [M6 (g:=fun _ =>false) (k0:=M + 4) (fun y hy k hk=>by
  obtain ⟨d,hd',rfl⟩:=List.mem_map.mp hy
  have:=hM d hd'
  unfold kB.f
  rw [Sr d (hds d hd') (hf.each d hd') aq k aq]
  rfl) k mK mK]
 simp
theorem iV (a b:List UInt8):au a ++ au b=au (a ++ b):=by
 apply ByteArray.ext
 rw [← Array.toList_inj]
 simp [au]
theorem Tz (l:List UInt8):zA (au l)=au (qL l):=by
 have e:kH (bytesOf (au l))=oF (qL l):=by
  rw [xq]
  induction l with
  |nil=>rfl
  |cons b l ih=>
   have e1:qL (b :: l)=qB b ++ qL l:=rfl
   rw [e1,List.map_cons]
   show tW (b.toNat:Int) ++ kH (l.map fun b=>(b.toNat:Int))=oF (qB b ++ qL l)
   rw [ih]
   unfold oF
   rw [List.map_append]
   congr 1
   exact fA (Q:=fun b=>tW (b.toNat:Int)=(qB b).map fun b=>(b.toNat:Int)) gh b
 unfold zA
 rw [e,MM]
theorem Ss (lo dom:List UInt8) (lit:Bool) (l:List UInt8):WM (au l) (au dom) lit=au (l ++ (if lit=true then 64 :: 91 :: (dom ++ [93]) else 64 :: dom)):=by
 unfold WM
 cases lit with
 |true=>
  rw [if_pos rfl,if_pos rfl]
  show ((au l ++ au [64,91]) ++ au dom) ++ au [93]=_
  rw [iV,iV,iV]
  simp
 |false=>
  rw [if_neg bG,if_neg bG]
  show (au l ++ au [64]) ++ au dom=_
  rw [iV,iV]
  simp
theorem M8 {ds:List (List UInt8)} {lo dom:List UInt8} {lit:Bool} (h:wq lo dom lit) (hf:Fits ds lo dom lit) (hl:dom.length < 4294967281) (k:Nat) (hk:dom.length + 80 < k):gZ.f k (au lo) (au dom) lit=some (au (iN lo dom lit),0):=by
 have h64:=hf.los
 unfold gZ.f
 rw [M7 h hf hl k hk]
 simp only [Option.bind_some,if_true]
 unfold aH.f
 have h1:=Ce (au lo) iI k 0 (by rw [yR];omega) (Nat.zero_le _)
 rw [yR] at h1
 rw [show (0:Int)=((0:Nat):Int) from rfl,h1]
 simp only [Option.bind_some]
 rw [if_pos ⟨iI,iI⟩]
 congr 2
 unfold iN pL Ch
 by_cases hp:((fu gV 46 lo).1 && (fu gV 46 lo).2 == lo.length)=true
 ·rw [if_pos hp,if_pos (by
   simp only [Bool.and_eq_true,beq_iff_eq] at hp
   exact ⟨hp.1,by rw [bD,hp.2];simp⟩),Ss lo]
 ·rw [if_neg hp,if_neg (by
   intro h2
   apply hp
   simp only [Bool.and_eq_true,beq_iff_eq]
   refine ⟨h2.1,?_⟩
   have:=h2.2
   rw [bD] at this
   omega)]
  have e:DA (au lo)=au (34 :: (qL lo ++ [34])):=by
   unfold DA
   rw [Tz]
   show (au [34] ++ au (qL lo)) ++ au [34]=_
   rw [iV,iV]
   simp
  rw [e,Ss lo]
theorem FR:∀ (d:List UInt8) (ds:List (List UInt8)),64 :: Lib.join (d :: ds) [44,64]=fT (d :: ds)
 |d,[]=>by simp [Lib.join,fT,List.intercalate]
 |d,d2 :: ds=>by
  have ih:=FR d2 ds
  have e:Lib.join (d :: d2 :: ds) [44,64]=d ++ 44 :: 64 :: Lib.join (d2 :: ds) [44,64]:=by
   unfold Lib.join
   simp [List.intercalate,List.intersperse]
  rw [e,ih]
  rfl
theorem Wl (d:List UInt8) (ds:List (List UInt8)):(⟨#[64]⟩:ByteArray) ++ joinL ((d :: ds).map au) ⟨#[44,64]⟩=au (fT (d :: ds)):=by
 have e:joinL ((d :: ds).map au) ⟨#[44,64]⟩=au (Lib.join (d :: ds) [44,64]):=by
  unfold joinL
  rw [List.map_map]
  have:((fun x:ByteArray=>x.data.toList) ∘au)=id:=by
   funext l
   simp [au]
  rw [this,List.map_id]
  rfl
 rw [e]
 show au [64] ++ _=_
 rw [iV]
 exact congrArg au (FR d ds)
theorem M9 {ds:List (List UInt8)} {lo dom:List UInt8} {lit:Bool} (hds:∀ d,d∈ds→lI d) (h:wq lo dom lit) (hf:Fits ds lo dom lit) (hne:dom≠ []) (M:Nat) (hM:∀ d,d∈ds→d.length≤M) (hd:dom.length≤M) (hl:M < 4294967281) (hw:(gj ds lo dom lit).length < 4294967281) (k:Nat) (hk:M + 110 < k):
 kI.f k false (ds.map au) (au lo) (au dom) lit=some (au (60 :: (gj ds lo dom lit ++ [62])),0):=by
 unfold kI.f
 rw [FQ hds h hf hne M hM hd hl k hk]
 simp only [Option.bind_some,if_true]
 rw [if_neg bG,if_neg (by rw [toList_mk];exact hne),M8 h hf aq k aq]
 simp only [Option.bind_some]
 cases ds with
 |nil=>
  have hw':(iN lo dom lit).length < 4294967281:=hw
  rw [if_neg aV,if_pos iI]
  have e:(⟨#[60]⟩:ByteArray) ++ au (iN lo dom lit)=au (60 :: iN lo dom lit):=iV [60] _
  rw [e,if_pos (by rw [bD,List.length_cons];omega)]
  have e2:au (60 :: iN lo dom lit) ++ (⟨#[62]⟩:ByteArray)=au (60 :: (iN lo dom lit ++ [62])):=iV (60 :: iN lo dom lit) [62]
  rw [e2]
  rfl
 |cons d ds=>
  have hw':(fT (d :: ds) ++ 58 :: iN lo dom lit).length < 4294967281:=hw
  rw [List.length_append,List.length_cons] at hw'
  have e0:=Wl d ds
  have es: 1 + (joinL ((d :: ds).map au) ⟨#[44,64]⟩).size=(fT (d :: ds)).length:=by
   have:=congrArg ByteArray.size e0
   rw [ByteArray.size_append,bD] at this
   exact this
  rw [if_pos aV]
  unfold strings_Join.f
  have h20:=hf.many
  rw [if_pos ⟨aV,mK,aq⟩]
  simp only [Option.bind_some]
  rw [if_pos aq,e0,if_pos iI]
  have e1:au (fT (d :: ds)) ++ (⟨#[58]⟩:ByteArray)=au (fT (d :: ds) ++ [58]):=iV _ [58]
  rw [e1,if_pos (by rw [bD,bD,List.length_append];simp;omega),iV]
  have e2:fT (d :: ds) ++ [58] ++ iN lo dom lit=gj (d :: ds) lo dom lit:=by
   show _=fT (d :: ds) ++ 58 :: iN lo dom lit
   simp
  rw [e2,if_pos iI]
  have e3:(⟨#[60]⟩:ByteArray) ++ au (gj (d :: ds) lo dom lit)=au (60 :: gj (d :: ds) lo dom lit):=iV [60] _
  rw [e3,if_pos (by rw [bD,List.length_cons];omega)]
  have e4:au (60 :: gj (d :: ds) lo dom lit) ++ (⟨#[62]⟩:ByteArray)=au (60 :: (gj (d :: ds) lo dom lit ++ [62])):=iV (60 :: gj (d :: ds) lo dom lit) [62]
  rw [e4]
theorem FT {ds:List (List UInt8)} {lo dom:List UInt8} {lit:Bool} (hds:∀ d,d∈ds→lI d) (h:wq lo dom lit) (hf:Fits ds lo dom lit) (M:Nat) (hM:∀ d,d∈ds→d.length≤M) (hd:dom.length≤M) (hw:(gj ds lo dom lit).length < 4294960000) (hne:gj ds lo dom lit≠ []) (k:Nat) (hk:M + 110 < k) (hk2:(gj ds lo dom lit).length + 20 < k) (more:List UInt8) (ale:more.length + (gj ds lo dom lit).length < 4294960000) (hk3:more.length + (gj ds lo dom lit).length + 20 < k):
 bT.f k (au (60 :: (gj ds lo dom lit ++ 62 :: more)))=some (false,ds.map au,au lo,au dom,lit,(((gj ds lo dom lit).length + 2:Nat):Int),0):=by
 have h20:=hf.many
 have hi:=Pm hds h more
 have hdata:(au (60 :: (gj ds lo dom lit ++ 62 :: more))).data.toList=60 :: (gj ds lo dom lit ++ 62 :: more):=rfl
 have hsz:(au (60 :: (gj ds lo dom lit ++ 62 :: more))).size=(gj ds lo dom lit).length + more.length + 2:=by
  rw [bD,List.length_cons,List.length_append,List.length_cons]
  omega
 have hd1:(60 :: (gj ds lo dom lit ++ 62 :: more)).drop 1=gj ds lo dom lit ++ 62 :: more:=rfl
 have aew:wo (60 :: (gj ds lo dom lit ++ 62 :: more))=false:=by
  unfold wo
  rw [hd1]
  cases hp:gj ds lo dom lit with
  |nil=>exact absurd hp hne
  |cons b l=>
   cases hb:(b == 62) with
   |false=>
    show ((60:UInt8) == 60 && (b == 62))=false
    rw [hb]
    rfl
   |true=>
    exfalso
    have e:b=62:=by simpa using hb
    rw [hp,e] at hi
    have hx:(fV (62 :: (l ++ 62 :: more))).1=true:=by
     have:=congrArg (·.1) hi
     exact this
    revert hx
    have ha:jO (62 :: (l ++ 62 :: more))=false:=by
     cases ha:jO (62 :: (l ++ 62 :: more)) with
     |false=>rfl
     |true=>
      exfalso
      unfold jO at ha
      simp only [Bool.and_eq_true,decide_eq_true_eq] at ha
      have h2:=ha.1.2
      rw [ng,toList_mk,List.take_succ_cons,List.map_cons] at h2
      have h3:fC 62=112:=(List.cons.inj (by simpa using h2:_=([112,111,115,116,109,97,115,116,101,114]:List UInt8))).1
      revert h3
      decide
    have hb1:(lG (62 :: (l ++ 62 :: more))).1=false:=by
     have hlo:(eN (62 :: (l ++ 62 :: more))).1=false:=by
      unfold eN
      rw [if_neg (show ¬ cN 34 (62 :: (l ++ 62 :: more))=true by simp [cN])]
      show (fu gV 46 _).1=false
      rw [kU]
      have:(gV (62 :: (l ++ 62 :: more))).1=false:=by
       unfold gV
       rw [List.takeWhile_cons_of_neg gh]
       rfl
      rw [this]
      rfl
     unfold lG
     rw [if_neg (by rw [hlo];decide)]
    unfold fV
    rw [if_neg (by rw [ha];decide),if_neg (show ¬ cN 64 (62 :: (l ++ 62 :: more))=true by simp [cN])]
    simp only
    rw [hb1]
    decide
 have ajc:Gv (60 :: (gj ds lo dom lit ++ 62 :: more))=true:=by
  unfold Gv
  rw [hd1,hi]
  simp only
  have e:(60 :: (gj ds lo dom lit ++ 62 :: more)).drop (1 + (gj ds lo dom lit).length)=62 :: more:=by
   rw [Nat.add_comm,List.drop_succ_cons,List.drop_left]
  rw [e]
  rfl
 rw [uo _ aq k aq (by rw [hdata];exact aew) (by rw [hdata];exact ajc)]
 rw [hdata,hd1,hi]
 simp only
 rw [Zj k _ _ ds lo dom lit hf M hM hd aq]
 rw [Nat.add_comm 2]
end Go.Proofs.YtokpnfljjjjikaaGreatDoor.jo
namespace Go.Proofs.YtokpnfljjjjikaaGreatDoor.jo
open Go.RowKit Go.Proofs.YtokpnfljjjjikaaGreatDoor Go.Proofs.YtokpnfljjjjikaaGreatDoor.nK Go.Proofs.aj.bQ Go.Proofs.aj.cM
set_option linter.unusedVariables false
set_option linter.unusedSimpArgs false
def zQ (b:UInt8):UInt8:=UInt8.ofNat (zU 97 122 (-32) (b.toNat:Int)).toNat
theorem Su (f:UInt8→UInt8) (a b d:Int) (hf:∀ c:UInt8,UInt8.ofNat (zU a b d (c.toNat:Int)).toNat=f c) (l:List UInt8) (hl:l.length≤9223372036854775807):gB.f (au l) a b d=some (au (l.map f)):=by
 unfold gB.f
 rw [if_pos zT]
 unfold gB.g strOfNums
 rw [show bytesOf (au l)=l.map fun b=>(b.toNat:Int) from rfl,List.map_map,List.map_map]
 congr 1
 show au _=au _
 congr 1
 exact List.map_congr_left fun c _ =>hf c
theorem og (l:List UInt8) (hl:l.length≤9223372036854775807):cu.f (au l)=some (au (l.map zQ)):=by
 unfold cu.f
 rw [Su zQ 97 122 (-32) (fun _ =>rfl) l hl]
 rfl
theorem Wm (c:UInt8):UInt8.ofNat (zU 65 90 32 (c.toNat:Int)).toNat=fC c:=fA (Q:=fun c=>UInt8.ofNat (zU 65 90 32 (c.toNat:Int)).toNat=fC c) gh c
theorem yS (l:List UInt8) (hl:l.length≤9223372036854775807):gi.f (au l)=some (au (l.map fC)):=by
 unfold gi.f
 rw [Su fC 65 90 32 Wm l hl]
 rfl
theorem aex (b:UInt8):zQ (zQ b)=zQ b:=fA (Q:=fun b=>zQ (zQ b)=zQ b) gh b
theorem aey (b:UInt8):zQ b=61→b=61:=fA (Q:=fun b=>zQ b=61→b=61) gh b
theorem aez (b:UInt8):zQ b=32→b=32:=fA (Q:=fun b=>zQ b=32→b=32) gh b
theorem Hf (l:List UInt8):(l.map zQ).map zQ=l.map zQ:=by
 rw [List.map_map]
 exact List.map_congr_left fun b _ =>aex b
theorem Wn {c:UInt8} (hc:∀ b,zQ b=c→b=c) {l:List UInt8} (h:c ∉ l):c ∉ l.map zQ:=by
 intro hm
 obtain ⟨b,hb,e⟩:=List.mem_map.mp hm
 exact h (hc b e ▸ hb)
theorem Es (c:UInt8):Lib.cut [] [c]=([],[],false):=by simp [Lib.cut,Lib.index]
theorem La (c:UInt8) (l:List UInt8):Lib.cut (c :: l) [c]=([],l,true):=by simp [Lib.cut,Lib.index,List.isPrefixOf]
theorem xu (c b:UInt8) (l:List UInt8) (h:b≠c):Lib.cut (b :: l) [c]=(b :: (Lib.cut l [c]).1,(Lib.cut l [c]).2.1,(Lib.cut l [c]).2.2):=by
 have hb:(c == b)=false:=beq_eq_false_iff_ne.mpr (Ne.symm h)
 have hi:=Lib.index_ge l [c]
 have e1:Lib.index (b :: l) [c]=if Lib.index l [c] == -1 then -1 else Lib.index l [c] + 1:=by
  show (if ([c]:List UInt8).isPrefixOf (b :: l) then 0 else if Lib.index l [c] == -1 then -1 else Lib.index l [c] + 1)=_
  simp [List.isPrefixOf,hb]
 obtain ⟨i,hii⟩:∃ i,Lib.index l [c]=i:=⟨_,rfl⟩
 rw [hii] at hi e1
 by_cases hm:i= -1
 ·subst hm
  have e3:Lib.index (b :: l) [c]= -1:=e1
  unfold Lib.cut
  rw [e3,hii]
  simp
 ·obtain ⟨j,rfl⟩:∃ j:Nat,i=j:=⟨i.toNat,aq⟩
  have e3:Lib.index (b :: l) [c]=(j:Int) + 1:=by rw [e1,if_neg (by rw [beq_iff_eq];exact hm)]
  unfold Lib.cut
  rw [e3,hii,if_pos aq,if_pos aq,show ((j:Int) + 1).toNat=j + 1 by omega]
  simp
theorem qW (c:UInt8):∀ l:List UInt8,c ∉ (Lib.cut l [c]).1∧l=(Lib.cut l [c]).1 ++ (if (Lib.cut l [c]).2.2=true then c :: (Lib.cut l [c]).2.1 else [])
 | []=>by rw [Es];simp
 |b :: l=>by
  by_cases h:b=c
  ·subst h
   rw [La]
   simp
  ·obtain ⟨h1,h2⟩:=qW c l
   rw [xu c b l h]
   refine ⟨fun hm=>?_,?_⟩
   ·rcases List.mem_cons.mp hm with e|e
    ·exact h e.symm
    ·exact h1 e
   ·show b :: l=b :: ((Lib.cut l [c]).1 ++ _)
    rw [← h2]
theorem Et (c:UInt8) (r:List UInt8):∀ w:List UInt8,c ∉ w→Lib.cut (w ++ c :: r) [c]=(w,r,true)
 | [],_ =>La c r
 |b :: w,h=>by
  have hb:b≠c:=fun e=>h (e ▸ List.mem_cons_self ..)
  rw [List.cons_append,xu c b _ hb,Et c r w (fun hm=>h (List.mem_cons_of_mem _ hm))]
theorem ur (c:UInt8):∀ w:List UInt8,c ∉ w→Lib.cut w [c]=(w,[],false)
 | [],_ =>Es c
 |b :: w,h=>by
  have hb:b≠c:=fun e=>h (e ▸ List.mem_cons_self ..)
  rw [xu c b _ hb,ur c w (fun hm=>h (List.mem_cons_of_mem _ hm))]
theorem zH (l:List UInt8) (c:UInt8) (hl:l.length < 4294967281):strings_Cut.f (au l) ⟨#[c]⟩=some (au (Lib.cut l [c]).1,au (Lib.cut l [c]).2.1,(Lib.cut l [c]).2.2):=by
 unfold strings_Cut.f
 rw [if_pos zT]
 rfl
def zR:List (List UInt8)→List UInt8
 | []=>[]
 |w :: ws=>32 :: (w ++ zR ws)
theorem CZ (w:List UInt8) (h:(32:UInt8) ∉ w) (r:List UInt8):∀ ps,pieces 32 r=ps→∃ p ps',pieces 32 r=p :: ps'∧pieces 32 (w ++ r)=(w ++ p) :: ps':=by
 intro ps hps
 obtain ⟨p,ps',hp⟩:∃ p ps',pieces 32 r=p :: ps':=by
  cases hq:pieces 32 r with
  |nil=>exact absurd hq (rG 32 r)
  |cons p ps'=>exact ⟨p,ps',rfl⟩
 refine ⟨p,ps',hp,?_⟩
 clear hps
 induction w with
 |nil=>exact hp
 |cons b w ih=>
  have hb:(b == 32)=false:=beq_eq_false_iff_ne.mpr fun e=>h (e ▸ List.mem_cons_self ..)
  have ih:=ih (fun hm=>h (List.mem_cons_of_mem _ hm))
  rw [List.cons_append]
  unfold pieces
  rw [hb,ih]
  rfl
theorem Na (ws:List (List UInt8)):∀ w,(32:UInt8) ∉ w→(∀ x,x∈ws→(32:UInt8) ∉ x)→pieces 32 (w ++ zR ws)=w :: ws:=by
 induction ws with
 |nil=>
  intro w h _
  obtain ⟨p,ps,h1,h2⟩:=CZ w h [] _ rfl
  have h3:pieces 32 []= [[]]:=rfl
  rw [h3] at h1
  injection h1 with h1 h4
  subst h1
  subst h4
  simpa [zR] using h2
 |cons x ws ih=>
  intro w h hx
  obtain ⟨p,ps,h1,h2⟩:=CZ w h (zR (x :: ws)) _ rfl
  have h3:pieces 32 (zR (x :: ws))= [] :: (x :: ws):=by
   show pieces 32 (32 :: (x ++ zR ws))=_
   rw [← ih x (hx x (List.mem_cons_self ..)) (fun y hy=>hx y (List.mem_cons_of_mem _ hy))]
   rfl
  rw [h3] at h1
  injection h1 with h1 h4
  subst h1
  subst h4
  simpa using h2
theorem Hg (ws:List (List UInt8)) (h:∀ x,x∈ws→(32:UInt8) ∉ x):pieces 32 (zR ws)= [] :: ws:=by
 have:=Na ws [] aV h
 simpa using this
theorem FU:∀ (l p:List UInt8) (ps:List (List UInt8)),pieces 32 l=p :: ps→l=p ++ zR ps∧(32:UInt8) ∉ p∧∀ x,x∈ps→(32:UInt8) ∉ x
 | [],p,ps,h=>by
   have h3:pieces 32 []= [[]]:=rfl
   rw [h3] at h
   injection h with h1 h4
   subst h1
   subst h4
   exact ⟨rfl,aV,fun x hx=>by cases hx⟩
 |b :: l,p,ps,h=>by
  obtain ⟨q,qs,hq⟩:∃ q qs,pieces 32 l=q :: qs:=by
   cases hq:pieces 32 l with
   |nil=>exact absurd hq (rG 32 l)
   |cons q qs=>exact ⟨q,qs,rfl⟩
  obtain ⟨h1,h2,h3⟩:=FU l q qs hq
  unfold pieces at h
  rw [hq] at h
  by_cases hb:b=32
  ·rw [if_pos (by rw [hb];rfl)] at h
   injection h with e1 e2
   subst e1
   subst e2
   refine ⟨?_,aV,fun x hx=>?_⟩
   ·rw [hb,h1]
    rfl
   ·rcases List.mem_cons.mp hx with rfl|hx
    ·exact h2
    ·exact h3 x hx
  ·rw [if_neg (by simpa using hb)] at h
   injection h with e1 e2
   subst e1
   subst e2
   refine ⟨by rw [h1];rfl,fun hm=>?_,h3⟩
   rcases List.mem_cons.mp hm with e|e
   ·exact hb e.symm
   ·exact h2 e
def gY (x:List UInt8):gw:=⟨au ((Lib.cut x [61]).1.map zQ),au (Lib.cut x [61]).2.1,(Lib.cut x [61]).2.2⟩
def iC (p:gw):List UInt8:=p.f0.data.toList ++ (if p.f2=true then 61 :: p.f1.data.toList else [])
theorem FV (x:List UInt8):iC (gY x)=(Lib.cut x [61]).1.map zQ ++ (if (Lib.cut x [61]).2.2=true then 61 :: (Lib.cut x [61]).2.1 else []):=rfl
theorem Nb (x:List UInt8):(iC (gY x)).length=x.length:=by
 rw [FV]
 have h:=congrArg List.length (qW 61 x).2
 rw [List.length_append] at h ⊢
 rw [List.length_map]
 exact h.symm
theorem Nc (x:List UInt8):gY (iC (gY x))=gY x:=by
 have h1:=Wn aey (qW 61 x).1
 rw [FV]
 by_cases hb:(Lib.cut x [61]).2.2=true
 ·rw [if_pos hb]
  unfold gY
  rw [Et 61 _ _ h1]
  simp only
  rw [Hf,hb]
 ·rw [if_neg hb,List.append_nil]
  have h2:(Lib.cut x [61]).2.1= []:=by
   unfold Lib.cut at hb ⊢
   split
   ·rename_i h;rw [if_pos h] at hb;exact absurd rfl hb
   ·rfl
  unfold gY
  rw [ur 61 _ h1,h2]
  simp only
  rw [Hf,Bool.eq_false_iff.mpr hb]
theorem TA (x:List UInt8) (h:(32:UInt8) ∉ x):(32:UInt8) ∉ iC (gY x):=by
 have h1:=(qW 61 x).2
 rw [FV]
 have h2:(32:UInt8) ∉ (Lib.cut x [61]).1∧(32:UInt8) ∉ (if (Lib.cut x [61]).2.2=true then 61 :: (Lib.cut x [61]).2.1 else []):=by
  refine ⟨fun hm=>h ?_,fun hm=>h ?_⟩
  ·rw [h1];exact List.mem_append_left _ hm
  ·rw [h1];exact List.mem_append_right _ hm
 intro hm
 rcases List.mem_append.mp hm with hm|hm
 ·exact Wn aez h2.1 hm
 ·exact h2.2 hm
def oQ (k:Nat) (p:gw):Prop:=bH.f k p.f0 p.f1 p.f2=some true
theorem TB (x:List UInt8):(Lib.cut x [61]).1.length≤x.length:=by
 have h:=congrArg List.length (qW 61 x).2
 rw [List.length_append] at h
 omega
theorem qX (k:Nat) (x:List UInt8) (hx:x.length < 4294967281) (xs:List ByteArray) (ps:List gw):
 bK.l k (au x :: xs) ps=(bH.f k (gY x).f0 (gY x).f1 (gY x).f2).bind fun b=>if b=true then bK.l k xs (ps ++ [gY x]) else some none:=by
 show ((strings_Cut.f (au x) ⟨#[61]⟩).bind fun t=>(cu.f t.1).bind fun g=>(bH.f k g t.2.1 t.2.2).bind fun b=>if b=true then bK.l k xs (ps ++ [⟨g,t.2.1,t.2.2⟩]) else some none)=_
 rw [zH x 61 hx]
 show ((cu.f (au (Lib.cut x [61]).1)).bind fun g=>_)=_
 rw [og _ (by have:=TB x;omega)]
 rfl
theorem FW (k:Nat):∀ (xs:List (List UInt8)) (ps P:List gw),(∀ x,x∈xs→x.length < 4294967281)→bK.l k (xs.map au) ps=some (some P)→P=ps ++ xs.map gY∧∀ x,x∈xs→oQ k (gY x)
 | [],ps,P,_,h=>by
   have h1:=Option.some.inj (Option.some.inj h)
   exact ⟨by rw [← h1];simp,fun x hx=>by cases hx⟩
 |x :: xs,ps,P,hx,h=>by
  rw [List.map_cons,qX k x (hx x (List.mem_cons_self ..))] at h
  obtain ⟨b,h1,h2⟩:=Option.bind_eq_some_iff.mp h
  cases b with
  |false=>
   rw [if_neg bG] at h2
   cases h2
  |true=>
   rw [if_pos rfl] at h2
   obtain ⟨h3,h4⟩:=FW k xs _ P (fun y hy=>hx y (List.mem_cons_of_mem _ hy)) h2
   refine ⟨by rw [h3];simp,fun y hy=>?_⟩
   rcases List.mem_cons.mp hy with rfl|hy
   ·exact h1
   ·exact h4 y hy
theorem FX (k:Nat):∀ (xs:List (List UInt8)) (ps:List gw),(∀ x,x∈xs→x.length < 4294967281)→(∀ x,x∈xs→oQ k (gY x))→bK.l k (xs.map au) ps=some (some (ps ++ xs.map gY))
 | [],ps,_,_ =>by simp [bK.l]
 |x :: xs,ps,hx,h=>by
  rw [List.map_cons,qX k x (hx x (List.mem_cons_self ..))]
  have h1:bH.f k (gY x).f0 (gY x).f1 (gY x).f2=some true:=h x (List.mem_cons_self ..)
  rw [h1]
  simp only [Option.bind_some,if_true]
  rw [FX k xs _ (fun y hy=>hx y (List.mem_cons_of_mem _ hy)) (fun y hy=>h y (List.mem_cons_of_mem _ hy))]
  simp
theorem TC (ws vs:List (List UInt8)) (h:ws.map List.length=vs.map List.length):(zR ws).length=(zR vs).length:=by
 induction ws generalizing vs with
 |nil=>
  cases vs with
  |nil=>rfl
  |cons v vs=>simp at h
 |cons w ws ih=>
  cases vs with
  |nil=>simp at h
  |cons v vs=>
   simp only [List.map_cons,List.cons.injEq] at h
   have:=ih vs h.2
   show (32 :: (w ++ zR ws)).length=(32 :: (v ++ zR vs)).length
   simp only [List.length_cons,List.length_append]
   omega
def iG (P:List gw):List UInt8:=zR (P.map iC)
theorem yT (k:Nat) (l:List UInt8) (hl:l.length < 4294967281) (hne:l≠ []):bK.f k (au l)=(bK.l k (((pieces 32 l).map au).drop 1) []).bind fun o=>some (bK.e ((pieces 32 l).map au) o):=by
 unfold bK.f
 rw [if_neg (by rw [toList_mk];cases l with|nil=>exact absurd rfl hne|cons b l=>simp),qg (au l) 32 zT]
 rfl
theorem C0 (k:Nat) (xs:List (List UInt8)) (Zl:∀ x,x∈xs→(32:UInt8) ∉ x) (hl:(zR xs).length < 4294967281) (h:∀ x,x∈xs→oQ k (gY x)):bK.f k (au (zR xs))=some (xs.map gY,true):=by
 have hxl:∀ (ws:List (List UInt8)) (x:List UInt8),x∈ws→x.length < (zR ws).length:=by
  intro ws
  induction ws with
  |nil=>intro x hx;cases hx
  |cons w ws ih=>
   intro x hx
   show _ < (32 :: (w ++ zR ws)).length
   simp only [List.length_cons,List.length_append]
   rcases List.mem_cons.mp hx with rfl|hx
   ·omega
   ·have:=ih x hx
    omega
 cases xs with
 |nil=>
  unfold bK.f
  rw [if_pos (by rw [toList_mk];rfl)]
  rfl
 |cons x xs=>
  rw [yT k _ hl (by simp [zR]),Hg _ Zl]
  show ((bK.l k ((x :: xs).map au) []).bind fun o=>some (bK.e (au [] :: (x :: xs).map au) o))=_
  rw [FX k (x :: xs) [] (fun y hy=>by have:=hxl _ y hy;omega) h]
  show some (bK.e (au [] :: (x :: xs).map au) (some ([] ++ (x :: xs).map gY)))=_
  unfold bK.e
  simp only [List.nil_append,List.getD_cons_zero]
  rw [toList_mk]
  rfl
theorem Lb (k:Nat) (l:List UInt8) (hl:l.length < 4294967281) (P:List gw) (h:bK.f k (au l)=some (P,true)):
 (iG P).length=l.length∧bK.f k (au (iG P))=some (P,true)∧(∀ p,p∈P→oQ k p)∧P.length≤l.length:=by
 by_cases hne:l= []
 ·subst hne
  unfold bK.f at h
  rw [if_pos (by rw [toList_mk];rfl)] at h
  simp only [Option.some.injEq,Prod.mk.injEq] at h
  obtain ⟨rfl,_⟩:=h
  refine ⟨rfl,?_,fun p hp=>(by cases hp),aV⟩
  unfold bK.f
  rw [if_pos (by rw [toList_mk];rfl)]
 ·rw [yT k l hl hne] at h
  obtain ⟨p,ps,hp⟩:∃ p ps,pieces 32 l=p :: ps:=by
   cases hq:pieces 32 l with
   |nil=>exact absurd hq (rG 32 l)
   |cons p ps=>exact ⟨p,ps,rfl⟩
  obtain ⟨e1,e2,e3⟩:=FU l p ps hp
  rw [hp] at h
  obtain ⟨o,h1,h2⟩:=Option.bind_eq_some_iff.mp h
  have h1':bK.l k (ps.map au) []=some o:=h1
  have hlen:∀ x,x∈ps→x.length < 4294967281:=fun x hx=>by
   have:=FM 32 l x (by rw [hp];exact List.mem_cons_of_mem _ hx)
   omega
  cases o with
  |none=>
   have h3:=Option.some.inj h2
   unfold bK.e at h3
   simp at h3
  |some Q=>
   obtain ⟨h3,h4⟩:=FW k ps [] Q hlen h1'
   rw [List.nil_append] at h3
   subst h3
   have h5:=Option.some.inj h2
   unfold bK.e at h5
   simp only [Prod.mk.injEq] at h5
   obtain ⟨h6,h7⟩:=h5
   subst h6
   have hpe:p= []:=by
    rw [List.map_cons,List.getD_cons_zero,toList_mk] at h7
    simpa using h7
   subst hpe
   rw [List.nil_append] at e1
   have hw:iG (ps.map gY)=zR (ps.map fun x=>iC (gY x)):=by
    unfold iG
    rw [List.map_map]
    rfl
   have aan:(iG (ps.map gY)).length=l.length:=by
    rw [hw]
    rw [e1]
    apply TC
    rw [List.map_map]
    exact List.map_congr_left fun x _ =>Nb x
   refine ⟨aan,?_,fun q hq=>?_,?_⟩
   ·have hb:=C0 k (ps.map fun x=>iC (gY x)) (fun y hy=>by
     obtain ⟨x,hx,rfl⟩:=List.mem_map.mp hy
     exact TA x (e3 x hx)) (by rw [← hw,aan];exact hl) (fun y hy=>by
     obtain ⟨x,hx,rfl⟩:=List.mem_map.mp hy
     show oQ k (gY (iC (gY x)))
     rw [Nc]
     exact h4 x hx)
    rw [hw,hb,List.map_map]
    congr 2
    exact List.map_congr_left fun x _ =>Nc x
   ·obtain ⟨x,hx,rfl⟩:=List.mem_map.mp hq
    exact h4 x hx
   ·rw [List.length_map]
    have:=kZ 32 l
    have h8:=List.count_le_length (a:=(32:UInt8)) (l:=l)
    rw [hp,List.length_cons] at this
    omega
end Go.Proofs.YtokpnfljjjjikaaGreatDoor.jo
namespace Go.Proofs.YtokpnfljjjjikaaGreatDoor.jo
open Go.RowKit Go.Proofs.YtokpnfljjjjikaaGreatDoor Go.Proofs.YtokpnfljjjjikaaGreatDoor.nK Go.Proofs.aj.bQ Go.Proofs.aj.cM
set_option linter.unusedVariables false
set_option linter.unusedSimpArgs false
theorem zI (k:Nat):fy.f k true [] ⟨#[]⟩ ⟨#[]⟩ false=some true:=by
 unfold fy.f
 rw [if_pos rfl,if_pos (by rfl)]
 decide +kernel
theorem FY (k:Nat):kI.f k true [] ⟨#[]⟩ ⟨#[]⟩ false=some (au [60,62],0):=by
 unfold kI.f
 rw [zI]
 rfl
theorem xw (k:Nat):fy.f k false [] kO ⟨#[]⟩ false=some true:=by
 unfold fy.f
 rw [if_neg bG,if_pos gh]
 rfl
def tZ:List UInt8:=[60,112,111,115,116,109,97,115,116,101,114,62]
theorem C2 (k:Nat):kI.f k false [] kO ⟨#[]⟩ false=some (au tZ,0):=by
 unfold kI.f
 rw [xw]
 simp only [Option.bind_some,if_true]
 rw [if_neg bG,if_pos gh]
 rfl
theorem Nf (k:Nat) (hk: 20 < k) (s:ByteArray) (q:Int):bT.j0 k false s q false [] kO ⟨#[]⟩ false=some (false,[],kO,⟨#[]⟩,false,q,0):=by
 obtain ⟨k,rfl⟩:∃ k',k=k' + 1:=⟨k - 1,aq⟩
 have hw:ey.f k kO ⟨#[]⟩ false=some true:=by
  unfold ey.f
  rw [if_pos gh,if_neg bG,uq ⟨#[]⟩ k (show 0 + 2 < k by omega),show iK ⟨#[]⟩=true from by decide +kernel]
  rfl
 rw [bT.j0,if_neg bG,hw]
 simp only [Option.bind_some,if_true]
 rw [if_neg bG,FP (g:=fun _ =>false) (k0:=0) (fun y hy=>by cases hy) k sB aV]
 rfl
theorem Pq (t:List UInt8):jO (112 :: 111 :: 115 :: 116 :: 109 :: 97 :: 115 :: 116 :: 101 :: 114 :: 62 :: t)=true:=by
 have h1:(cz.g (au ([112,111,115,116,109,97,115,116,101,114]:List UInt8))).toList == ([112,111,115,116,109,97,115,116,101,114]:List UInt8):=by decide +kernel
 unfold jO
 have h2:(112 :: 111 :: 115 :: 116 :: 109 :: 97 :: 115 :: 116 :: 101 :: 114 :: 62 :: t).take 10=([112,111,115,116,109,97,115,116,101,114]:List UInt8):=rfl
 have h3:(112 :: 111 :: 115 :: 116 :: 109 :: 97 :: 115 :: 116 :: 101 :: 114 :: 62 :: t).drop 10=(62 :: t:List UInt8):=rfl
 rw [h2,h3,h1,decide_eq_true uA]
 rfl
theorem C3 (t:List UInt8) (ht:t.length < 4294960000) (k:Nat) (hk:t.length + 40 < k):bT.f k (au (tZ ++ t))=some (false,[],kO,⟨#[]⟩,false,12,0):=by
 have hd:(au (tZ ++ t)).data.toList=60 :: 112 :: 111 :: 115 :: 116 :: 109 :: 97 :: 115 :: 116 :: 101 :: 114 :: 62 :: t:=rfl
 have h:fV (112 :: 111 :: 115 :: 116 :: 109 :: 97 :: 115 :: 116 :: 101 :: 114 :: 62 :: t)=(true,[],kO,⟨#[]⟩,false,10):=by
  unfold fV
  rw [if_pos (Pq t)]
 have hd1:(60 :: 112 :: 111 :: 115 :: 116 :: 109 :: 97 :: 115 :: 116 :: 101 :: 114 :: 62 :: t:List UInt8).drop 1=112 :: 111 :: 115 :: 116 :: 109 :: 97 :: 115 :: 116 :: 101 :: 114 :: 62 :: t:=rfl
 have hsz:(au (tZ ++ t)).size=t.length + 12:=by
  rw [bD,List.length_append,Nat.add_comm]
  rfl
 rw [uo _ aq k aq (by rw [hd];rfl) (by
  rw [hd]
  unfold Gv
  rw [hd1,h]
  rfl),hd,hd1,h]
 exact Nf k aq _ _
theorem ab3 (ds:List (List UInt8)) (d:List UInt8) (h:d∈ds):d.length≤(fT ds).length:=by
 induction ds with
 |nil=>cases h
 |cons e ds ih=>
  cases ds with
  |nil=>
   rw [List.mem_singleton.mp h]
   show _≤(64 :: e).length
   simp
  |cons e2 ds=>
   have e0:(fT (e :: e2 :: ds)).length=e.length + (fT (e2 :: ds)).length + 2:=by
    show (64 :: (e ++ 44 :: fT (e2 :: ds))).length=_
    rw [List.length_cons,List.length_append,List.length_cons]
    omega
   rcases List.mem_cons.mp h with rfl|h
   ·omega
   ·have:=ih h
    omega
theorem BA (ds:List (List UInt8)) (lo dom:List UInt8) (lit:Bool):(∀ d,d∈ds→d.length≤(gj ds lo dom lit).length)∧dom.length + 1≤(gj ds lo dom lit).length:=by
 have hb:dom.length + 1≤(iN lo dom lit).length:=by
  unfold iN
  rw [List.length_append]
  cases lit with
  |true=>rw [if_pos rfl,List.length_cons,List.length_cons,List.length_append];omega
  |false=>rw [if_neg bG,List.length_cons];omega
 cases ds with
 |nil=>exact ⟨fun d hd=>(by cases hd),hb⟩
 |cons e ds=>
  have e0:(gj (e :: ds) lo dom lit).length=(fT (e :: ds)).length + (iN lo dom lit).length + 1:=by
   show (fT (e :: ds) ++ 58 :: iN lo dom lit).length=_
   rw [List.length_append,List.length_cons]
   omega
  refine ⟨fun d hd=>?_,aq⟩
  have:=ab3 _ d hd
  omega
structure Ng (a:Bool) (R:List ByteArray) (lo dom:ByteArray) (lit:Bool) (n:Nat) (t:List UInt8):Prop where
 le:t.length≤n
 rt:∀ k,3000000≤k→fy.f k a R lo dom lit=some true
 pr:∀ k,3000000≤k→kI.f k a R lo dom lit=some (au t,0)
 rd:∀ k,3000000≤k→∀ more:List UInt8,more.length≤100000→bT.f k (au (t ++ more))=some (a,R,lo,dom,lit,(t.length:Int),0)
 ne: 2≤t.length
theorem Pr (k:Nat) (hk: 3000000≤k) (s:ByteArray) (hs:s.size≤100000) (a:Bool) (R:List ByteArray) (lo dom:ByteArray) (lit:Bool) (q:Int) (h:bT.f k s=some (a,R,lo,dom,lit,q,0)):
 ∃ (n:Nat) (t:List UInt8),q=(n:Int)∧n≤s.size∧Ng a R lo dom lit n t:=by
 have hlen:=dh s
 by_cases hn:∃ n,FA s.data.toList n
 case neg=>
  rw [Ck s aq k aq (fun n h=>hn ⟨n,h⟩)] at h
  simp only [K8,Option.some.injEq,Prod.mk.injEq] at h
  exact absurd h.2.2.2.2.2.2 bG
 obtain ⟨n,hn⟩:=hn
 have hb:=Tm hn
 rcases hn with ⟨h1,rfl⟩|⟨h0,h1,rfl⟩
 ·rw [rZ s aq k h1] at h
  simp only [K9,Option.some.injEq,Prod.mk.injEq] at h
  obtain ⟨rfl,rfl,rfl,rfl,rfl,rfl,_⟩:=h
  exact ⟨2,[60,62],rfl,aq,⟨aV,fun k hk=>zI _,fun k hk=>FY _,fun k hk more hm=>rZ _ (by rw [bD];simp;omega) k (by rfl),aV⟩⟩
 ·rw [uo s aq k aq h0 h1] at h
  have hy:=h1
  unfold Gv at hy
  simp only [Bool.and_eq_true] at hy
  obtain ⟨⟨y1,y2⟩,y3⟩:=hy
  have hdl:(s.data.toList.drop 1).length < 4294967281:=by rw [List.length_drop];omega
  by_cases ha:jO (s.data.toList.drop 1)=true
  ·have hi:fV (s.data.toList.drop 1)=(true,[],kO,⟨#[]⟩,false,10):=by
    unfold fV
    rw [if_pos ha]
   rw [hi] at h hb
   simp only at h hb
   rw [Nf _ aq] at h
   simp only [Option.some.injEq,Prod.mk.injEq] at h
   obtain ⟨rfl,rfl,rfl,rfl,rfl,rfl,_⟩:=h
   exact ⟨12,tZ,rfl,aq,⟨by simp [tZ],fun k hk=>xw _,fun k hk=>C2 _,fun k hk more hm=>C3 more aq k aq,by simp [tZ]⟩⟩
  ·obtain ⟨ds,lo2,Pt,Pv,d1,d2,d3,d4,d5,d6⟩:=Wk _ hdl (Bool.eq_false_iff.mpr ha) y2
   obtain ⟨w1,w2⟩:=BA ds lo2 Pt Pv
   obtain ⟨m,hm⟩:∃ m,(fV (s.data.toList.drop 1)).2.2.2.2.2=m:=⟨_,rfl⟩
   rw [hm] at d3 d4 hb
   rw [d3] at h
   simp only at h
   have hds:ds.length≤1048600:=by
    have h1:=(xk (s.data.toList.drop 1)).1
    rw [d3] at h1
    simp only [List.length_map,List.length_drop] at h1
    omega
   rcases aev k s ((2 + m:Nat):Int) ds lo2 Pt Pv 1048600 (fun d hd=>Nat.le_trans (w1 d hd) aq) aq aq aq with ⟨hf,hj⟩|hj
   ·have h:=hj.symm.trans h
    simp only [Option.some.injEq,Prod.mk.injEq] at h
    obtain ⟨rfl,rfl,rfl,rfl,rfl,rfl,_⟩:=h
    have hne:gj ds lo2 Pt Pv≠ []:=by
     intro e
     rw [e] at w2
     simp at w2
    have hlt:(60 :: (gj ds lo2 Pt Pv ++ [62])).length=(gj ds lo2 Pt Pv).length + 2:=by
     rw [List.length_cons,List.length_append]
     rfl
    refine ⟨2 + m,60 :: (gj ds lo2 Pt Pv ++ [62]),rfl,aq,⟨aq,fun k hk=>FQ d1 d2 hf d5 1048600 (fun d hd=>Nat.le_trans (w1 d hd) aq) aq aq _ aq,fun k hk=>M9 d1 d2 hf d5 1048600 (fun d hd=>Nat.le_trans (w1 d hd) aq) aq aq aq _ aq,fun k hk more hm=>?_,aq⟩⟩
    have hpb:=FT d1 d2 hf 1048600 (fun d hd=>Nat.le_trans (w1 d hd) aq) aq aq hne k aq aq more aq aq
    rw [hlt]
    rw [← hpb]
    congr 2
    simp
   ·have h:=hj.symm.trans h
    simp only [Option.some.injEq,Prod.mk.injEq] at h
    exact absurd h.2.2.2.2.2.2 bG
theorem kg (d:List UInt8) (hl:d.length < 4294967281) (k:Nat) (hk:d.length + 3 < k):eD.f k (au d)=some (decide (fu eT 46 d=(true,d.length)) && iK (au d)):=by
 unfold eD.f
 have h1:=domain_eq (au d) iI k 0 (by rw [yR];omega) (Nat.zero_le _)
 rw [yR] at h1
 rw [show (0:Int)=((0:Nat):Int) from rfl,h1]
 simp only [Option.bind_some,Nat.zero_add]
 have e1:(oD d).1=(fu eT 46 d).1:=rfl
 have e2:(oD d).2.2=(fu eT 46 d).2:=rfl
 rw [e1,e2]
 by_cases h2:(fu eT 46 d).1=true
 ·rw [if_pos h2]
  by_cases h3:(fu eT 46 d).2=d.length
  ·rw [if_pos iI,uq _ k iI,decide_eq_true (Prod.ext h2 h3)]
   rfl
  ·rw [if_neg iI,decide_eq_false (fun e=>h3 (by rw [e]))]
   rfl
 ·rw [if_neg h2,decide_eq_false (fun e=>h2 (by rw [e]))]
  rfl
theorem TD (l:List UInt8) (hl:l.length < 4294967281):iK (au (l.map fC))=iK (au l):=by
 have h1:∀ k,eK.f k (au (l.map fC))=eK.f k (au l):=by
  intro k
  unfold eK.f
  rw [bD,bD,List.length_map,qg (au (l.map fC)) 46 (by rw [bD,List.length_map];exact hl),qg (au l) 46 zT]
  have hp:pieces 46 (au (l.map fC)).data.toList=(pieces 46 l).map fun p=>p.map fC:=vV Pg l
  have hp2:(au l).data.toList=l:=rfl
  rw [hp,hp2]
  have hrun:∀ (j:Nat) (xs ys:List ByteArray) (i:Int),xs.map ByteArray.size=ys.map ByteArray.size→aA.l0 j xs (xs.length:Int) i=aA.l0 j ys (ys.length:Int) i:=by
   intro j
   induction j with
   |zero=>intro xs ys i _;rfl
   |succ j ih=>
    intro xs ys i hxy
    have hlen:xs.length=ys.length:=by simpa using congrArg List.length hxy
    unfold aA.l0
    rw [hlen]
    have hrd:(jZ ByteArray.empty xs i).size=(jZ ByteArray.empty ys i).size:=by
     unfold jZ
     have h2:xs[i.toNat]?.map ByteArray.size=ys[i.toNat]?.map ByteArray.size:=by rw [← List.getElem?_map,← List.getElem?_map,hxy]
     rw [List.getD_eq_getElem?_getD,List.getD_eq_getElem?_getD]
     cases hx:xs[i.toNat]? <;>cases hy:ys[i.toNat]? <;>rw [hx,hy] at h2<;>simp_all
    have h1:jR.f (jZ ByteArray.empty xs i)=jR.f (jZ ByteArray.empty ys i):=by
     unfold jR.f
     rw [hrd]
    rw [h1]
    have hih:=ih xs ys (wrap64 (i + 1)) hxy
    rw [hlen] at hih
    rw [hih]
  have hf:∀ j xs ys,xs.map ByteArray.size=ys.map ByteArray.size→bJ.f j xs=bJ.f j ys:=by
   intro j xs ys hxy
   unfold bJ.f aA.f
   rw [hrun j xs ys 0 hxy]
  simp only [Option.bind_some]
  rw [hf k (((pieces 46 l).map fun p=>p.map fC).map au) ((pieces 46 l).map au) (by
   rw [List.map_map,List.map_map,List.map_map]
   exact List.map_congr_left fun p _ =>by
    show (au (p.map fC)).size=(au p).size
    rw [bD,bD,List.length_map])]
 unfold iK
 rw [bD,bD,List.length_map,h1]
theorem zJ (l:List UInt8) (hl:l.length < 4294967281) (k:Nat) (hk:l.length + 3 < k):eD.f k (au (l.map fC))=eD.f k (au l):=by
 rw [kg l hl k hk,kg _ (by rw [List.length_map];exact hl) k (by rw [List.length_map];exact hk),zF _ l (Nat.lt_succ_self _),List.length_map,TD l hl]
theorem ab5 (b:UInt8):(fC b).toNat=91↔b.toNat=91:=fA (Q:=fun b=>(fC b).toNat=91↔b.toNat=91) gh b
theorem ab6 (b:UInt8):(fC b).toNat=93↔b.toNat=93:=fA (Q:=fun b=>(fC b).toNat=93↔b.toNat=93) gh b
theorem Pw (l:List UInt8) (i:Nat) (hi:i < l.length):bt (au l) (i:Int)=((l.getD i 0).toNat:Int):=by
 have h:=(oP (s:=au l) (p:=i) (b:=l.getD i 0) (l:=l.drop (i + 1)) (by
  show l.drop i=_
  rw [List.drop_eq_getElem_cons hi,List.getD_eq_getElem?_getD,List.getElem?_eq_getElem hi]
  rfl)).2.1
 exact h
theorem extract_mk (l:List UInt8) (a b:Nat):(au l).extract a b=au ((l.drop a).take (b - a)):=by
 apply ByteArray.ext
 rw [ByteArray.data_extract]
 show l.toArray.extract a b=((l.drop a).take (b - a)).toArray
 simp
def C4 (l:List UInt8):Bool:=decide (2 < l.length) && (decide ((l.getD 0 0).toNat=91) && (decide ((l.getD (l.length - 1) 0).toNat=93) && FJ ((l.drop 1).take (l.length - 2))))
theorem vY (l:List UInt8) (hl:l.length < 4294967281) (k:Nat) (hk:l.length + 4 < k):fO.f k (au l)=some (C4 l):=by
 unfold fO.f C4
 rw [bD]
 by_cases h2: 2 < l.length
 ·have hw:wrap64 ((l.length:Int) - 1)=((l.length - 1:Nat):Int):=by unfold wrap64;omega
  rw [hw,if_pos aq,if_pos aq,decide_eq_true h2,Bool.true_and]
  have b0:=Pw l 0 aq
  have b1:=Pw l (l.length - 1) aq
  rw [show bt (au l) 0=((l.getD 0 0).toNat:Int) from b0,b1]
  by_cases h91:(l.getD 0 0).toNat=91
  ·rw [if_pos aq,if_pos aq,if_pos aq,decide_eq_true h91,Bool.true_and]
   by_cases h93:(l.getD (l.length - 1) 0).toNat=93
   ·rw [if_pos aq,if_pos aq,if_pos aq,decide_eq_true h93,Bool.true_and,extract_mk,show (((l.length - 1:Nat):Int)).toNat - 1=l.length - 2 by omega,vU _ (by rw [List.length_take,List.length_drop];omega) k (by rw [List.length_take,List.length_drop];omega)]
    rfl
   ·rw [if_neg aq,decide_eq_false h93]
    rfl
  ·rw [if_neg aq,decide_eq_false h91]
   rfl
 ·rw [if_neg aq,decide_eq_false h2]
  rfl
theorem TE (l:List UInt8):C4 (l.map fC)=C4 l:=by
 unfold C4
 rw [List.length_map,FC,FC]
 have e1:decide ((fC (l.getD 0 0)).toNat=91)=decide ((l.getD 0 0).toNat=91):=by rw [decide_eq_decide];exact ab5 _
 have e2:decide ((fC (l.getD (l.length - 1) 0)).toNat=93)=decide ((l.getD (l.length - 1) 0).toNat=93):=by rw [decide_eq_decide];exact ab6 _
 rw [e1,e2,← List.map_drop,← List.map_take,MV]
end Go.Proofs.YtokpnfljjjjikaaGreatDoor.jo
namespace Go.Proofs.YtokpnfljjjjikaaGreatDoor.jo
open Go.RowKit Go.Proofs.YtokpnfljjjjikaaGreatDoor Go.Proofs.YtokpnfljjjjikaaGreatDoor.nK Go.Proofs.aj.bQ Go.Proofs.aj.cM
set_option linter.unusedVariables false
set_option linter.unusedSimpArgs false
theorem mk_data (s:ByteArray):au s.data.toList=s:=by
 obtain ⟨⟨l⟩⟩:=s
 rfl
theorem FZ {k k':Nat} (h:k≤k') {p:gw} (hp:oQ k p):oQ k' p:=kN (fun k=>bH.mono _ _ _ k) h hp
theorem C5 (s v:ByteArray) (b:Bool) (hv:v.size < 4611686018427387904):∀ (k i:Nat),v.size - i < k→i≤v.size→∃ r,bH.l1 k (v.size:Int) (i:Int) s v b=some r
 | 0,i,h,_ =>absurd h (Nat.not_lt_zero _)
 |k + 1,i,h,hi=>by
  unfold bH.l1
  by_cases hlt:i < v.size
  ·have hw:wrap64 ((i:Int) + 1)=((i + 1:Nat):Int):=by unfold wrap64;omega
   rw [if_pos aq,if_pos aq,if_pos aq,hw]
   have ih:=C5 s v b hv k (i + 1) aq aq
   repeat' split
   all_goals first|exact ⟨_,rfl⟩|exact ih
  ·rw [if_neg aq]
   split
   ·exact ⟨_,rfl⟩
   ·exact ⟨_,rfl⟩
theorem C6 (s v:ByteArray) (b:Bool) (hs:s.size < 4611686018427387904) (hv:v.size < 4611686018427387904):∀ (k i:Nat),s.size - i + v.size + 2 < k→i≤s.size→∃ r,bH.l0 k (s.size:Int) (i:Int) s v b=some r
 | 0,i,h,_ =>absurd h (Nat.not_lt_zero _)
 |k + 1,i,h,hi=>by
  have h1:=C5 s v b hv k 0 aq aq
  unfold bH.l0
  by_cases hlt:i < s.size
  ·have hw:wrap64 ((i:Int) + 1)=((i + 1:Nat):Int):=by unfold wrap64;omega
   rw [if_pos aq,if_pos aq,if_pos aq,hw]
   have ih:=C6 s v b hs hv k (i + 1) aq aq
   repeat' split
   all_goals first|exact ⟨_,rfl⟩|exact ih
  ·rw [if_neg aq]
   exact h1
theorem F5 (s v:ByteArray) (b:Bool) (hs:s.size < 4611686018427387904) (hv:v.size < 4611686018427387904) (k:Nat) (hk:s.size + v.size + 2 < k):∃ r,bH.f k s v b=some r:=C6 s v b hs hv k 0 aq (Nat.zero_le _)
theorem zi (k:Nat):∀ (xs:List (List UInt8)) (ps:List gw),(∀ x,x∈xs→x.length < 100000)→300000≤k→∃ r,bK.l k (xs.map au) ps=some r
 | [],ps,_,_ =>⟨_,rfl⟩
 |x :: xs,ps,hx,hk=>by
  have hx0:=hx x (List.mem_cons_self ..)
  rw [List.map_cons,qX k x aq]
  have hc:=congrArg List.length (qW 61 x).2
  rw [List.length_append] at hc
  have h1:(gY x).f0.size≤x.length:=by
   show (au ((Lib.cut x [61]).1.map zQ)).size≤_
   rw [bD,List.length_map]
   omega
  have h2:(gY x).f1.size≤x.length:=by
   show (au (Lib.cut x [61]).2.1).size≤_
   rw [bD]
   unfold Lib.cut
   split
   ·simp
   ·simp
  obtain ⟨b,hb⟩:=F5 (gY x).f0 (gY x).f1 (gY x).f2 aq aq k aq
  rw [hb]
  simp only [Option.bind_some]
  cases b with
  |true=>exact zi k xs _ (fun y hy=>hx y (List.mem_cons_of_mem _ hy)) hk
  |false=>exact ⟨_,rfl⟩
theorem Nh (k:Nat) (l:List UInt8) (hl:l.length < 100000) (hk: 300000≤k):∃ r,bK.f k (au l)=some r:=by
 by_cases hne:l= []
 ·subst hne
  unfold bK.f
  rw [if_pos (by rw [toList_mk];rfl)]
  exact ⟨_,rfl⟩
 ·rw [yT k l aq hne,← List.map_drop]
  obtain ⟨r,hr⟩:=zi k ((pieces 32 l).drop 1) [] (fun x hx=>by
   have:=FM 32 l x (List.mem_of_mem_drop hx)
   omega) hk
  rw [hr]
  exact ⟨_,rfl⟩
theorem yU (P:List gw) (hP:P.length < 4611686018427387904):∀ (k i:Nat) (acc:List UInt8),P.length - i < k→i≤P.length→acc.length + (zR ((P.drop i).map iC)).length < 4611686018427387904→
 bU.l0 k (au acc) P (P.length:Int) (i:Int)=some (au (acc ++ zR ((P.drop i).map iC)))
 | 0,i,acc,h,_,_ =>absurd h (Nat.not_lt_zero _)
 |k + 1,i,acc,h,hi,hl=>by
  unfold bU.l0
  by_cases hlt:i < P.length
  ·have hw:wrap64 ((i:Int) + 1)=((i + 1:Nat):Int):=by unfold wrap64;omega
   have hd:P.drop i=P[i] :: P.drop (i + 1):=List.drop_eq_getElem_cons hlt
   have hr:dw P (i:Int)=P[i]:=by
    unfold dw
    rw [List.getD_eq_getElem?_getD,show ((i:Int)).toNat=i by omega,List.getElem?_eq_getElem hlt]
    rfl
   rw [hd] at hl ⊢
   rw [hr,hw]
   obtain ⟨q,hq⟩:∃ q,P[i]=q:=⟨_,rfl⟩
   rw [hq] at hl ⊢
   clear hr hd hq
   obtain ⟨f0,f1,f2⟩:=q
   have e0:(⟨#[32]⟩:ByteArray) ++ f0=au (32 :: f0.data.toList):=by
    rw [← mk_data f0]
    exact iV [32] f0.data.toList
   have e1:(⟨#[61]⟩:ByteArray) ++ f1=au (61 :: f1.data.toList):=by
    rw [← mk_data f1]
    exact iV [61] f1.data.toList
   have z0:=dh f0
   have z1:=dh f1
   have hwl:(zR ((⟨f0,f1,f2⟩ :: P.drop (i + 1)).map iC))=32 :: (iC ⟨f0,f1,f2⟩ ++ zR ((P.drop (i + 1)).map iC)):=rfl
   rw [hwl] at hl ⊢
   have hwo:iC ⟨f0,f1,f2⟩=f0.data.toList ++ (if f2=true then 61 :: f1.data.toList else []):=rfl
   rw [hwo] at hl ⊢
   simp only at *
   rw [if_pos aq,if_pos aq,if_pos aq]
   cases f2 with
   |true=>
    simp only [if_true,List.length_cons,List.length_append] at hl
    rw [e0,e1,iV,iV,bD,bD,bD,bD,if_pos aq,if_pos uA,if_pos rfl,if_pos aq,if_pos Ik]
    rw [yU P hP k (i + 1) _ aq aq Ik]
    simp
   |false=>
    simp only [Bool.false_eq_true,if_false,List.append_nil,List.length_cons,List.length_append] at hl
    rw [e0,iV,bD,bD,if_pos aq,if_pos uA,if_neg bG]
    rw [yU P hP k (i + 1) _ aq aq Ik]
    simp
  ·have hd:P.drop i= []:=List.drop_of_length_le aq
   rw [if_neg aq,hd]
   simp [zR]
theorem Ni (P:List gw) (hP:P.length < 100000) (k0:Nat) (h:∀ p,p∈P→oQ k0 p):∀ (k i:Nat),P.length - i + k0 < k→i≤P.length→aR.l0 k P (P.length:Int) (i:Int)=some (-1)
 | 0,i,hk,_ =>absurd hk (Nat.not_lt_zero _)
 |k + 1,i,hk,hi=>by
  unfold aR.l0
  by_cases hlt:i < P.length
  ·have hw:wrap64 ((i:Int) + 1)=((i + 1:Nat):Int):=by unfold wrap64;omega
   have hr:dw P (i:Int)=P[i]:=by
    unfold dw
    rw [List.getD_eq_getElem?_getD,show ((i:Int)).toNat=i by omega,List.getElem?_eq_getElem hlt]
    rfl
   have hp:jh.f k P[i].f0 P[i].f1 P[i].f2=some false:=by
    unfold jh.f
    have h1:bH.f k P[i].f0 P[i].f1 P[i].f2=some true:=FZ (show k0≤k by omega) (h _ (List.getElem_mem hlt))
    rw [h1]
    rfl
   rw [if_pos aq,if_pos aq,if_pos aq,hr,hp,hw]
   simp only [Option.bind_some,Bool.false_eq_true,if_false]
   exact Ni P hP k0 h k (i + 1) aq aq
  ·rw [if_neg aq]
theorem TF (P:List gw) (hP:P.length < 100000) (k0:Nat) (h:∀ p,p∈P→oQ k0 p) (k:Nat) (hk:P.length + k0 < k):bI.f k P=some false:=by
 unfold bI.f aR.f
 have h1:=Ni P hP k0 h k 0 aq (Nat.zero_le _)
 rw [show ((0:Nat):Int)=0 from rfl] at h1
 rw [h1]
 rfl
def gf (v:Int):List UInt8:=(kF.getD v.toNat ⟨#[]⟩).data.toList
def ld (v:Int):Prop:=v=1∨v=2∨v=3∨v=4∨v=5∨v=6∨v=7∨v=8∨v=9∨v=10∨v=11
theorem mF {v:Int} (hv:ld v):(gf v).map zQ=gf v∧bV.f (au (gf v))=some v∧(32:UInt8) ∉ gf v∧(gf v).length≤4∧iq.f v=some (au (gf v))∧gf v≠ []:=by
 rcases hv with rfl|rfl|rfl|rfl|rfl|rfl|rfl|rfl|rfl|rfl|rfl<;>decide +kernel
theorem ni {v:Int} (hv:ld v) (r:List UInt8) (k:Nat) (hl:(gf v).length + 1 + r.length≤510):ak.f k (au (gf v ++ 32 :: r))=ak.v k v (au r) true:=by
 obtain ⟨h1,h2,h3,h4,_⟩:=mF hv
 unfold ak.f
 rw [bD,if_neg (by rw [List.length_append,List.length_cons];omega),zH _ 32 (by rw [List.length_append,List.length_cons];omega),Et 32 r _ h3]
 show ((cu.f (au (gf v))).bind fun g=>(bV.f g).bind fun v2=>ak.v k v2 (au r) true)=_
 rw [og _ aq,h1]
 show ((bV.f (au (gf v))).bind fun v2=>ak.v k v2 (au r) true)=_
 rw [h2]
 rfl
theorem F6 {v:Int} (hv:ld v) (k:Nat):ak.f k (au (gf v))=ak.v k v ⟨#[]⟩ false:=by
 obtain ⟨h1,h2,h3,h4,_⟩:=mF hv
 unfold ak.f
 rw [bD,if_neg aq,zH _ 32 aq,ur 32 _ h3]
 show ((cu.f (au (gf v))).bind fun g=>(bV.f g).bind fun v2=>ak.v k v2 (au []) false)=_
 rw [og _ aq,h1]
 show ((bV.f (au (gf v))).bind fun v2=>ak.v k v2 (au []) false)=_
 rw [h2]
 rfl
theorem Sv (s:ByteArray):∀ (l:List ByteArray) (i:Nat) (v:Int),SL s l i=v→v≠0→∃ j:Nat,v=((i + j:Nat):Int)∧l[j]? =some s
 | [],i,v,h,h0=>absurd h.symm h0
 |x :: l,i,v,h,h0=>by
  unfold SL at h
  by_cases hx: 0 < i∧x=s
  ·rw [if_pos hx] at h
   exact ⟨0,by rw [← h];rfl,by rw [hx.2];rfl⟩
  ·rw [if_neg hx] at h
   obtain ⟨j,h1,h2⟩:=Sv s l (i + 1) v h h0
   exact ⟨j + 1,by rw [h1];congr 1;omega,h2⟩
theorem Nj {w:List UInt8} {v:Int} (h:bV.f (au w)=some v) (h0:v≠0):ld v∧w=gf v:=by
 have hr:=Fi h
 obtain ⟨j,h1,h2⟩:=Sv (au w) kF 0 v (Option.some.inj h) h0
 refine ⟨by unfold ld;omega,?_⟩
 unfold gf
 rw [h1,Nat.zero_add,List.getD_eq_getElem?_getD,show ((j:Int)).toNat=j by omega,h2]
 rfl
end Go.Proofs.YtokpnfljjjjikaaGreatDoor.jo
namespace Go.Proofs.YtokpnfljjjjikaaGreatDoor.jo
open Go.RowKit Go.Proofs.YtokpnfljjjjikaaGreatDoor Go.Proofs.YtokpnfljjjjikaaGreatDoor.nK Go.Proofs.aj.bQ Go.Proofs.aj.cM
set_option linter.unusedVariables false
set_option linter.unusedSimpArgs false
theorem nJ (l:List UInt8) (n:Nat):(au l).extract n (au l).size=au (l.drop n):=by
 rw [extract_mk,bD]
 congr 1
 exact List.take_of_length_le kW
theorem vZ (l:List UInt8) (n:Nat):(au l).extract 0 n=au (l.take n):=by
 rw [extract_mk]
 simp
def eV (v:Int):List UInt8:=if v=3 then [70,82,79,77,58] else [84,79,58]
theorem qY (v:Int):(eV v).map zQ=eV v∧(eV v).length≤5:=by
 unfold eV
 split<;>decide +kernel
abbrev ab7:=Bool×Bool×List ByteArray×ByteArray×ByteArray×Bool×List gw
structure Sw (n:Bool) (R:List ByteArray) (lo dom:ByteArray) (lit:Bool) (P:List gw) (m:Nat) (t:List UInt8):Prop where
 ag:Ng n R lo dom lit m t
 ps:∀ k,3000000≤k→bK.f k (au (iG P))=some (P,true)
 ok:∀ p,p∈P→oQ 3000000 p
 pl:P.length≤1000
 rl:R.length≤1000
 tl:t.length + (iG P).length≤600
theorem C7 {n:Bool} {R:List ByteArray} {lo dom:ByteArray} {lit:Bool} {P:List gw} {m:Nat} {t:List UInt8} (g:Sw n R lo dom lit P m t) (v:Int) (k:Nat) (hk: 3000000≤k):
 dU.f k (au (eV v ++ (t ++ iG P))) (au (eV v))=some (true,n,R,lo,dom,lit,P):=by
 obtain ⟨h1,h2⟩:=qY v
 have htl:=g.tl
 have hsz:(au (eV v ++ (t ++ iG P))).size=(eV v).length + (t.length + (iG P).length):=by
  rw [bD,List.length_append,List.length_append]
 unfold dU.f
 rw [hsz,bD,if_neg aq,vZ,List.take_left,og _ aq,h1]
 simp only [Option.bind_some,if_true]
 rw [← hsz,nJ,List.drop_left,g.ag.rd k hk _ aq]
 simp only [Option.bind_some,if_true]
 rw [if_pos ⟨aq,aq,aq⟩,nJ,show ((((eV v).length:Int) + (t.length:Int))).toNat=(eV v ++ t).length by rw [List.length_append];omega,← List.append_assoc,List.drop_left,g.ps k hk]
 rfl
theorem C8 (v:Int) (r:List UInt8) (hr:r.length≤510):∃ res:ab7,dU.f 3000000 (au r) (au (eV v))=some res∧
 (res.1=false∨∃ (n:Bool) (R:List ByteArray) (lo dom:ByteArray) (lit:Bool) (P:List gw) (m:Nat) (t:List UInt8),res=(true,n,R,lo,dom,lit,P)∧Sw n R lo dom lit P m t∧(eV v).length + t.length + (iG P).length≤r.length):=by
 obtain ⟨h1,h2⟩:=qY v
 unfold dU.f
 rw [bD,bD]
 by_cases hlt:(r.length:Int) < ((eV v).length:Int)
 ·rw [if_pos hlt]
  exact ⟨_,rfl,.inl rfl⟩
 rw [if_neg hlt,vZ,og _ (by rw [List.length_take];omega)]
 simp only [Option.bind_some]
 by_cases hg:(au ((r.take (eV v).length).map zQ)).toList=(au (eV v)).toList
 case neg=>rw [if_neg hg];exact ⟨_,rfl,.inl rfl⟩
 rw [if_pos hg]
 have ht:(au r).extract (eV v).length r.length=au (r.drop (eV v).length):=by
  have:=nJ r (eV v).length
  rwa [bD] at this
 rw [ht]
 have hsz:(au (r.drop (eV v).length)).size=r.length - (eV v).length:=by rw [bD,List.length_drop]
 obtain ⟨⟨p1,p2,p3,p4,p5,p6,p7⟩,hp⟩:=Po (au (r.drop (eV v).length)) aq 3000000 aq
 rw [hp]
 simp only [Option.bind_some]
 by_cases he:p7=0
 case neg=>rw [if_neg he];exact ⟨_,rfl,.inl rfl⟩
 rw [if_pos he]
 subst he
 obtain ⟨n,t,rfl,hn,ag⟩:=Pr 3000000 aq _ aq p1 p2 p3 p4 p5 p6 hp
 have hR:=M5 _ aq 3000000 aq hp
 rw [if_pos ⟨aq,aq,aq⟩]
 have ht2:(au r).extract (((eV v).length:Int) + (n:Int)).toNat r.length=au (r.drop ((eV v).length + n)):=by
  have:=nJ r ((eV v).length + n)
  rw [bD] at this
  rw [show (((eV v).length:Int) + (n:Int)).toNat=(eV v).length + n by omega]
  exact this
 rw [ht2]
 obtain ⟨⟨P,ok⟩,hP⟩:=Nh 3000000 (r.drop ((eV v).length + n)) kW aq
 rw [hP]
 simp only [Option.bind_some]
 cases ok with
 |false=>exact ⟨_,rfl,.inl rfl⟩
 |true=>
  obtain ⟨q1,q2,q3,q4⟩:=Lb 3000000 _ kW P hP
  rw [List.length_drop] at q1 q4
  have hle:=ag.le
  exact ⟨_,rfl,.inr ⟨p1,p2,p3,p4,p5,P,n,t,rfl,⟨ag,fun k hk=>kN (fun k=>bK.mono _ k) hk q2,q3,aq,aq,aq⟩,aq⟩⟩
structure Good (v:Int) (a:ByteArray) (n:Bool) (R:List ByteArray) (lo dom:ByteArray) (lit:Bool) (P:List gw) (t:List UInt8):Prop where
 b:∀ k,3001100≤k→fq.f k v a n R lo dom lit P=some true
 w:∀ k,3001100≤k→bU.f k v a n R lo dom lit P=some (au t)
 r:∀ k,3001100≤k→ak.f k (au t)=some (v,a,n,R,lo,dom,lit,P,0)
 rl:R.length≤1000
 pl:P.length≤1000
def kK (a:List UInt8):List UInt8:=if a= [] then [] else 32 :: a
theorem zK {v:Int} (h3:v≠3) (h4:v≠4):dV.f v=some false:=by
 unfold dV.f
 rw [if_neg h3]
 simp [h4]
theorem zL {v:Int} (hv:ld v) (h3:v≠3) (h4:v≠4) (a:List UInt8) (ha:a.length≤1000) (hp:∀ k,3001100≤k→ak.f k (au (gf v ++ kK a))=ak.w v (au a)):Good v (au a) false [] ⟨#[]⟩ ⟨#[]⟩ false [] (gf v ++ kK a):=by
 obtain ⟨_,_,_,f4,f5,_⟩:=mF hv
 refine ⟨fun k hk=>?_,fun k hk=>?_,hp,aV,aV⟩
 ·unfold fq.f
  rw [zK h3 h4]
  simp only [Option.bind_some,Bool.false_eq_true,if_false]
  rw [if_pos (by rfl),if_pos gh]
  rfl
 ·unfold bU.f
  rw [f5,zK h3 h4]
  simp only [Option.bind_some,Bool.false_eq_true,if_false]
  rw [toList_mk]
  unfold kK
  by_cases h0:a= []
  ·rw [if_pos h0,if_pos h0,List.append_nil]
  ·rw [if_neg h0,if_neg h0]
   have e1:(⟨#[32]⟩:ByteArray) ++ au a=au (32 :: a):=iV [32] a
   rw [e1,bD,bD,bD,if_pos aq,if_pos uA,iV]
theorem Hh {v:Int} (hv:v=3∨v=4) {n:Bool} {R:List ByteArray} {lo dom:ByteArray} {lit:Bool} {P:List gw} {m:Nat} {t:List UInt8} (g:Sw n R lo dom lit P m t) (hl:(gf v).length + 1 + ((eV v).length + (t.length + (iG P).length))≤510)
 (hm:v=3→n=true∨dom.toList.isEmpty=false) (hr:v=4→n=false):Good v ⟨#[]⟩ n R lo dom lit P (gf v ++ 32 :: (eV v ++ (t ++ iG P))):=by
 have hvb:ld v:=by unfold ld;omega
 obtain ⟨_,_,_,f4,f5,_⟩:=mF hvb
 have hpl:=g.pl
 have htl:=g.tl
 have hc:dV.f v=some true:=by rcases hv with rfl|rfl<;>rfl
 refine ⟨fun k hk=>?_,fun k hk=>?_,fun k hk=>?_,g.rl,hpl⟩
 ·unfold fq.f
  rw [hc]
  simp only [Option.bind_some,if_true]
  rw [if_pos gh,g.ag.rt k aq]
  simp only [Option.bind_some,if_true]
  rw [TF P aq 3000000 g.ok k aq]
  rfl
 ·have hj:∀ k,3001050≤k→∀ (x:ByteArray) (a:List UInt8),a.length≤6→∀ z:Int,∀ y:ByteArray,bU.j0 (k + 1) (au (gf v)) (au a) z y n R lo dom lit P=some (au (gf v ++ (a ++ t) ++ iG P)):=by
   intro k hk x a ha z y
   rw [bU.j0,g.ag.pr k aq]
   show (if (au a).size + (au t).size≤9223372036854775807 then _ else none)=_
   have hrun:=yU P aq k 0 (gf v ++ (a ++ t)) aq (Nat.zero_le _) (by
    rw [List.drop_zero]
    show _ + (iG P).length < _
    rw [List.length_append,List.length_append]
    omega)
   rw [List.drop_zero] at hrun
   rw [bD,bD,if_pos aq,iV,bD,bD,if_pos (by rw [List.length_append];omega),iV]
   exact hrun
  obtain ⟨k,rfl⟩:∃ k',k=k' + 1:=⟨k - 1,aq⟩
  unfold bU.f
  rw [f5,hc]
  simp only [Option.bind_some,if_true]
  rcases hv with rfl|rfl
  ·rw [if_pos rfl]
   have:=hj k aq ⟨#[]⟩ [32,70,82,79,77,58] aV 3 ⟨#[]⟩
   refine this.trans ?_
   all_goals (congr 2;try (simp [eV]))
  ·rw [if_neg bG]
   have:=hj k aq ⟨#[]⟩ [32,84,79,58] aV 4 ⟨#[]⟩
   refine this.trans ?_
   all_goals (congr 2;try (simp [eV]))
 ·rw [ni hvb _ k (by rw [List.length_append,List.length_append];exact hl)]
  have hpd:=C7 g v k aq
  rcases hv with rfl|rfl
  ·rw [show ak.v k 3 (au (eV 3 ++ (t ++ iG P))) true=ak.Fg k (au (eV 3 ++ (t ++ iG P))) from by unfold ak.v;simp]
   unfold ak.Fg
   rw [show (⟨#[70,82,79,77,58]⟩:ByteArray)=au (eV 3) from rfl,hpd]
   simp only [Option.bind_some,if_true]
   rcases hm rfl with rfl|hd
   ·rw [if_pos rfl]
    rfl
   ·rw [hd,if_neg (bG: ¬ false=true)]
    split<;>rfl
  ·rw [show ak.v k 4 (au (eV 4 ++ (t ++ iG P))) true=ak.Fh k (au (eV 4 ++ (t ++ iG P))) from by unfold ak.v;simp]
   unfold ak.Fh
   rw [show (⟨#[84,79,58]⟩:ByteArray)=au (eV 4) from rfl,hpd]
   simp only [Option.bind_some,if_true]
   rw [hr rfl,if_neg bG]
   rfl
end Go.Proofs.YtokpnfljjjjikaaGreatDoor.jo
namespace Go.Proofs.YtokpnfljjjjikaaGreatDoor.jo
open Go.RowKit Go.Proofs.YtokpnfljjjjikaaGreatDoor Go.Proofs.YtokpnfljjjjikaaGreatDoor.nK Go.Proofs.aj.bQ Go.Proofs.aj.cM
set_option linter.unusedVariables false
set_option linter.unusedSimpArgs false
theorem Nk:bM.f 120=some true:=by decide +kernel
theorem xx (k:Nat) (hk: 120≤k):bM.f k=some true:=kN (fun k=>bM.mono k) hk Nk
theorem Hj (v:Int) (a:ByteArray) (n:Bool) (R:List ByteArray) (lo dom:ByteArray) (lit:Bool) (P:List gw) (hP:P.length < 4611686018427387904):∀ (k i:Nat),P.length - i < k→i≤P.length→aY.l0 k (P.length:Int) (i:Int) v a n R lo dom lit P v a n R lo dom lit P=some true
 | 0,i,h,_ =>absurd h (Nat.not_lt_zero _)
 |k + 1,i,h,hi=>by
  unfold aY.l0
  by_cases hlt:i < P.length
  ·have hw:wrap64 ((i:Int) + 1)=((i + 1:Nat):Int):=by unfold wrap64;omega
   rw [if_pos aq,if_pos aq,if_pos aq,if_pos aq,if_neg aV,hw]
   exact Hj v a n R lo dom lit P hP k (i + 1) aq aq
  ·rw [if_neg aq]
theorem Px (v:Int) (a:ByteArray) (n:Bool) (R:List ByteArray) (lo dom:ByteArray) (lit:Bool) (P:List gw) (hR:R.length≤1000) (hP:P.length≤1000) (k:Nat) (hk: 5000≤k):aY.f k v a n R lo dom lit P v a n R lo dom lit P=some true:=by
 obtain ⟨k,rfl⟩:∃ k',k=k' + 1:=⟨k - 1,aq⟩
 unfold aY.f
 rw [if_pos rfl,if_pos rfl,Tx n R lo dom lit (k + 1) aq aq]
 simp only [Option.bind_some,if_true]
 rw [aY.j0,if_neg aV]
 exact Hj v a n R lo dom lit P aq k 0 aq (Nat.zero_le _)
def Told (L:List UInt8) (r:Bi):Prop:=
 (∃ e,some r=ak.z e∧((e=160∧L.length≤510)∨(e=161∧L.length≤510)))∨
 ∃ v a n R lo dom lit P t,r=(v,a,n,R,lo,dom,lit,P,0)∧Good v a n R lo dom lit P t∧t.length≤L.length∧(v=3∨v=4∨(n=false∧R= []∧lo=⟨#[]⟩∧dom=⟨#[]⟩∧lit=false∧P= []))
theorem sj (L:List UInt8) (hl:L.length≤510) (e:Int) (he:e=160∨e=161):∃ r,ak.z e=some r∧Told L r:=
 ⟨_,rfl,.inl ⟨e,rfl,by rcases he with rfl|rfl<;>simp [hl]⟩⟩
theorem Py:fu eT 46 []≠(true,0):=by decide
theorem Sy (r:List UInt8) (hl:r.length≤510):∃ b,fP.f (au r)=some b∧(b=true→r≠ []):=by
 unfold fP.f
 rw [if_pos iI,toList_mk]
 refine ⟨_,rfl,fun h e=>?_⟩
 subst e
 simp at h
theorem pM {v:Int} (k:Nat) (r:ByteArray) (m:Bool):(v=1→ak.v k v r m=ak.Gh k r)∧(v=2→ak.v k v r m=ak.Ff k r)∧(v=3→ak.v k v r m=ak.Fg k r)∧(v=4→ak.v k v r m=ak.Fh k r)∧(v=7∨v=8→ak.v k v r m=ak.free v r)∧(v=9∨v=10→ak.v k v r m=if m=true then ak.free v r else ak.w v ⟨#[]⟩)∧(v=5∨v=6∨v=11→ak.v k v r m=if m=true then ak.z 161 else ak.w v ⟨#[]⟩):=by
 refine ⟨?_,?_,?_,?_,?_,?_,?_⟩
 ·rintro rfl;unfold ak.v;simp
 ·rintro rfl;unfold ak.v;simp
 ·rintro rfl;unfold ak.v;simp
 ·rintro rfl;unfold ak.v;simp
 ·rintro (rfl|rfl)<;>(unfold ak.v;simp)
 ·rintro (rfl|rfl)<;>(unfold ak.v;simp)
 ·rintro (rfl|rfl|rfl)<;>(unfold ak.v;simp)
theorem rD {a:List UInt8} (h:a≠ []):kK a=32 :: a:=if_neg h
theorem Wo {r:List UInt8} (h:r≠ []):r.map fC≠ []:=by
 intro e
 exact h (List.map_eq_nil_iff.mp e)
theorem ab8 {v:Int} (hv:ld v) (L w r:List UInt8) (m:Bool) (hL:L.length≤510) (hw:w.length=(gf v).length) (h1:m=true→L.length=w.length + 1 + r.length) (h2:m=false→r= []∧L.length=w.length):
 ∃ res,ak.v 3000000 v (au r) m=some res∧Told L res:=by
 obtain ⟨f1,f2,f3,f4,f5,f6⟩:=mF hv
 have hrl:r.length≤510:=by cases m with|true=>have:=h1 rfl;omega|false=>have:=(h2 rfl).1;rw [this];simp
 have free:∀ (am0:v=7∨v=8∨v=9∨v=10),(v=7∨v=8∨m=true)→∃ res,ak.free v (au r)=some res∧Told L res:=by
  intro h79 hm
  unfold ak.free
  obtain ⟨b,hb,hbn⟩:=Sy r hrl
  rw [hb]
  simp only [Option.bind_some]
  cases b with
  |false=>exact sj L hL 161 (.inr rfl)
  |true=>
   have hne:=hbn rfl
   have hmt:m=true:=by
    cases m with
    |true=>rfl
    |false=>exact absurd (h2 rfl).1 hne
   have hll:=h1 hmt
   refine ⟨_,rfl,.inr ⟨v,au r,false,[],⟨#[]⟩,⟨#[]⟩,false,[],gf v ++ kK r,rfl,zL hv aq aq r aq (fun k hk=>?_),?_⟩⟩
   ·rw [rD hne,ni hv r k aq]
    have hfree:ak.free v (au r)=ak.w v (au r):=by
     unfold ak.free
     rw [hb]
     rfl
    obtain ⟨_,_,_,_,v78,Cl,_⟩:=pM (v:=v) k (au r) true
    rcases h79 with h|h|h|h
    ·rw [v78 (.inl h),hfree]
    ·rw [v78 (.inr h),hfree]
    ·rw [Cl (.inl h),if_pos rfl,hfree]
    ·rw [Cl (.inr h),if_pos rfl,hfree]
   ·refine ⟨?_,.inr (.inr ⟨rfl,rfl,rfl,rfl,rfl,rfl⟩)⟩
    rw [rD hne,List.length_append,List.length_cons]
    omega
 have only:v=5∨v=6∨v=9∨v=10∨v=11→m=false→∃ res,ak.w v ⟨#[]⟩=some res∧Told L res:=by
  intro hvv hm
  obtain ⟨_,hll⟩:=h2 hm
  refine ⟨_,rfl,.inr ⟨v,⟨#[]⟩,false,[],⟨#[]⟩,⟨#[]⟩,false,[],gf v ++ kK [],rfl,zL hv aq aq [] aV (fun k hk=>?_),?_⟩⟩
  ·rw [show gf v ++ kK []=gf v from by simp [kK],F6 hv k]
   obtain ⟨_,_,_,_,_,Cl,v5⟩:=pM (v:=v) k ⟨#[]⟩ false
   rcases hvv with h|h|h|h|h
   ·rw [v5 (.inl h),if_neg bG];rfl
   ·rw [v5 (.inr (.inl h)),if_neg bG];rfl
   ·rw [Cl (.inl h),if_neg bG];rfl
   ·rw [Cl (.inr h),if_neg bG];rfl
   ·rw [v5 (.inr (.inr h)),if_neg bG];rfl
  ·refine ⟨?_,.inr (.inr ⟨rfl,rfl,rfl,rfl,rfl,rfl⟩)⟩
   rw [show gf v ++ kK []=gf v from by simp [kK]]
   omega
 have aje:∀ (k:Nat),3000000≤k→eD.f k (au r)=eD.f 3000000 (au r):=by
  intro k hk
  rw [kg r aq k aq,kg r aq 3000000 aq]
 have named:∀ (ajf:v=1∨v=2),r≠ []→m=true→(∀ k,3001100≤k→ak.v k v (au (r.map fC)) true=ak.w v (au (r.map fC)))→Told L (v,au (r.map fC),false,[],⟨#[]⟩,⟨#[]⟩,false,[],0):=by
  intro ajf hne hm hk
  have hll:=h1 hm
  refine .inr ⟨v,au (r.map fC),false,[],⟨#[]⟩,⟨#[]⟩,false,[],gf v ++ kK (r.map fC),rfl,zL hv aq aq (r.map fC) mK (fun k hkk=>?_),?_⟩
  ·rw [rD (Wo hne),ni hv _ k mK]
   exact hk k hkk
  ·refine ⟨?_,.inr (.inr ⟨rfl,rfl,rfl,rfl,rfl,rfl⟩)⟩
   rw [rD (Wo hne),List.length_append,List.length_cons,List.length_map]
   omega
 have Nl:r≠ []→m=true:=by
  intro hne
  cases m with
  |true=>rfl
  |false=>exact absurd (h2 rfl).1 hne
 obtain ⟨v1,v2,v3,v4,v78,Cl,v5⟩:=pM (v:=v) 3000000 (au r) m
 have hsm:gi.f (au r)=some (au (r.map fC)):=yS r aq
 have ab9:gi.f (au (r.map fC))=some (au (r.map fC)):=by
  rw [yS _ mK,qV]
 rcases hv with rfl|rfl|rfl|rfl|rfl|rfl|rfl|rfl|rfl|rfl|rfl
 ·rw [v1 rfl]
  unfold ak.Gh
  rw [hsm,kg r aq _ aq]
  simp only [Option.bind_some]
  cases hd:(decide (fu eT 46 r=(true,r.length)) && iK (au r)) with
  |false=>exact sj L hL 161 (.inr rfl)
  |true=>
   have hne:r≠ []:=by
    rintro rfl
    rw [decide_eq_false (show ¬ fu eT 46 []=(true,([]:List UInt8).length) from Py)] at hd
    cases hd
   refine ⟨_,rfl,named (.inl rfl) hne (Nl hne) (fun k hk=>?_)⟩
   rw [(pM k _ true).1 rfl]
   unfold ak.Gh
   rw [ab9,zJ r aq k aq,kg r aq k aq,hd]
   rfl
 ·rw [v2 rfl]
  unfold ak.Ff
  rw [hsm,kg r aq _ aq]
  simp only [Option.bind_some]
  cases hd:(decide (fu eT 46 r=(true,r.length)) && iK (au r)) with
  |false=>
   rw [if_neg bG,vY r aq _ aq]
   simp only [Option.bind_some]
   cases hc:C4 r with
   |false=>exact sj L hL 161 (.inr rfl)
   |true=>
    have hne:r≠ []:=by
     rintro rfl
     exact absurd hc bG
    refine ⟨_,rfl,named (.inr rfl) hne (Nl hne) (fun k hk=>?_)⟩
    rw [(pM k _ true).2.1 rfl]
    unfold ak.Ff
    rw [ab9,zJ r aq k aq,kg r aq k aq,hd]
    simp only [Option.bind_some]
    rw [if_neg bG,vY _ mK k mK,TE,hc]
    rfl
  |true=>
   have hne:r≠ []:=by
    rintro rfl
    rw [decide_eq_false (show ¬ fu eT 46 []=(true,([]:List UInt8).length) from Py)] at hd
    cases hd
   refine ⟨_,rfl,named (.inr rfl) hne (Nl hne) (fun k hk=>?_)⟩
   rw [(pM k _ true).2.1 rfl]
   unfold ak.Ff
   rw [ab9,zJ r aq k aq,kg r aq k aq,hd]
   rfl
 ·rw [v3 rfl]
  unfold ak.Fg
  rw [show (⟨#[70,82,79,77,58]⟩:ByteArray)=au (eV 3) from rfl]
  obtain ⟨res,h3,h4⟩:=C8 3 r hrl
  rw [h3]
  simp only [Option.bind_some]
  rcases h4 with h4|⟨n,R,lo,dom,lit,P,mm,t,rfl,g,hle⟩
  ·rw [h4]
   exact sj L hL 161 (.inr rfl)
  ·have hne:r≠ []:=by
    rintro rfl
    have:=g.ag.ne
    rw [List.length_nil] at hle
    omega
   have hll:=h1 (Nl hne)
   have aao:n=true∨dom.toList.isEmpty=false→Told L (3,⟨#[]⟩,n,R,lo,dom,lit,P,0):=fun hm=> .inr ⟨3,_,_,_,_,_,_,_,_,rfl,Hh (.inl rfl) g aq (fun _ =>hm) (fun h=>by omega),P7,aV⟩
   show ∃ res,(if true=true then (if n=true then ak.p 3 (true,n,R,lo,dom,lit,P) else if dom.toList.isEmpty=true then ak.z 161 else ak.p 3 (true,n,R,lo,dom,lit,P)) else ak.z 161)=some res∧Told L res
   rw [if_pos rfl]
   by_cases hn:n=true
   ·rw [if_pos hn]
    exact ⟨_,rfl,aao (.inl hn)⟩
   ·rw [if_neg hn]
    by_cases hd:dom.toList.isEmpty=true
    ·rw [if_pos hd]
     exact sj L hL 161 (.inr rfl)
    ·rw [if_neg hd]
     exact ⟨_,rfl,aao (.inr (Bool.eq_false_iff.mpr hd))⟩
 ·rw [v4 rfl]
  unfold ak.Fh
  rw [show (⟨#[84,79,58]⟩:ByteArray)=au (eV 4) from rfl]
  obtain ⟨res,h3,h4⟩:=C8 4 r hrl
  rw [h3]
  simp only [Option.bind_some]
  rcases h4 with h4|⟨n,R,lo,dom,lit,P,mm,t,rfl,g,hle⟩
  ·rw [h4]
   exact sj L hL 161 (.inr rfl)
  ·have hne:r≠ []:=by
    rintro rfl
    have:=g.ag.ne
    rw [List.length_nil] at hle
    omega
   have hll:=h1 (Nl hne)
   show ∃ res,(if true=true then (if n=true then ak.z 161 else ak.p 4 (true,n,R,lo,dom,lit,P)) else ak.z 161)=some res∧Told L res
   rw [if_pos rfl]
   by_cases hn:n=true
   ·rw [if_pos hn]
    exact sj L hL 161 (.inr rfl)
   ·rw [if_neg hn]
    exact ⟨_,rfl,.inr ⟨4,⟨#[]⟩,n,R,lo,dom,lit,P,_,rfl,Hh (.inr rfl) g aq (fun h=>by omega) (fun _ =>Bool.eq_false_iff.mpr hn),P7,aV⟩⟩
 ·rw [v5 (.inl rfl)]
  cases m with
  |true=>exact sj L hL 161 (.inr rfl)
  |false=>exact only aq rfl
 ·rw [v5 (.inr (.inl rfl))]
  cases m with
  |true=>exact sj L hL 161 (.inr rfl)
  |false=>exact only aq rfl
 ·rw [v78 (.inl rfl)]
  exact free aq (.inl rfl)
 ·rw [v78 (.inr rfl)]
  exact free aq (.inr (.inl rfl))
 ·rw [Cl (.inl rfl)]
  cases m with
  |true=>exact free aq (.inr (.inr rfl))
  |false=>exact only aq rfl
 ·rw [Cl (.inr rfl)]
  cases m with
  |true=>exact free aq (.inr (.inr rfl))
  |false=>exact only aq rfl
 ·rw [v5 (.inr (.inr rfl))]
  cases m with
  |true=>exact sj L hL 161 (.inr rfl)
  |false=>exact only aq rfl
theorem Pz (L:List UInt8) (hL:L.length≤510):∃ r,ak.f 3000000 (au L)=some r∧Told L r:=by
 have hct:=(qW 32 L).2
 have hcl:=congrArg List.length hct
 rw [List.length_append] at hcl
 unfold ak.f
 rw [bD,if_neg aq,zH L 32 aq]
 simp only [Option.bind_some]
 rw [og _ aq]
 simp only [Option.bind_some]
 obtain ⟨v,hv⟩:∃ v,bV.f (au ((Lib.cut L [32]).1.map zQ))=some v:=⟨_,rfl⟩
 rw [hv]
 simp only [Option.bind_some]
 by_cases h0:v=0
 ·subst h0
  have:ak.v 3000000 0 (au (Lib.cut L [32]).2.1) (Lib.cut L [32]).2.2=ak.z 160:=by unfold ak.v;rw [if_pos rfl]
  rw [this]
  exact sj L hL 160 (.inl rfl)
 ·obtain ⟨hV,hw⟩:=Nj hv h0
  have hwl:=congrArg List.length hw
  rw [List.length_map] at hwl
  refine ab8 hV L (Lib.cut L [32]).1 (Lib.cut L [32]).2.1 (Lib.cut L [32]).2.2 hL hwl (fun hm=>?_) (fun hm=>?_)
  ·rw [hm,if_pos rfl,List.length_cons] at hcl
   omega
  ·rw [hm,if_neg bG,List.length_nil] at hcl
   refine ⟨?_,aq⟩
   unfold Lib.cut at hm ⊢
   split
   ·rename_i h;rw [if_pos h] at hm;cases hm
   ·rfl
end Go.Proofs.YtokpnfljjjjikaaGreatDoor.jo
namespace Go.Proofs.YtokpnfljjjjikaaGreatDoor.jo
open Go.RowKit Go.Proofs.YtokpnfljjjjikaaGreatDoor Go.Proofs.YtokpnfljjjjikaaGreatDoor.nK Go.Proofs.aj.bQ Go.Proofs.aj.cM
set_option linter.unusedVariables false
set_option linter.unusedSimpArgs false
theorem Hl (d:List UInt8) (hl:d.length < 4294967281):cz.f (au d)=some (au (d.map fC)):=by
 unfold cz.f
 rw [if_pos iI,ng]
instance (d:List UInt8):Decidable (lI d):=by unfold lI;infer_instance
theorem Nn (d:List UInt8) (hl:d.length < 4294967281) (k:Nat) (hk:d.length + 3 < k):j5.f k (au d)=some (decide (lI d) && iK (au d)):=by
 unfold j5.f
 rw [kg d hl k hk]
 simp only [Option.bind_some]
 by_cases h1:fu eT 46 d=(true,d.length)
 ·rw [decide_eq_true h1,Bool.true_and]
  cases hs:iK (au d) with
  |true=>
   rw [if_pos rfl,Hl d hl]
   simp only [Option.bind_some]
   rw [toList_mk,toList_mk,Bool.and_true]
   by_cases h2:d.map fC=d
   ·rw [h2,decide_eq_true ⟨h1,h2⟩]
    simp
   ·rw [decide_eq_false (fun h:lI d=>h2 h.2)]
    simp [h2]
  |false=>
   rw [if_neg bG,Bool.and_false]
 ·rw [decide_eq_false h1,Bool.false_and,if_neg bG,decide_eq_false (fun h:lI d=>h1 h.1)]
  rfl
def Eu (lo dom:List UInt8) (lit:Bool):Bool:=
 decide (lo.length≤64) && (if lit=true then FJ dom && decide (dom.map fC=dom) else iK (au dom) && decide (lI dom))
def Np (b:UInt8):Bool:=decide (yY b)
theorem Ho (lo dom:List UInt8) (lit:Bool) (hlo:lo.length < 4294967281) (hl:dom.length < 4294967281):∀ (k i:Nat),lo.length - i + dom.length + 6 < k→i≤lo.length→
 dL.l0 k (lo.length:Int) (i:Int) (au lo) (au dom) lit=some ((lo.drop i).all Np && Eu lo dom lit)
 | 0,_,h,_ =>absurd h (Nat.not_lt_zero _)
 |k + 1,i,hk,hi=>by
  unfold dL.l0
  by_cases hlt:i < lo.length
  ·have hd:lo.drop i=lo[i] :: lo.drop (i + 1):=List.drop_eq_getElem_cons hlt
   have hb:bt (au lo) (i:Int)=(lo[i].toNat:Int):=by
    rw [Sj lo i hlt,List.getD_eq_getElem?_getD,List.getElem?_eq_getElem hlt]
    rfl
   rw [if_pos aq,if_pos aq,if_pos iI,hb,hd,List.all_cons]
   by_cases h1:lo[i] < 32
   ·rw [if_pos (O8.mpr h1)]
    have:Np lo[i]=false:=decide_eq_false (fun h=>h (.inl h1))
    rw [this]
    rfl
   ·rw [if_neg (fun h=>h1 (O8.mp h))]
    by_cases h2: 126 < lo[i]
    ·rw [if_pos (Fq.mpr h2)]
     have:Np lo[i]=false:=decide_eq_false (fun h=>h (.inr h2))
     rw [this]
     rfl
    ·rw [if_neg (fun h=>h2 (Fq.mp h)),rz i aq]
     have:Np lo[i]=true:=decide_eq_true (fun h=>h.elim h1 h2)
     rw [this,Bool.true_and]
     exact Ho lo dom lit hlo hl k (i + 1) aq aq
  ·rw [if_neg aq,List.drop_of_length_le aq,List.all_nil,Bool.true_and]
   unfold Eu
   cases lit with
   |true=>
    rw [if_pos rfl,if_pos rfl,rK lo dom true k aq]
    simp only [Option.bind_some,Bool.true_or,Bool.and_true]
    by_cases h64:lo.length≤64
    ·rw [decide_eq_true h64,if_pos rfl,vU dom hl k aq,Bool.true_and]
     simp only [Option.bind_some]
     cases hL:FJ dom with
     |true=>
      rw [if_pos rfl,Hl dom hl]
      simp only [Option.bind_some,Bool.true_and]
      rw [toList_mk,toList_mk]
      by_cases h2:dom.map fC=dom
      ·rw [decide_eq_true h2,h2];simp
      ·rw [decide_eq_false h2];simp [h2]
     |false=>rw [if_neg bG];rfl
    ·rw [decide_eq_false h64,if_neg bG];rfl
   |false=>
    rw [if_neg bG,if_neg bG,rK lo dom false k aq]
    simp only [Option.bind_some,Bool.false_or]
    by_cases h64:lo.length≤64
    ·rw [decide_eq_true h64,Bool.true_and,Bool.true_and]
     cases hs:iK (au dom) with
     |true=>
      rw [if_pos rfl,Nn dom hl k aq,hs]
      simp
     |false=>rw [if_neg bG];rfl
    ·rw [decide_eq_false h64,Bool.false_and,if_neg bG];rfl
def boxedB (lo dom:List UInt8) (lit:Bool):Bool:=lo.all Np && Eu lo dom lit
theorem Wp (lo dom:List UInt8) (lit:Bool) (hlo:lo.length < 4294967281) (hl:dom.length < 4294967281) (k:Nat) (hk:lo.length + dom.length + 6 < k):dL.f k (au lo) (au dom) lit=some (boxedB lo dom lit):=by
 unfold dL.f boxedB
 rw [bD]
 have:=Ho lo dom lit hlo hl k 0 aq (Nat.zero_le _)
 rw [List.drop_zero] at this
 exact this
theorem TG {lo dom:List UInt8} {lit:Bool} (hl:dom.length < 4294967281) (h:boxedB lo dom lit=true):wq lo dom lit∧lo.length≤64∧(lit=false→iK (au dom)=true)∧dom≠ []:=by
 unfold boxedB Eu at h
 simp only [Bool.and_eq_true,decide_eq_true_eq,List.all_eq_true] at h
 obtain ⟨h1,h64,h2⟩:=h
 have hf:∀ b,b∈lo→yY b:=fun b hb=>of_decide_eq_true (h1 b hb)
 cases lit with
 |true=>
  simp only [if_true,Bool.and_eq_true,decide_eq_true_eq] at h2
  have hg:=MZ dom h2.1
  refine ⟨⟨hf,fun e=>(by cases e),fun _ =>⟨?_,hg.1,h2.2⟩⟩,h64,fun e=>(by cases e),?_⟩
  ·rw [Er dom hl];exact h2.1
  ·rintro rfl
   exact absurd h2.1 gh
 |false=>
  simp only [Bool.false_eq_true,if_false,Bool.and_eq_true,decide_eq_true_eq] at h2
  refine ⟨⟨hf,fun _ =>h2.2,fun e=>(by cases e)⟩,h64,fun _ =>h2.1,?_⟩
  obtain ⟨b,d',e,_⟩:=h2.2.head
  rw [e]
  simp
def wh (a:Bool) (ds:List (List UInt8)) (lo dom:List UInt8) (lit:Bool):Bool:=
 if a=true then decide (ds= []∧lo= []∧dom= []) && !lit
 else if lo= [112,111,115,116,109,97,115,116,101,114]∧dom= []∧lit=false then decide (ds= [])
 else boxedB lo dom lit && (decide (ds.length≤20) && ds.all fun d=>decide (lI d) && iK (au d))
theorem Wq (ds:List (List UInt8)) (M:Nat) (hM:∀ d,d∈ds→d.length≤M) (hl:M < 4294967281) (k:Nat) (hk:ds.length + M + 10 < k) (h20:ds.length≤20):
 bZ.f k (ds.map au)=some (!(ds.all fun d=>decide (lI d) && iK (au d))):=by
 rw [M6 (g:=fun y=>!(decide (lI y.data.toList) && iK y)) (k0:=M + 4) (fun y hy k hk=>by
  obtain ⟨d,hd',rfl⟩:=List.mem_map.mp hy
  have:=hM d hd'
  unfold kB.f
  rw [Nn d aq k aq]
  rfl) k mK mK]
 congr 1
 clear hM hk h20
 induction ds with
 |nil=>rfl
 |cons d ds ih=>
  rw [List.map_cons,List.any_cons,List.all_cons,ih]
  exact (Bool.not_and ..).symm
theorem C9 (ds:List (List UInt8)) (lo dom:List UInt8) (lit:Bool):wh true ds lo dom lit=(decide (ds= []∧lo= []∧dom= []) && !lit):=rfl
theorem BB (ds:List (List UInt8)):wh false ds [112,111,115,116,109,97,115,116,101,114] [] false=decide (ds= []):=rfl
theorem PA (ds:List (List UInt8)) (lo dom:List UInt8) (lit:Bool) (hp: ¬ (lo= [112,111,115,116,109,97,115,116,101,114]∧dom= []∧lit=false)):
 wh false ds lo dom lit=(boxedB lo dom lit && (decide (ds.length≤20) && ds.all fun d=>decide (lI d) && iK (au d))):=by
 unfold wh
 rw [if_neg bG,if_neg hp]
theorem TH (a:Bool) (ds:List (List UInt8)) (lo dom:List UInt8) (lit:Bool) (M:Nat) (hM:∀ d,d∈ds→d.length≤M) (hlo:lo.length≤M) (hd:dom.length≤M) (hl:M < 4294967281) (k:Nat) (hk: 2 * M + 110 < k):
 fy.f k a (ds.map au) (au lo) (au dom) lit=some (wh a ds lo dom lit):=by
 cases a with
 |true=>
  unfold fy.f
  rw [toList_mk,toList_mk,List.length_map,C9,if_pos rfl]
  cases ds with
  |nil=>
   rw [if_pos (by rfl)]
   cases lo<;>cases dom<;>cases lit<;>rfl
  |cons d ds=>
   rw [if_neg (by rw [List.length_cons];omega)]
   simp
 |false=>
  by_cases hp:lo= [112,111,115,116,109,97,115,116,101,114]∧dom= []∧lit=false
  ·obtain ⟨rfl,rfl,rfl⟩:=hp
   unfold fy.f
   rw [toList_mk,toList_mk,List.length_map,BB,if_neg bG,if_pos bG]
   cases ds with
   |nil=>rfl
   |cons d ds=>
    have e:(((d :: ds).length:Int) == 0)=false:=by
     rw [List.length_cons]
     exact beq_eq_false_iff_ne.mpr aq
    rw [e]
    simp
  ·unfold fy.f
   rw [toList_mk,toList_mk,List.length_map,PA ds lo dom lit hp,if_neg bG,if_neg (by
    intro h
    apply hp
    simp only [Bool.and_eq_true,beq_iff_eq,Bool.not_eq_true'] at h
    exact h),Wp lo dom lit aq aq k aq]
   simp only [Option.bind_some]
   cases hb:boxedB lo dom lit with
   |false=>
    rw [Bool.false_and]
    exact if_neg bG
   |true=>
    rw [if_pos rfl,Bool.true_and]
    by_cases h20:ds.length≤20
    ·rw [if_pos aq,Wq ds M hM hl k aq h20,decide_eq_true h20,Bool.true_and]
     simp
    ·rw [if_neg aq,decide_eq_false h20,Bool.false_and]
theorem TI {ds:List (List UInt8)} {lo dom:List UInt8} {lit:Bool} (hl:dom.length < 4294967281) (hp: ¬ (lo= [112,111,115,116,109,97,115,116,101,114]∧dom= []∧lit=false)) (h:wh false ds lo dom lit=true):
 boxedB lo dom lit=true∧(∀ d,d∈ds→lI d)∧wq lo dom lit∧Fits ds lo dom lit∧dom≠ []:=by
 unfold wh at h
 rw [if_neg bG,if_neg hp] at h
 simp only [Bool.and_eq_true,decide_eq_true_eq,List.all_eq_true] at h
 obtain ⟨h1,h2,h3⟩:=h
 obtain ⟨b1,b2,b3,b4⟩:=TG hl h1
 exact ⟨h1,fun d hd=>(h3 d hd).1,b1,⟨b2,b3,h2,fun d hd=>(h3 d hd).2⟩,b4⟩
end Go.Proofs.YtokpnfljjjjikaaGreatDoor.jo
namespace Go.Proofs.YtokpnfljjjjikaaGreatDoor.jo
open Go.RowKit Go.Proofs.YtokpnfljjjjikaaGreatDoor Go.Proofs.YtokpnfljjjjikaaGreatDoor.nK Go.Proofs.aj.bQ Go.Proofs.aj.cM
set_option linter.unusedVariables false
set_option linter.unusedSimpArgs false
theorem Hp (s v:ByteArray) (b:Bool) (hv:v.size < 4611686018427387904):∀ (k i:Nat),i≤v.size→bH.l1 k (v.size:Int) (i:Int) s v b=some true→
 (∀ j:Nat,i≤j→j < v.size→33≤bt v (j:Int)∧bt v (j:Int)≤126∧bt v (j:Int)≠61)∧(b == (v.toList != ([]:List UInt8)))=true
 | 0,i,_,h=>by simp [bH.l1] at h
 |k + 1,i,hi,h=>by
  unfold bH.l1 at h
  by_cases hlt:i < v.size
  ·have hw:wrap64 ((i:Int) + 1)=((i + 1:Nat):Int):=by unfold wrap64;omega
   rw [if_pos aq,if_pos aq,if_pos aq,hw] at h
   split at h
   ·cases h
   ·split at h
    ·cases h
    ·split at h
     ·cases h
     ·obtain ⟨h1,h2⟩:=Hp s v b hv k (i + 1) aq h
      refine ⟨fun j hj hj2=>?_,h2⟩
      by_cases e:j=i
      ·subst e
       omega
      ·exact h1 j aq hj2
  ·rw [if_neg aq] at h
   refine ⟨fun j hj hj2=>by omega,?_⟩
   split at h
   ·cases h
   ·exact Option.some.inj h
def Zm (c:Int):Prop:=(65≤c∧c≤90)∨(48≤c∧c≤57)∨c=45
theorem Hq (s v:ByteArray) (b:Bool) (hs:s.size < 4611686018427387904):∀ (k i:Nat),i≤s.size→bH.l0 k (s.size:Int) (i:Int) s v b=some true→
 (∀ j:Nat,i≤j→j < s.size→Zm (bt s (j:Int)))∧∃ k',bH.l1 k' (v.size:Int) 0 s v b=some true
 | 0,i,_,h=>by simp [bH.l0] at h
 |k + 1,i,hi,h=>by
  unfold bH.l0 at h
  by_cases hlt:i < s.size
  ·have hw:wrap64 ((i:Int) + 1)=((i + 1:Nat):Int):=by unfold wrap64;omega
   rw [if_pos aq,if_pos aq,if_pos aq,hw] at h
   have key:Zm (bt s (i:Int))∧bH.l0 k (s.size:Int) ((i + 1:Nat):Int) s v b=some true:=by
    unfold Zm
    repeat' split at h
    all_goals first|(cases h;done)|exact ⟨aq,h⟩
   obtain ⟨h1,h2⟩:=Hq s v b hs k (i + 1) aq key.2
   refine ⟨fun j hj hj2=>?_,h2⟩
   by_cases e:j=i
   ·subst e
    exact key.1
   ·exact h1 j aq hj2
  ·rw [if_neg aq] at h
   exact ⟨fun j hj hj2=>by omega,k,h⟩
theorem Ws (b:UInt8):(65≤(b.toNat:Int)∧(b.toNat:Int)≤90)∨(48≤(b.toNat:Int)∧(b.toNat:Int)≤57)∨(b.toNat:Int)=45→zQ b=b∧b≠61∧b≠32:=
 fA (Q:=fun b=>(65≤(b.toNat:Int)∧(b.toNat:Int)≤90)∨(48≤(b.toNat:Int)∧(b.toNat:Int)≤57)∨(b.toNat:Int)=45→zQ b=b∧b≠61∧b≠32) gh b
theorem Wt (b:UInt8): 33≤(b.toNat:Int)∧(b.toNat:Int)≤126∧(b.toNat:Int)≠61→b≠32:=
 fA (Q:=fun b=>33≤(b.toNat:Int)∧(b.toNat:Int)≤126∧(b.toNat:Int)≠61→b≠32) gh b
theorem Nq {l:List UInt8} {Q:Int→Prop} (h:∀ j:Nat,0≤j→j < (au l).size→Q (bt (au l) (j:Int))) (b:UInt8) (hb:b∈l):Q (b.toNat:Int):=by
 obtain ⟨j,hj,rfl⟩:=List.mem_iff_getElem.mp hb
 have h1:=h j (Nat.zero_le _) (by rw [bD];exact hj)
 rw [Pw l j hj,List.getD_eq_getElem?_getD,List.getElem?_eq_getElem hj] at h1
 exact h1
theorem qZ {k:Nat} {p:gw} (h:oQ k p) (h0:p.f0.size < 4611686018427387904) (h1:p.f1.size < 4611686018427387904):gY (iC p)=p∧(32:UInt8) ∉ iC p:=by
 obtain ⟨f0,f1,f2⟩:=p
 obtain ⟨x,rfl⟩:∃ x,f0=au x:=⟨f0.data.toList,(mk_data f0).symm⟩
 obtain ⟨y,rfl⟩:∃ y,f1=au y:=⟨f1.data.toList,(mk_data f1).symm⟩
 have hh:bH.f k (au x) (au y) f2=some true:=h
 unfold bH.f at hh
 obtain ⟨hk,k',h3⟩:=Hq (au x) (au y) f2 h0 k 0 (Nat.zero_le _) hh
 obtain ⟨hv,h4⟩:=Hp (au x) (au y) f2 h1 k' 0 (Nat.zero_le _) h3
 have kx:∀ b,b∈x→zQ b=b∧b≠61∧b≠32:=fun b hb=>Ws b (Nq (Q:=Zm) hk b hb)
 have vy:∀ b,b∈y→b≠32:=fun b hb=>Wt b (Nq (Q:=fun c=>33≤c∧c≤126∧c≠61) hv b hb)
 have x61:(61:UInt8) ∉ x:=fun hm=>(kx 61 hm).2.1 rfl
 have x32:(32:UInt8) ∉ x:=fun hm=>(kx 32 hm).2.2 rfl
 have y32:(32:UInt8) ∉ y:=fun hm=>vy 32 hm rfl
 have xup:x.map zQ=x:=by
  have:=List.map_congr_left (f:=zQ) (g:=id) fun b hb=>(kx b hb).1
  rw [this,List.map_id]
 have hwo:iC ⟨au x,au y,f2⟩=x ++ (if f2=true then 61 :: y else []):=rfl
 rw [hwo]
 rw [toList_mk] at h4
 cases f2 with
 |true=>
  rw [if_pos rfl]
  refine ⟨?_,fun hm=>?_⟩
  ·unfold gY
   rw [Et 61 y x x61]
   simp only
   rw [xup]
  ·rcases List.mem_append.mp hm with hm|hm
   ·exact x32 hm
   ·rcases List.mem_cons.mp hm with e|hm
    ·exact absurd e bG
    ·exact y32 hm
 |false=>
  rw [if_neg bG,List.append_nil]
  have hy:y= []:=by
   cases y with
   |nil=>rfl
   |cons c y=>simp at h4
  subst hy
  refine ⟨?_,x32⟩
  unfold gY
  rw [ur 61 x x61]
  simp only
  rw [xup]
theorem TJ (k:Nat) (P:List gw) (h:∀ p,p∈P→oQ k p) (hs:∀ p,p∈P→p.f0.size < 4611686018427387904∧p.f1.size < 4611686018427387904) (hl:(iG P).length < 4294967281):bK.f k (au (iG P))=some (P,true):=by
 have e:(P.map iC).map gY=P:=by
  rw [List.map_map]
  have:=List.map_congr_left (f:=gY ∘iC) (g:=id) fun p hp=>(qZ (h p hp) (hs p hp).1 (hs p hp).2).1
  rw [this,List.map_id]
 have hb:=C0 k (P.map iC) (fun x hx=>by
  obtain ⟨p,hp,rfl⟩:=List.mem_map.mp hx
  exact (qZ (h p hp) (hs p hp).1 (hs p hp).2).2) hl (fun x hx=>by
  obtain ⟨p,hp,rfl⟩:=List.mem_map.mp hx
  show oQ k (gY (iC p))
  rw [(qZ (h p hp) (hs p hp).1 (hs p hp).2).1]
  exact h p hp)
 rw [e] at hb
 exact hb
theorem Nr (P:List gw) (hP:P.length≤1048576) (hs:∀ p,p∈P→p.f0.size≤1048576∧p.f1.size≤1048576):∀ (k i:Nat),P.length - i + 3000000 < k→i≤P.length→∃ r,aR.l0 k P (P.length:Int) (i:Int)=some r∧(r < 0→∀ j (hj:j < P.length),i≤j→oQ 3000000 P[j])
 | 0,i,hk,_ =>absurd hk (Nat.not_lt_zero _)
 |k + 1,i,hk,hi=>by
  unfold aR.l0
  by_cases hlt:i < P.length
  ·have hw:wrap64 ((i:Int) + 1)=((i + 1:Nat):Int):=by unfold wrap64;omega
   have hr:dw P (i:Int)=P[i]:=by
    unfold dw
    rw [List.getD_eq_getElem?_getD,show ((i:Int)).toNat=i by omega,List.getElem?_eq_getElem hlt]
    rfl
   obtain ⟨z0,z1⟩:=hs _ (List.getElem_mem hlt)
   obtain ⟨b,hb⟩:=F5 P[i].f0 P[i].f1 P[i].f2 aq aq 3000000 aq
   have hp:jh.f k P[i].f0 P[i].f1 P[i].f2=some (!b):=by
    unfold jh.f
    rw [kN (fun k=>bH.mono _ _ _ k) (show 3000000≤k by omega) hb]
    rfl
   rw [if_pos aq,if_pos aq,if_pos aq,hr,hp,hw]
   simp only [Option.bind_some]
   cases b with
   |false=>exact ⟨_,rfl,fun h=>by omega⟩
   |true=>
    obtain ⟨r,h1,h2⟩:=Nr P hP hs k (i + 1) aq aq
    refine ⟨r,h1,fun h j hj hij=>?_⟩
    by_cases e:j=i
    ·subst e
     exact hb
    ·exact h2 h j hj aq
  ·rw [if_neg aq]
   exact ⟨_,rfl,fun h j hj hij=>by omega⟩
theorem TK (P:List gw) (hP:P.length≤1048576) (hs:∀ p,p∈P→p.f0.size≤1048576∧p.f1.size≤1048576) (k:Nat) (hk: 4100000≤k):∃ b,bI.f k P=some b∧(b=false→∀ p,p∈P→oQ 3000000 p):=by
 obtain ⟨r,h1,h2⟩:=Nr P hP hs k 0 aq (Nat.zero_le _)
 rw [show ((0:Nat):Int)=0 from rfl] at h1
 unfold bI.f aR.f
 rw [h1]
 refine ⟨_,rfl,fun hb p hp=>?_⟩
 obtain ⟨j,hj,rfl⟩:=List.mem_iff_getElem.mp hp
 exact h2 (by have:=of_decide_eq_false hb;omega) j hj (Nat.zero_le _)
end Go.Proofs.YtokpnfljjjjikaaGreatDoor.jo
namespace Go.Proofs.YtokpnfljjjjikaaGreatDoor.jo
open Go.RowKit Go.Proofs.YtokpnfljjjjikaaGreatDoor Go.Proofs.YtokpnfljjjjikaaGreatDoor.nK Go.Proofs.aj.bQ Go.Proofs.aj.cM
set_option linter.unusedVariables false
set_option linter.unusedSimpArgs false
theorem aap:∀ l:List UInt8,(qL l).length≤2 * l.length
 | []=>Nat.le_refl _
 |b :: l=>by
  have e:qL (b :: l)=qL [b] ++ qL l:=by
   have:=Ci [b] l
   simpa using this
  rw [e,List.length_append,List.length_cons]
  have:=Wi b
  have:=aap l
  omega
theorem TL (l:List UInt8):(pL l).length≤2 * l.length + 2:=by
 unfold pL
 split
 ·omega
 ·have:=aap l
  simp only [List.length_cons,List.length_append,List.length_nil]
  omega
theorem Wu (lo dom:List UInt8) (lit:Bool):(iN lo dom lit).length≤2 * lo.length + dom.length + 5:=by
 unfold iN
 have:=TL lo
 rw [List.length_append]
 cases lit with
 |true=>
  rw [if_pos rfl]
  simp only [List.length_cons,List.length_append,List.length_nil]
  omega
 |false=>
  rw [if_neg bG,List.length_cons]
  omega
theorem Hr (M:Nat):∀ ds:List (List UInt8),(∀ d,d∈ds→d.length≤M)→(fT ds).length≤ds.length * (M + 2)
 | [],_ =>Nat.zero_le _
 | [d],h=>by
   have:=h d (List.mem_cons_self ..)
   show (64 :: d).length≤_
   simp
   omega
 |d :: e :: ds,h=>by
  have h1:=h d (List.mem_cons_self ..)
  have h2:=Hr M (e :: ds) (fun x hx=>h x (List.mem_cons_of_mem _ hx))
  show (64 :: (d ++ 44 :: fT (e :: ds))).length≤_
  rw [List.length_cons,List.length_append,List.length_cons,List.length_cons (a:=d),Nat.add_mul]
  omega
theorem TM {ds:List (List UInt8)} {lo dom:List UInt8} {lit:Bool} (hf:Fits ds lo dom lit):(gj ds lo dom lit).length≤dom.length + 6000:=by
 have h1:=Wu lo dom lit
 have h2:=hf.los
 cases ds with
 |nil=>show (iN lo dom lit).length≤_;omega
 |cons d ds=>
  have h3:=Hr 255 (d :: ds) (fun x hx=>by have:=Pp _ (hf.each x hx);rwa [bD] at this)
  have h4:=hf.many
  have h5:(d :: ds).length * (255 + 2)≤20 * 257:=Nat.mul_le_mul_right 257 h4
  show (fT (d :: ds) ++ 58 :: iN lo dom lit).length≤_
  rw [List.length_append,List.length_cons]
  omega
theorem Wv (R:List ByteArray):(R.map fun y=>y.data.toList).map au=R:=by
 rw [List.map_map]
 have:=List.map_congr_left (l:=R) (f:=au ∘fun y=>y.data.toList) (g:=id) fun y _ =>mk_data y
 rw [this,List.map_id]
theorem Ns (a:Bool) (ds:List (List UInt8)) (lo dom:List UInt8) (lit:Bool) (hd:∀ d,d∈ds→d.length≤1048576) (hlo:lo.length≤1048576) (hdom:dom.length≤1048576) (hr:wh a ds lo dom lit=true):
 ∃ t,Ng a (ds.map au) (au lo) (au dom) lit t.length t∧ds.length≤20∧t.length≤dom.length + 6100:=by
 cases a with
 |true=>
  rw [C9] at hr
  simp only [Bool.and_eq_true,decide_eq_true_eq,Bool.not_eq_true'] at hr
  obtain ⟨⟨rfl,rfl,rfl⟩,rfl⟩:=hr
  exact ⟨[60,62],⟨aV,fun k hk=>zI _,fun k hk=>FY _,fun k hk more hm=>rZ _ (by rw [bD];simp;omega) k (by rfl),aV⟩,aV,aV⟩
 |false=>
  by_cases hp:lo= [112,111,115,116,109,97,115,116,101,114]∧dom= []∧lit=false
  ·obtain ⟨rfl,rfl,rfl⟩:=hp
   rw [BB] at hr
   obtain rfl:=of_decide_eq_true hr
   exact ⟨tZ,⟨aV,fun k hk=>xw _,fun k hk=>C2 _,fun k hk more hm=>C3 more aq k aq,by simp [tZ]⟩,aV,by simp [tZ]⟩
  ·obtain ⟨hb,d1,d2,d3,d4⟩:=TI aq hp hr
   have hw:=TM d3
   obtain ⟨w1,w2⟩:=BA ds lo dom lit
   have hne:gj ds lo dom lit≠ []:=by
    intro e
    rw [e] at w2
    simp at w2
   have hlt:(60 :: (gj ds lo dom lit ++ [62])).length=(gj ds lo dom lit).length + 2:=by
    rw [List.length_cons,List.length_append]
    rfl
   refine ⟨60 :: (gj ds lo dom lit ++ [62]),⟨Nat.le_refl _,fun k hk=>FQ d1 d2 d3 d4 1048576 hd hdom aq _ aq,fun k hk=>M9 d1 d2 d3 d4 1048576 hd hdom aq aq _ aq,fun k hk more hm=>?_,aq⟩,d3.many,aq⟩
   have hpb:=FT d1 d2 d3 1048576 hd hdom aq hne k aq aq more aq aq
   rw [hlt,← hpb]
   congr 2
   simp
theorem Nt {e:Int} {r:Bi} (h:ak.z e=some r):r.2.2.2.2.2.2.2.2=e:=by
 rw [← Option.some.inj h]
theorem Hs (L:List UInt8) (k:Nat) (hk: 3000000≤k):∃ r,ak.f k (au L)=some r∧((r.2.2.2.2.2.2.2.2≠0)∨(L.length≤510∧Told L r)):=by
 by_cases hL:L.length≤510
 ·obtain ⟨r,h1,h2⟩:=Pz L hL
  exact ⟨r,kN (fun k=>ak.mono _ k) hk h1,.inr ⟨hL,h2⟩⟩
 ·refine ⟨(0,⟨#[]⟩,false,[],⟨#[]⟩,⟨#[]⟩,false,[],3),?_,.inl bG⟩
  unfold ak.f
  rw [bD,if_pos aq]
  rfl
end Go.Proofs.YtokpnfljjjjikaaGreatDoor.jo
namespace Go.Proofs.YtokpnfljjjjikaaGreatDoor.jo
open Go.RowKit Go.Proofs.YtokpnfljjjjikaaGreatDoor Go.Proofs.YtokpnfljjjjikaaGreatDoor.nK Go.Proofs.aj.bQ Go.Proofs.aj.cM
set_option linter.unusedVariables false
set_option linter.unusedSimpArgs false
def Says (v:Int) (a:ByteArray) (n:Bool) (R:List ByteArray) (lo dom:ByteArray) (lit:Bool) (P:List gw):Prop:=
 gH.f 6000000 v a n R lo dom lit P=some (⟨#[]⟩,2)∨
 ∃ w u,gH.f 6000000 v a n R lo dom lit P=some (au (w ++ u),0)∧iq.f v=some (au w)∧(32:UInt8) ∉ w∧(w ++ u).length≤510∧P.length≤1000∧R.length≤1000∧
   (∀ k,3001100≤k→ak.f k (au (w ++ u))=some (v,a,n,R,lo,dom,lit,P,0))∧
   ((v≠3∧v≠4∧∃ x,u=kK x)∨((v=3∨v=4)∧∃ t,a=⟨#[]⟩∧w=gf v∧u=32 :: (eV v ++ (t ++ iG P))∧Ng n R lo dom lit t.length t∧(∀ p,p∈P→oQ 3000000 p)∧(v=3→n=true∨dom.toList.isEmpty=false)∧(v=4→n=false)))
theorem F7 (k:Nat) {v:Int} {a:ByteArray} {n:Bool} {R:List ByteArray} {lo dom:ByteArray} {lit:Bool} {P:List gw} (s:ByteArray) (r:Bi)
 (hb:fq.f k v a n R lo dom lit P=some true) (hw:bU.f k v a n R lo dom lit P=some s) (hp:ak.f k s=some r):
 gH.f k v a n R lo dom lit P=some (⟨#[]⟩,2)∨(gH.f k v a n R lo dom lit P=some (s,0)∧r.2.2.2.2.2.2.2.2=0∧r.1=v∧r.2.1.toList=a.toList):=by
 have hright:∀ x,(if r.2.2.2.2.2.2.2.2=0 then (if r.1=v then (some (r.2.1.toList == a.toList)) else (some false)) else (some false))=some x→iX.f k v a n R lo dom lit P=some x:=by
  intro x hx
  unfold iX.f
  rw [hb]
  simp only [Option.bind_some,if_true]
  rw [hw]
  simp only [Option.bind_some]
  rw [hp]
  simp only [Option.bind_some]
  exact hx
 have bad:iX.f k v a n R lo dom lit P=some false→gH.f k v a n R lo dom lit P=some (⟨#[]⟩,2):=by
  intro h
  unfold gH.f
  rw [h]
  rfl
 by_cases h1:r.2.2.2.2.2.2.2.2=0
 case neg=>exact .inl (bad (hright false (by rw [if_neg h1])))
 by_cases h2:r.1=v
 case neg=>exact .inl (bad (hright false (by rw [if_pos h1,if_neg h2])))
 by_cases h3:r.2.1.toList=a.toList
 case neg=>exact .inl (bad (hright false (by rw [if_pos h1,if_pos h2,beq_eq_false_iff_ne.mpr h3])))
 refine .inr ⟨?_,h1,h2,h3⟩
 unfold gH.f
 rw [hright true (by rw [if_pos h1,if_pos h2,beq_iff_eq.mpr h3])]
 simp only [Option.bind_some,if_true]
 rw [hw]
 rfl
theorem PB (v:Int) (hv: 0≤v∧v < 256) (a:ByteArray) (n:Bool) (R:List ByteArray) (lo dom:ByteArray) (lit:Bool) (P:List gw) (ha:a.size≤1048576) (hR:R.length≤1048576) (hRs:∀ y,y∈R→y.size≤1048576) (hlo:lo.size≤1048576) (hdom:dom.size≤1048576) (hP:P.length≤1048576) (hPs:∀ p,p∈P→p.f0.size≤1048576∧p.f1.size≤1048576):
 Says v a n R lo dom lit P:=by
 have bad:fq.f 6000000 v a n R lo dom lit P=some false→Says v a n R lo dom lit P:=by
  intro h
  refine .inl ?_
  unfold gH.f iX.f
  rw [h]
  rfl
 by_cases YJ:v=3∨v=4
 ·have hc:dV.f v=some true:=by rcases YJ with rfl|rfl<;>rfl
  have hvb:ld v:=by unfold ld;omega
  obtain ⟨f1,f2,f3,f4,f5,f6⟩:=mF hvb
  obtain ⟨g1,g2⟩:=qY v
  have hrv:=TH n (R.map fun y=>y.data.toList) lo.data.toList dom.data.toList lit 1048576 (fun d hd=>by
   obtain ⟨y,hy,rfl⟩:=List.mem_map.mp hd
   have:=hRs y hy
   rw [dh]
   exact this) (by rw [dh];exact hlo) (by rw [dh];exact hdom) aq 6000000 aq
  rw [Wv,mk_data,mk_data] at hrv
  obtain ⟨b,hb1,hb2⟩:=TK P hP hPs 6000000 aq
  by_cases ha0:a.toList= []
  case neg=>
   refine bad ?_
   unfold fq.f
   rw [hc]
   simp only [Option.bind_some,if_true]
   rw [if_neg ha0]
  cases hr:wh n (R.map fun y=>y.data.toList) lo.data.toList dom.data.toList lit with
  |false=>
   refine bad ?_
   unfold fq.f
   rw [hc]
   simp only [Option.bind_some,if_true]
   rw [if_pos ha0,hrv,hr]
   rfl
  |true=>
   cases b with
   |true=>
    refine bad ?_
    unfold fq.f
    rw [hc]
    simp only [Option.bind_some,if_true]
    rw [if_pos ha0,hrv,hr]
    simp only [Option.bind_some,if_true]
    rw [hb1]
    rfl
   |false=>
    have hok:=hb2 rfl
    obtain ⟨t,ag,h20,htl⟩:=Ns n _ _ _ lit (fun d hd=>by
     obtain ⟨y,hy,rfl⟩:=List.mem_map.mp hd
     have:=hRs y hy
     rw [dh]
     exact this) (by rw [dh];exact hlo) (by rw [dh];exact hdom) hr
    rw [Wv,mk_data,mk_data] at ag
    rw [List.length_map] at h20
    have hae:a=⟨#[]⟩:=by
     rw [ByteArray.toList_eq] at ha0
     rw [← mk_data a,ha0]
     rfl
    subst hae
    have Ww:fq.f 6000000 v ⟨#[]⟩ n R lo dom lit P=some true:=by
     unfold fq.f
     rw [hc]
     simp only [Option.bind_some,if_true]
     rw [if_pos ha0,hrv,hr]
     simp only [Option.bind_some,if_true]
     rw [hb1]
     rfl
    have alm:(iG P).length≤4398046511104:=by
     have:∀ Q:List gw,(∀ p,p∈Q→p.f0.size≤1048576∧p.f1.size≤1048576)→(iG Q).length≤Q.length * 2097154:=by
      intro Q
      induction Q with
      |nil=>intro _;exact Nat.zero_le _
      |cons p Q ih=>
       intro h
       have h1:=ih (fun q hq=>h q (List.mem_cons_of_mem _ hq))
       obtain ⟨z0,z1⟩:=h p (List.mem_cons_self ..)
       have e:(iG (p :: Q)).length=(iC p).length + (iG Q).length + 1:=by
        show (32 :: (iC p ++ iG Q)).length=_
        rw [List.length_cons,List.length_append]
       have e2:(iC p).length≤2097153:=by
        unfold iC
        rw [List.length_append,dh]
        split
        ·rw [List.length_cons,dh];omega
        ·rw [List.length_nil];omega
       rw [e,List.length_cons,Nat.add_mul]
       omega
     have h2:=this P hPs
     have h3:P.length * 2097154≤1048576 * 2097154:=Nat.mul_le_mul_right _ hP
     omega
    have hdl:dom.data.toList.length≤1048576:=by rw [dh];exact hdom
    have PC:bU.f 6000000 v ⟨#[]⟩ n R lo dom lit P=some (au (gf v ++ 32 :: (eV v ++ (t ++ iG P)))):=by
     have hj:∀ (a:List UInt8),a.length≤6→∀ z:Int,∀ y:ByteArray,bU.j0 6000000 (au (gf v)) (au a) z y n R lo dom lit P=some (au (gf v ++ (a ++ t) ++ iG P)):=by
      intro a ha z y
      show bU.j0 (5999999 + 1) _ _ _ _ _ _ _ _ _ _=_
      rw [bU.j0,ag.pr 5999999 aq]
      simp only [Option.bind_some]
      have hrun:=yU P aq 5999999 0 (gf v ++ (a ++ t)) aq (Nat.zero_le _) (by
       rw [List.drop_zero]
       show _ + (iG P).length < _
       rw [List.length_append,List.length_append]
       omega)
      rw [List.drop_zero] at hrun
      rw [bD,bD,if_pos aq,iV,bD,bD,if_pos (by rw [List.length_append];omega),iV]
      exact hrun
     unfold bU.f
     rw [f5,hc]
     simp only [Option.bind_some,if_true]
     rcases YJ with rfl|rfl
     ·rw [if_pos rfl]
      refine (hj [32,70,82,79,77,58] aV 3 ⟨#[]⟩).trans ?_
      all_goals (congr 2;try (simp [eV]))
     ·rw [if_neg bG]
      refine (hj [32,84,79,58] aV 4 ⟨#[]⟩).trans ?_
      all_goals (congr 2;try (simp [eV]))
    obtain ⟨r,hp0,hp2⟩:=Hs (gf v ++ 32 :: (eV v ++ (t ++ iG P))) 3001100 aq
    have hpk:∀ k,3001100≤k→ak.f k (au (gf v ++ 32 :: (eV v ++ (t ++ iG P))))=some r:=fun k hk=>kN (fun k=>ak.mono _ k) hk hp0
    rcases F7 6000000 (au (gf v ++ 32 :: (eV v ++ (t ++ iG P)))) r Ww PC (hpk _ aq) with hbad|⟨hpr,e0,e1,e2⟩
    ·exact .inl hbad
    rcases hp2 with hp2|⟨hL,_⟩
    ·exact absurd e0 hp2
    have hL2:=hL
    rw [List.length_append,List.length_cons,List.length_append,List.length_append] at hL2
    have hPl:P.length≤(iG P).length:=by
     have:∀ Q:List gw,Q.length≤(iG Q).length:=by
      intro Q
      induction Q with
      |nil=>exact Nat.zero_le _
      |cons p Q ih=>
       show _≤(32 :: (iC p ++ iG Q)).length
       rw [List.length_cons,List.length_cons,List.length_append]
       omega
     exact this P
    have g:Sw n R lo dom lit P t.length t:=⟨ag,fun k hk=>TJ k P (fun p hp=>FZ hk (hok p hp)) (fun p hp=>by obtain ⟨z0,z1⟩:=hPs p hp;omega) aq,hok,aq,aq,aq⟩
    have hpd:=C7 g v 6000000 aq
    have hp1:=hpk 6000000 aq
    rw [ni hvb _ _ (by rw [List.length_append,List.length_append];omega)] at hp1
    have pass:(v=3→n=true∨dom.toList.isEmpty=false)∧(v=4→n=false)∧r=(v,⟨#[]⟩,n,R,lo,dom,lit,P,0):=by
     rcases YJ with rfl|rfl
     ·rw [(pM 6000000 _ true).2.2.1 rfl] at hp1
      unfold ak.Fg at hp1
      rw [show (⟨#[70,82,79,77,58]⟩:ByteArray)=au (eV 3) from rfl,hpd] at hp1
      simp only [Option.bind_some,if_true] at hp1
      split at hp1
      ·rename_i hn
       exact ⟨fun _ => .inl hn,fun h=>by omega,(Option.some.inj hp1).symm⟩
      ·split at hp1
       ·exact absurd ((Nt hp1).symm.trans e0) bG
       ·rename_i hd
        exact ⟨fun _ => .inr (Bool.eq_false_iff.mpr hd),fun h=>by omega,(Option.some.inj hp1).symm⟩
     ·rw [(pM 6000000 _ true).2.2.2.1 rfl] at hp1
      unfold ak.Fh at hp1
      rw [show (⟨#[84,79,58]⟩:ByteArray)=au (eV 4) from rfl,hpd] at hp1
      simp only [Option.bind_some,if_true] at hp1
      split at hp1
      ·exact absurd ((Nt hp1).symm.trans e0) bG
      ·rename_i hn
       exact ⟨fun h=>by omega,fun _ =>Bool.eq_false_iff.mpr hn,(Option.some.inj hp1).symm⟩
    obtain ⟨pa,pb,rfl⟩:=pass
    exact .inr ⟨gf v,32 :: (eV v ++ (t ++ iG P)),hpr,f5,f3,hL,aq,aq,hpk,.inr ⟨YJ,t,rfl,rfl,rfl,ag,hok,pa,pb⟩⟩
 ·have hc:=zK (v:=v) aq aq
  by_cases hz:n=false∧R= []∧lo.toList= []∧dom.toList= []∧lit=false∧P= []
  case neg=>
   refine bad ?_
   unfold fq.f
   rw [hc]
   simp only [Option.bind_some,Bool.false_eq_true,if_false]
   by_cases c1:n=true
   ·rw [if_pos c1]
   rw [if_neg c1]
   by_cases c2:(R.length:Int)=0
   case neg=>rw [if_neg c2]
   rw [if_pos c2]
   by_cases c3:(lo.toList == ([]:List UInt8) && (dom.toList == ([]:List UInt8) && (!lit)))=true
   case neg=>rw [if_neg c3]
   rw [if_pos c3]
   simp only [Bool.and_eq_true,beq_iff_eq,Bool.not_eq_true'] at c3
   congr 1
   rw [beq_eq_false_iff_ne]
   intro c4
   exact hz ⟨Bool.eq_false_iff.mpr c1,List.eq_nil_of_length_eq_zero aq,c3.1,c3.2.1,c3.2.2,List.eq_nil_of_length_eq_zero aq⟩
  obtain ⟨rfl,rfl,ajg,aeC,rfl,rfl⟩:=hz
  have e0:∀ x:ByteArray,x.toList= []→x=⟨#[]⟩:=fun x hx=>by
   rw [ByteArray.toList_eq] at hx
   rw [← mk_data x,hx]
   rfl
  obtain rfl:=e0 lo ajg
  obtain rfl:=e0 dom aeC
  have Ww:fq.f 6000000 v a false [] ⟨#[]⟩ ⟨#[]⟩ false []=some true:=by
   unfold fq.f
   rw [hc]
   simp only [Option.bind_some,Bool.false_eq_true,if_false]
   rw [if_pos (by rfl),if_pos gh]
   rfl
  have hword:iq.f v=some (au (if v < 12 then gf v else [])):=by
   unfold iq.f
   rw [if_pos hv]
   by_cases h12:v < 12
   ·rw [if_pos h12,if_pos h12]
    unfold gf
    rw [mk_data]
   ·rw [if_neg h12,if_neg h12]
    rfl
  obtain ⟨w,hw⟩:∃ w,(if v < 12 then gf v else [])=w:=⟨_,rfl⟩
  rw [hw] at hword
  have hwl:w.length≤4:=by
   rw [← hw]
   split
   ·rename_i h12
    by_cases hv0:v=0
    ·subst hv0;decide
    ·exact (mF (v:=v) (by unfold ld;omega)).2.2.2.1
   ·simp
  obtain ⟨x,rfl⟩:∃ x,a=au x:=⟨a.data.toList,(mk_data a).symm⟩
  rw [bD] at ha
  have PC:bU.f 6000000 v (au x) false [] ⟨#[]⟩ ⟨#[]⟩ false []=some (au (w ++ kK x)):=by
   unfold bU.f
   rw [hword,hc]
   simp only [Option.bind_some,Bool.false_eq_true,if_false]
   rw [toList_mk]
   unfold kK
   by_cases hx0:x= []
   ·rw [if_pos hx0,if_pos hx0,List.append_nil]
   ·rw [if_neg hx0,if_neg hx0]
    have e1:(⟨#[32]⟩:ByteArray) ++ au x=au (32 :: x):=iV [32] x
    rw [e1,bD,bD,bD,if_pos aq,if_pos uA,iV]
  have Zl:(32:UInt8) ∉ w:=by
   rw [← hw]
   split
   ·by_cases hv0:v=0
    ·subst hv0;decide
    ·exact (mF (v:=v) (by unfold ld;omega)).2.2.1
   ·simp
  obtain ⟨r,hp0,hp2⟩:=Hs (w ++ kK x) 3001100 aq
  have hpk:∀ k,3001100≤k→ak.f k (au (w ++ kK x))=some r:=fun k hk=>kN (fun k=>ak.mono _ k) hk hp0
  rcases F7 6000000 (au (w ++ kK x)) r Ww PC (hpk _ aq) with hbad|⟨hpr,e0,e1,e2⟩
  ·exact .inl hbad
  rcases hp2 with hp2|⟨hL,ht⟩
  ·exact absurd e0 hp2
  rcases ht with ⟨e,he,hee⟩|⟨v2,a2,n2,R2,lo2,Pt,Pv,P2,t2,rfl,_,_,hz⟩
  ·have:=Nt he.symm
   omega
  ·simp only at e1 e2
   subst e1
   have ea:a2=au x:=by
    rw [toList_mk,ByteArray.toList_eq] at e2
    rw [← mk_data a2,e2]
   subst ea
   rcases hz with hz|hz|⟨rfl,rfl,rfl,rfl,rfl,rfl⟩
   ·omega
   ·omega
   ·exact .inr ⟨w,kK x,hpr,hword,Zl,hL,aV,aV,hpk,.inl ⟨aq,aq,x,rfl⟩⟩
end Go.Proofs.YtokpnfljjjjikaaGreatDoor.jo
namespace Go.Proofs.YtokpnfljjjjikaaGreatDoor.jo
open Go.RowKit Go.Proofs.YtokpnfljjjjikaaGreatDoor Go.Proofs.YtokpnfljjjjikaaGreatDoor.nK Go.Proofs.aj.bQ Go.Proofs.aj.cM
set_option linter.unusedVariables false
set_option linter.unusedSimpArgs false
theorem Lc (l:List UInt8):Lib.contains l [32]=(Lib.cut l [32]).2.2:=by
 unfold Lib.contains Lib.cut
 by_cases h: 0≤Lib.index l [32]
 ·rw [if_pos h,decide_eq_true h]
 ·rw [if_neg h,decide_eq_false h]
theorem index_hit:∀ (w r:List UInt8),(32:UInt8) ∉ w→Lib.index (w ++ 32 :: r) [32]=(w.length:Int)
 | [],r,_ =>by simp [Lib.index,List.isPrefixOf]
 |b :: w,r,h=>by
  have hb:((32:UInt8) == b)=false:=beq_eq_false_iff_ne.mpr fun e=>h (by rw [e];exact List.mem_cons_self ..)
  have ih:=index_hit w r (fun hm=>h (List.mem_cons_of_mem _ hm))
  show (if ([32]:List UInt8).isPrefixOf (b :: (w ++ 32 :: r)) then 0 else if Lib.index (w ++ 32 :: r) [32] == -1 then -1 else Lib.index (w ++ 32 :: r) [32] + 1)=_
  rw [ih]
  have h2:((w.length:Int) == -1)=false:=beq_eq_false_iff_ne.mpr aq
  simp [List.isPrefixOf,hb,h2]
theorem Nu (w r:List UInt8) (h:(32:UInt8) ∉ w):Lib.replace (w ++ 32 :: r) [32] [9] 1=w ++ 9 :: r:=by
 have hi:=index_hit w r h
 have hc: 1≤Lib.count (w ++ 32 :: r) [32]:=by
  show 1≤Lib.countFrom [32] ((w ++ 32 :: r).length + 1) (w ++ 32 :: r)
  unfold Lib.countFrom
  rw [hi,if_neg (by rw [beq_iff_eq];omega)]
  omega
 have hn:Lib.replaceNum (w ++ 32 :: r) [32] 1=1:=by
  unfold Lib.replaceNum
  rw [if_neg aq]
  rfl
 unfold Lib.replace
 rw [hn,if_neg bG,Lib.replaceK_hit [32] [9] 0 (w ++ 32 :: r) w.length hi]
 show (w ++ 32 :: r).take w.length ++ [9] ++ (w ++ 32 :: r).drop (w.length + 1)=_
 rw [List.take_left,← List.drop_drop,List.drop_left]
 simp
theorem replace_mk (w r:List UInt8) (h:(32:UInt8) ∉ w) (hl:(w ++ 32 :: r).length≤510):strings_Replace.f (au (w ++ 32 :: r)) ⟨#[32]⟩ ⟨#[9]⟩ 1=some (au (w ++ 9 :: r)):=by
 unfold strings_Replace.f
 have hc:=Lib.countB_le ⟨#[32]⟩ bG _ (au (w ++ 32 :: r)) (Nat.le_refl _)
 have hs:(au (w ++ 32 :: r)).size≤510:=by rw [bD];exact hl
 rw [if_pos ⟨aq,bG,by
  show (au (w ++ 32 :: r)).size + Lib.countB (au (w ++ 32 :: r)) ⟨#[32]⟩ * 1≤_
  omega⟩]
 congr 2
 exact Nu w r h
theorem PD:aY.f 30 0 ⟨#[]⟩ false [] ⟨#[]⟩ ⟨#[]⟩ false [] 0 ⟨#[]⟩ false [] ⟨#[]⟩ ⟨#[]⟩ false []=some true:=by decide +kernel
theorem Cm (k:Nat) (hk: 30≤k) (s:ByteArray) (e:Int) (h:ak.f k s=ak.z e):bP.f k s e=some true:=by
 unfold bP.f
 rw [h]
 show (if e=e then ((aY.f k 0 ⟨#[]⟩ false [] ⟨#[]⟩ ⟨#[]⟩ false [] 0 ⟨#[]⟩ false [] ⟨#[]⟩ ⟨#[]⟩ false []).bind fun t=>some t) else none)=_
 rw [if_pos rfl,kN (fun k=>aY.mono _ _ _ _ _ _ _ _ _ _ _ _ _ _ _ _ k) hk PD]
 rfl
theorem Zn (k:Nat) (hk: 5000≤k) (s x:ByteArray) (v:Int) (h:ak.f k s=ak.w v x):bg.f k s v x false [] ⟨#[]⟩ ⟨#[]⟩ false []=some true:=by
 unfold bg.f
 rw [h]
 show (if (0:Int)=0 then ((aY.f k v x false [] ⟨#[]⟩ ⟨#[]⟩ false [] v x false [] ⟨#[]⟩ ⟨#[]⟩ false []).bind fun t=>some t) else none)=_
 rw [if_pos rfl,Px v x false [] ⟨#[]⟩ ⟨#[]⟩ false [] aV aV k hk]
 rfl
theorem Da (l:List UInt8) (hl:l.length < 510) (k:Nat):ak.f k (au (32 :: l))=ak.z 160:=by
 unfold ak.f
 rw [bD,if_neg uA,zH _ 32 uA,La]
 show ((cu.f (au [])).bind fun g=>(bV.f g).bind fun v=>ak.v k v (au l) true)=_
 rw [og [] aV]
 show ((bV.f (au [])).bind fun v=>ak.v k v (au l) true)=_
 rw [show bV.f (au [])=some 0 by decide +kernel]
 show ak.v k 0 (au l) true=_
 unfold ak.v
 rw [if_pos rfl]
theorem Wx (r:List UInt8):∀ w:List UInt8,(32:UInt8) ∉ w→(9:UInt8)∈(Lib.cut (w ++ 9 :: r) [32]).1
 | [],_ =>by
   rw [List.nil_append,xu 32 9 r bG]
   exact List.mem_cons_self ..
 |b :: w,h=>by
  have hb:b≠32:=fun e=>h (e ▸ List.mem_cons_self ..)
  rw [List.cons_append,xu 32 b _ hb]
  exact List.mem_cons_of_mem _ (Wx r w (fun hm=>h (List.mem_cons_of_mem _ hm)))
theorem Wy {v:Int} (hv:ld v):(9:UInt8) ∉ gf v:=by
 rcases hv with rfl|rfl|rfl|rfl|rfl|rfl|rfl|rfl|rfl|rfl|rfl<;>decide +kernel
theorem TN (w r:List UInt8) (hw:(32:UInt8) ∉ w) (hl:(w ++ 9 :: r).length≤510) (k:Nat):ak.f k (au (w ++ 9 :: r))=ak.z 160:=by
 have hin:=Wx r w hw
 have hcl:=congrArg List.length (qW 32 (w ++ 9 :: r)).2
 unfold ak.f
 rw [bD,if_neg aq,zH _ 32 aq]
 simp only [Option.bind_some]
 obtain ⟨c,hc⟩:∃ c,Lib.cut (w ++ 9 :: r) [32]=c:=⟨_,rfl⟩
 rw [hc] at hin hcl ⊢
 have am6:c.1.length≤(w ++ 9 :: r).length:=by rw [hcl,List.length_append];omega
 rw [og _ aq]
 simp only [Option.bind_some]
 obtain ⟨v,hv⟩:∃ v,bV.f (au (c.1.map zQ))=some v:=⟨_,rfl⟩
 rw [hv]
 simp only [Option.bind_some]
 by_cases h0:v=0
 ·subst h0
  unfold ak.v
  rw [if_pos rfl]
 ·obtain ⟨hV,hww⟩:=Nj hv h0
  exact absurd (hww ▸ List.mem_map.mpr ⟨9,hin,gh⟩) (Wy hV)
theorem TP (x:List UInt8) (hx:x.length≤510) (k:Nat) (hk: 3000000≤k):eD.f k (au (x ++ [32]))=some false:=by
 have hs:pK mM [32]:=tK 32 gh []
 have hle:=uk eT 46 yQ _ x (Nat.lt_succ_self _)
 rw [kg (x ++ [32]) wF k wF,tJ hs bG x]
 rw [decide_eq_false (fun e=>by rw [e] at hle;simp only [List.length_append,List.length_cons,List.length_nil] at hle;omega)]
 rfl
theorem PE (x:List UInt8):C4 (x ++ [32])=false:=by
 unfold C4
 have e:(x ++ [32]).getD ((x ++ [32]).length - 1) 0=32:=by
  rw [List.getD_eq_getElem?_getD]
  simp
 rw [e,decide_eq_false (show ¬ (32:UInt8).toNat=93 by decide)]
 simp
theorem PF (k:Nat) (hk: 5≤k):bH.f k (au []) (au []) false=some false:=kN (fun k=>bH.mono _ _ _ k) hk gh
theorem F8 (k:Nat) (hk: 5≤k):∀ (xs:List (List UInt8)) (ps:List gw),(∀ x,x∈xs→x.length < 4294967281)→(∀ x,x∈xs→oQ k (gY x))→bK.l k ((xs ++ [[]]).map au) ps=some none
 | [],ps,_,_ =>by
   show bK.l k (au [] :: []) ps=_
   rw [qX k [] aV]
   have e:gY []=⟨au [],au [],false⟩:=by unfold gY;rw [Es];rfl
   rw [e]
   show ((bH.f k (au []) (au []) false).bind fun b=>_)=_
   rw [PF k hk]
   rfl
 |x :: xs,ps,hx,h=>by
  rw [List.cons_append,List.map_cons,qX k x (hx x (List.mem_cons_self ..))]
  have h1:bH.f k (gY x).f0 (gY x).f1 (gY x).f2=some true:=h x (List.mem_cons_self ..)
  rw [h1]
  simp only [Option.bind_some,if_true]
  exact F8 k hk xs _ (fun y hy=>hx y (List.mem_cons_of_mem _ hy)) (fun y hy=>h y (List.mem_cons_of_mem _ hy))
theorem BC:∀ ws:List (List UInt8),zR (ws ++ [[]])=zR ws ++ [32]
 | []=>rfl
 |w :: ws=>by
  show 32 :: (w ++ zR (ws ++ [[]]))=32 :: (w ++ zR ws) ++ [32]
  rw [BC ws]
  simp
theorem aeD:∀ (ws:List (List UInt8)) (x:List UInt8),x∈ws→x.length < (zR ws).length:=by
 intro ws
 induction ws with
 |nil=>intro x hx;cases hx
 |cons w ws ih=>
  intro x hx
  show _ < (32 :: (w ++ zR ws)).length
  simp only [List.length_cons,List.length_append]
  rcases List.mem_cons.mp hx with rfl|hx
  ·omega
  ·have:=ih x hx
   omega
theorem PG (k:Nat) (hk: 5≤k) (P:List gw) (h:∀ p,p∈P→oQ k p) (hs:∀ p,p∈P→p.f0.size < 4611686018427387904∧p.f1.size < 4611686018427387904) (hl:(iG P).length≤600):bK.f k (au (iG P ++ [32]))=some ([],false):=by
 have hok:∀ x,x∈P.map iC→oQ k (gY x):=fun x hx=>by
  obtain ⟨p,hp,rfl⟩:=List.mem_map.mp hx
  show oQ k (gY (iC p))
  rw [(qZ (h p hp) (hs p hp).1 (hs p hp).2).1]
  exact h p hp
 have Zl:∀ x,x∈P.map iC ++ [[]]→(32:UInt8) ∉ x:=fun x hx=>by
  rcases List.mem_append.mp hx with hx|hx
  ·obtain ⟨p,hp,rfl⟩:=List.mem_map.mp hx
   exact (qZ (h p hp) (hs p hp).1 (hs p hp).2).2
  ·rw [List.mem_singleton.mp hx]
   simp
 have hlen:∀ x,x∈P.map iC→x.length < 4294967281:=fun x hx=>by
  have:=aeD _ x hx
  unfold iG at hl
  omega
 unfold iG at hl ⊢
 rw [← BC,yT k _ (by rw [BC,List.length_append];simp only [List.length_cons,List.length_nil];omega) (by rw [BC];simp),Hg _ Zl]
 show ((bK.l k ((P.map iC ++ [[]]).map au) []).bind fun o=>some (bK.e (au [] :: (P.map iC ++ [[]]).map au) o))=_
 rw [F8 k hk (P.map iC) [] hlen hok]
 rfl
theorem Ld {n:Bool} {R:List ByteArray} {lo dom:ByteArray} {lit:Bool} {m:Nat} {t:List UInt8} (ag:Ng n R lo dom lit m t) (v:Int) (X:List UInt8) (k:Nat) (hk: 3000000≤k) (hX:bK.f k (au X)=some ([],false)) (htl:t.length + X.length≤600):
 ∃ q,dU.f k (au (eV v ++ (t ++ X))) (au (eV v))=some (false,q):=by
 obtain ⟨h1,h2⟩:=qY v
 have hsz:(au (eV v ++ (t ++ X))).size=(eV v).length + (t.length + X.length):=by
  rw [bD,List.length_append,List.length_append]
 unfold dU.f
 rw [hsz,bD,if_neg aq,vZ,List.take_left,og _ aq,h1]
 simp only [Option.bind_some,if_true]
 rw [← hsz,nJ,List.drop_left,ag.rd k hk _ aq]
 simp only [Option.bind_some,if_true]
 rw [if_pos ⟨aq,aq,aq⟩,nJ,show ((((eV v).length:Int) + (t.length:Int))).toNat=(eV v ++ t).length by rw [List.length_append];omega,← List.append_assoc,List.drop_left,hX]
 exact ⟨_,rfl⟩
theorem PI (x:List UInt8) (hx:x.length≤510) (h:fP.f (au x)=some true):fP.f (au (x ++ [32]))=some true:=by
 unfold fP.f at h ⊢
 rw [if_pos iI,toList_mk] at h
 rw [if_pos (by rw [bD,List.length_append];simp only [List.length_cons,List.length_nil];omega),toList_mk]
 have h1:=Option.some.inj h
 simp only [Bool.and_eq_true,Bool.not_eq_true'] at h1
 have e:bytesOf (au (x ++ [32]))=bytesOf (au x) ++ [32]:=by rw [xq,xq,List.map_append];rfl
 rw [e,List.any_append,h1.2]
 have e2:(x ++ [32]).isEmpty=false:=by cases x<;>rfl
 rw [e2]
 rfl
theorem Le {v:Int} (hv:ld v) (x:List UInt8) (hx:(gf v).length + (kK x).length < 510) (k:Nat) (hk: 3001100≤k) (r:Bi) (h1:ak.f k (au (gf v ++ kK x))=some r) (h0:r.2.2.2.2.2.2.2.2=0) (h3:v≠3) (h4:v≠4):
 (x= []∨¬ (7≤v∧v≤10)→ak.f k (au (gf v ++ kK x ++ [32]))=ak.z 161)∧
 (x≠ []→7≤v→v≤10→r.2.1=au x∧ak.f k (au (gf v ++ kK x ++ [32]))=ak.w v (au (x ++ [32])))∧(x= []→7≤v→v≤10→r.2.1=⟨#[]⟩):=by
 obtain ⟨f1,f2,f3,f4,f5,f6⟩:=mF hv
 have zno:∀ e:Int,e≠0→ak.z e≠some r:=fun e he h=>he ((Nt h).symm.trans h0)
 by_cases hne:x= []
 ·subst hne
  have e1:gf v ++ kK [] ++ [32]=gf v ++ 32 :: []:=by simp [kK]
  have e2:gf v ++ kK []=gf v:=by simp [kK]
  rw [e2,F6 hv k] at h1
  rw [e1,ni hv [] k Im]
  obtain ⟨v1,v2,v3,v4,v78,Cl,v5⟩:=pM (v:=v) k (au []) true
  obtain ⟨u1,u2,u3,u4,u78,acd,u5⟩:=pM (v:=v) k ⟨#[]⟩ false
  have hd:eD.f k (au [])=some false:=by
   rw [kg [] aV k Im,decide_eq_false (show ¬ fu eT 46 []=(true,([]:List UInt8).length) from Py)]
   rfl
  have hl:fO.f k (au [])=some false:=by
   rw [vY [] aV k Im]
   rfl
  have hsm:gi.f (au [])=some (au []):=yS [] aV
  have aeE:fP.f (au [])=some false:=by decide +kernel
  have hfree:ak.free v (au [])=ak.z 161:=by
   unfold ak.free
   rw [aeE]
   rfl
  have main:ak.v k v (au []) true=ak.z 161:=by
   rcases hv with rfl|rfl|rfl|rfl|rfl|rfl|rfl|rfl|rfl|rfl|rfl
   ·rw [v1 rfl]
    unfold ak.Gh
    rw [hsm,hd]
    rfl
   ·rw [v2 rfl]
    unfold ak.Ff
    rw [hsm,hd]
    simp only [Option.bind_some]
    rw [if_neg bG,hl]
    rfl
   ·exact absurd rfl h3
   ·exact absurd rfl h4
   ·rw [v5 (.inl rfl),if_pos rfl]
   ·rw [v5 (.inr (.inl rfl)),if_pos rfl]
   ·rw [v78 (.inl rfl),hfree]
   ·rw [v78 (.inr rfl),hfree]
   ·rw [Cl (.inl rfl),if_pos rfl,hfree]
   ·rw [Cl (.inr rfl),if_pos rfl,hfree]
   ·rw [v5 (.inr (.inr rfl)),if_pos rfl]
  refine ⟨fun _ =>main,fun h=>absurd rfl h,fun _ h7 h10=>?_⟩
  by_cases h78:v=7∨v=8
  ·have hz:ak.free v ⟨#[]⟩=ak.z 161:=hfree
   rw [u78 h78,hz] at h1
   exact absurd h1 (zno 161 bG)
  ·rw [acd aq,if_neg bG] at h1
   rw [← Option.some.inj h1]
 ·have e1:gf v ++ kK x ++ [32]=gf v ++ 32 :: (x ++ [32]):=by rw [rD hne];simp
  rw [rD hne,List.length_cons] at hx
  rw [rD hne,ni hv x k aq] at h1
  rw [e1,ni hv (x ++ [32]) k wF]
  obtain ⟨v1,v2,v3,v4,v78,Cl,v5⟩:=pM (v:=v) k (au (x ++ [32])) true
  obtain ⟨u1,u2,u3,u4,u78,acd,u5⟩:=pM (v:=v) k (au x) true
  have hd:=TP x aq k aq
  have hl:fO.f k (au (x ++ [32]))=some false:=by
   rw [vY (x ++ [32]) wF k wF,PE]
  have hsm:gi.f (au (x ++ [32]))=some (au ((x ++ [32]).map fC)):=yS _ wF
  refine ⟨fun hno=>?_,fun _ h7 h10=>?_,fun h=>absurd h hne⟩
  ·have hno: ¬ (7≤v∧v≤10):=hno.resolve_left hne
   rcases hv with rfl|rfl|rfl|rfl|rfl|rfl|rfl|rfl|rfl|rfl|rfl
   ·rw [v1 rfl]
    unfold ak.Gh
    rw [hsm,hd]
    rfl
   ·rw [v2 rfl]
    unfold ak.Ff
    rw [hsm,hd]
    simp only [Option.bind_some]
    rw [if_neg bG,hl]
    rfl
   ·exact absurd rfl h3
   ·exact absurd rfl h4
   ·rw [v5 (.inl rfl),if_pos rfl]
   ·rw [v5 (.inr (.inl rfl)),if_pos rfl]
   ·exact absurd bG hno
   ·exact absurd bG hno
   ·exact absurd bG hno
   ·exact absurd bG hno
   ·rw [v5 (.inr (.inr rfl)),if_pos rfl]
  ·have hx0:ak.v k v (au x) true=ak.free v (au x):=by
    by_cases h78:v=7∨v=8
    ·exact u78 h78
    ·rw [acd aq,if_pos rfl]
   have hx1:ak.v k v (au (x ++ [32])) true=ak.free v (au (x ++ [32])):=by
    by_cases h78:v=7∨v=8
    ·exact v78 h78
    ·rw [Cl aq,if_pos rfl]
   rw [hx0] at h1
   rw [hx1]
   obtain ⟨b,hb,_⟩:=Sy x aq
   unfold ak.free at h1 ⊢
   rw [hb] at h1
   cases b with
   |false=>exact absurd h1 (zno 161 bG)
   |true=>
    rw [PI x aq hb]
    refine ⟨?_,rfl⟩
    have h2:ak.w v (au x)=some r:=h1
    rw [← Option.some.inj h2]
theorem zM (v:Int) (hv: 0≤v∧v < 256) (a:ByteArray) (n:Bool) (R:List ByteArray) (lo dom:ByteArray) (lit:Bool) (P:List gw) (ha:a.size≤1048576) (hR:R.length≤1048576) (hRs:∀ y,y∈R→y.size≤1048576) (hlo:lo.size≤1048576) (hdom:dom.size≤1048576) (hP:P.length≤1048576) (hPs:∀ p,p∈P→p.f0.size≤1048576∧p.f1.size≤1048576):
 ∃ k,aB.f k v a n R lo dom lit P=some true:=by
 refine ⟨6000000,?_⟩
 have awk:((bM.f 5999999).bind fun t=>some t)=some true:=by rw [xx _ aq];rfl
 rcases PB v hv a n R lo dom lit P ha hR hRs hlo hdom hP hPs with h|⟨w,u,hpr,hword,Zl,hL,hPl,hRl,hp,hcase⟩
 ·unfold aB.f
  rw [h]
  simp only [Option.bind_some]
  rw [if_neg bG]
  show aB.j0 (5999999 + 1) _ _ _ _ _ _ _ _ _ _=_
  rw [aB.j0,if_pos rfl]
  exact awk
 ·unfold aB.f
  rw [hpr]
  simp only [Option.bind_some,if_true]
  show aB.j0 (5999999 + 1) _ _ _ _ _ _ _ _ _ _=_
  rw [aB.j0]
  by_cases Wz:((au (w ++ u)).size:Int)≥510
  ·rw [if_pos (decide_eq_true Wz)]
   exact awk
  rw [if_neg (by rw [decide_eq_false Wz];decide)]
  rw [bD] at Wz
  have hl:(w ++ u).length < 510:=by omega
  have q0:(⟨#[32]⟩:ByteArray) ++ au (w ++ u)=au (32 :: (w ++ u)):=iV [32] (w ++ u)
  have q1:au (w ++ u) ++ (⟨#[32]⟩:ByteArray)=au (w ++ u ++ [32]):=iV (w ++ u) [32]
  rw [if_pos iI,q0,Cm 5999999 aq _ 160 (Da _ hl _)]
  simp only [Option.bind_some,if_true]
  have hcon:strings_Contains.f (au (w ++ u)) ⟨#[32]⟩=some (Lib.cut (w ++ u) [32]).2.2:=by
   unfold strings_Contains.f
   rw [if_pos iI]
   exact congrArg some (Lc (w ++ u))
  rw [hcon]
  simp only [Option.bind_some]
  have hj2:∀ b:Bool,(b=false→ak.f 5999997 (au (w ++ u ++ [32]))=ak.z 161)→(b=true→∃ x,a=au x∧x.length≤1048576∧ak.f 5999997 (au (w ++ u ++ [32]))=ak.w v (au (x ++ [32])))→
   aB.j2 5999998 (au (w ++ u)) b v a n R lo dom lit P=some true:=by
   intro b h0 h1
   show aB.j2 (5999997 + 1) _ _ _ _ _ _ _ _ _ _=_
   rw [aB.j2,q1]
   cases b with
   |true=>
    obtain ⟨x,rfl,hx,hpx⟩:=h1 rfl
    have q2:au x ++ (⟨#[32]⟩:ByteArray)=au (x ++ [32]):=iV x [32]
    rw [if_pos rfl,if_pos iI,if_pos iI,q2,Zn 5999997 aq _ _ v hpx]
    simp only [Option.bind_some,if_true]
    rw [xx _ aq]
    rfl
   |false=>
    rw [if_neg bG,if_pos iI,Cm 5999997 aq _ 161 (h0 rfl)]
    simp only [Option.bind_some,if_true]
    rw [xx _ aq]
    rfl
  have hj1:(7≤v→v≤10→a.toList≠ []→∃ x,a=au x∧x.length≤1048576∧ak.f 5999997 (au (w ++ u ++ [32]))=ak.w v (au (x ++ [32])))→((7≤v→v≤10→a.toList= [])→ak.f 5999997 (au (w ++ u ++ [32]))=ak.z 161)→
   aB.j1 5999999 (au (w ++ u)) false v a n R lo dom lit P=some true:=by
   intro h1 h0
   show aB.j1 (5999998 + 1) _ _ _ _ _ _ _ _ _ _=_
   rw [aB.j1,if_neg bG]
   by_cases c7:v≥7
   ·rw [if_pos c7]
    by_cases c10:v≤10
    ·rw [if_pos c10]
     refine hj2 _ (fun hb=>h0 fun _ _ =>?_) (fun hb=>h1 c7 c10 ?_)
     ·simpa using hb
     ·simpa using hb
    ·rw [if_neg c10]
     exact hj2 false (fun _ =>h0 fun _ h=>absurd h c10) (fun h=>by cases h)
   ·rw [if_neg c7]
    exact hj2 false (fun _ =>h0 fun h=>absurd h c7) (fun h=>by cases h)
  have hmain:(7≤v→v≤10→a.toList≠ []→∃ x,a=au x∧x.length≤1048576∧ak.f 5999997 (au (w ++ u ++ [32]))=ak.w v (au (x ++ [32])))∧((7≤v→v≤10→a.toList= [])→ak.f 5999997 (au (w ++ u ++ [32]))=ak.z 161):=by
   rcases hcase with ⟨h3,h4,x,rfl⟩|⟨YJ,t,rfl,rfl,rfl,ag,hok,pa,pb⟩
   ·
    have hp1:=hp 5999997 aq
    have hV:ld v∧w=gf v:=by
     have hw2:w=if v < 12 then gf v else []:=by
      unfold iq.f at hword
      rw [if_pos hv] at hword
      by_cases h12:v < 12
      ·rw [if_pos h12] at hword ⊢
       have e:=Option.some.inj hword
       unfold gf
       rw [e]
       rfl
      ·rw [if_neg h12] at hword ⊢
       have e:=congrArg (fun b:ByteArray=>b.data.toList) (Option.some.inj hword)
       simpa [au] using e.symm
     by_cases hvb:ld v
     ·exact ⟨hvb,by rw [hw2,if_pos (by unfold ld at hvb;omega)]⟩
     ·exfalso
      have hw0:w= []:=by
       rw [hw2]
       by_cases h12:v < 12
       ·have hv0:v=0:=by unfold ld at hvb;omega
        subst hv0
        decide +kernel
       ·rw [if_neg h12]
      subst hw0
      rw [List.nil_append] at hp1 hl
      have hz:ak.f 5999997 (au (kK x))=ak.z 160:=by
       unfold kK
       by_cases hx0:x= []
       ·rw [if_pos hx0]
        unfold ak.f
        rw [bD,if_neg aV,zH [] 32 aV,Es]
        show ((cu.f (au [])).bind fun g=>(bV.f g).bind fun v=>ak.v 5999997 v (au []) false)=_
        rw [og [] aV]
        show ((bV.f (au [])).bind fun v=>ak.v 5999997 v (au []) false)=_
        rw [show bV.f (au [])=some 0 by decide +kernel]
        show ak.v 5999997 0 (au []) false=_
        unfold ak.v
        rw [if_pos rfl]
       ·rw [if_neg hx0]
        exact Da x (by rw [rD hx0,List.length_cons] at hl;omega) _
      rw [hz] at hp1
      exact absurd (show (0:Int)=160 from Nt hp1) bG
    obtain ⟨hvb,rfl⟩:=hV
    obtain ⟨b1,b2,b3⟩:=Le hvb x (by have:=hl;rw [List.length_append] at this;exact this) 5999997 aq _ hp1 rfl h3 h4
    refine ⟨fun h7 h10 hne=>?_,fun h=>?_⟩
    ·by_cases hx0:x= []
     ·have:=b3 hx0 h7 h10
      simp only at this
      exact absurd (by rw [this,show (⟨#[]⟩:ByteArray)=au [] from rfl,toList_mk]) hne
     ·obtain ⟨e1,e2⟩:=b2 hx0 h7 h10
      refine ⟨x,e1,?_,e2⟩
      have e3:=congrArg ByteArray.size e1
      simp only at e3
      rw [bD] at e3
      omega
    ·apply b1
     by_cases hx0:x= []
     ·exact .inl hx0
     ·refine .inr fun ⟨h7,h10⟩=>?_
      obtain ⟨e1,_⟩:=b2 hx0 h7 h10
      have e2:=h h7 h10
      simp only at e1
      rw [e1,toList_mk] at e2
      exact hx0 e2
   ·
    have hvb:ld v:=by unfold ld;omega
    obtain ⟨g1,g2⟩:=qY v
    have aeG:∀ p,p∈P→p.f0.size < 4611686018427387904∧p.f1.size < 4611686018427387904:=fun p hp=>by obtain ⟨z0,z1⟩:=hPs p hp;omega
    have hl2:=hl
    rw [List.length_append,List.length_cons,List.length_append,List.length_append] at hl2
    refine ⟨fun h7=>by omega,fun _ =>?_⟩
    have e1:gf v ++ 32 :: (eV v ++ (t ++ iG P)) ++ [32]=gf v ++ 32 :: (eV v ++ (t ++ (iG P ++ [32]))):=by simp
    have hX:=PG 5999997 aq P (fun p hp=>FZ aq (hok p hp)) aeG aq
    obtain ⟨q,hq⟩:=Ld ag v (iG P ++ [32]) 5999997 aq hX wF
    rw [e1,ni hvb _ _ wF]
    rcases YJ with rfl|rfl
    ·rw [(pM 5999997 _ true).2.2.1 rfl]
     unfold ak.Fg
     rw [show (⟨#[70,82,79,77,58]⟩:ByteArray)=au (eV 3) from rfl,hq]
     rfl
    ·rw [(pM 5999997 _ true).2.2.2.1 rfl]
     unfold ak.Fh
     rw [show (⟨#[84,79,58]⟩:ByteArray)=au (eV 4) from rfl,hq]
     rfl
  cases hc:(Lib.cut (w ++ u) [32]).2.2 with
  |false=>
   rw [if_neg bG]
   exact hj1 hmain.1 hmain.2
  |true=>
   rw [if_pos rfl]
   have hu:∃ r,u=32 :: r:=by
    rcases hcase with ⟨_,_,x,rfl⟩|⟨_,t,_,_,rfl,_⟩
    ·by_cases hx0:x= []
     ·subst hx0
      rw [show kK []= [] from rfl,List.append_nil,ur 32 w Zl] at hc
      cases hc
     ·exact ⟨x,rD hx0⟩
    ·exact ⟨_,rfl⟩
   obtain ⟨r,rfl⟩:=hu
   rw [replace_mk w r Zl aq]
   simp only [Option.bind_some]
   rw [Cm 5999999 aq _ 160 (TN w r Zl (by have:=hl;simp only [List.length_append,List.length_cons] at this ⊢;omega) _)]
   simp only [Option.bind_some]
   exact hj1 hmain.1 hmain.2
end Go.Proofs.YtokpnfljjjjikaaGreatDoor.jo
