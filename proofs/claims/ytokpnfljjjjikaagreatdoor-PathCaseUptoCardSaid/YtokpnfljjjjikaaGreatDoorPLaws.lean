import Derived.Test.YtokpnfljjjjikaaGreatDoorQPtx28
namespace Go.Proofs.YtokpnfljjjjikaaGreatDoor.ia
open Go.RowKit Go.Proofs.YtokpnfljjjjikaaGreatDoor Go.Proofs.YtokpnfljjjjikaaGreatDoor.lO Go.Proofs.aj.bw Go.Proofs.aj.cj
def rest (s:ByteArray) (p:Nat):List UInt8:=s.data.toList.drop p
theorem eH (s:ByteArray) (p:Nat):(rest s p).length=s.size - p:=by
 unfold rest
 rw [List.length_drop,dz]
theorem fP (s:ByteArray) (p n:Nat):rest s (p + n)=(rest s p).drop n:=by
 unfold rest
 rw [List.drop_drop]
theorem ld {s:ByteArray} {p:Nat} {b:UInt8} {l:List UInt8} (h:rest s p=b :: l):p < s.size∧bt s (p:Int)=(b.toNat:Int)∧rest s (p + 1)=l:=by
 have hlen:=eH s p
 rw [h] at hlen
 have hp:p < s.size:=by simp at hlen;omega
 refine ⟨hp,?_,?_⟩
 ·have h0:(rest s p)[0]? =some b:=by rw [h];rfl
  unfold rest at h0
  rw [List.getElem?_drop] at h0
  unfold bt
  have hp':((p:Int)).toNat < s.size:=by omega
  rw [dif_pos hp']
  have h1:s[((p:Int)).toNat]'hp'=b:=by
   have h2:s.data.toList[p]? =some b:=by simpa using h0
   rw [List.getElem?_eq_getElem (by rw [dz];exact hp)] at h2
   have h3:=Option.some.inj h2
   rw [← h3]
   simp [ByteArray.getElem_eq_getElem_data]
  rw [h1]
 ·rw [fP,h]
  rfl
theorem ni {s:ByteArray} {p:Nat} (h:rest s p= []):s.size≤p:=by
 have hlen:=eH s p
 rw [h] at hlen
 simp at hlen
 omega
theorem gF (s:ByteArray) (p q:Nat) (_h:p≤q):s.extract p q=az ((rest s p).take (q - p)):=by
 apply ByteArray.ext
 rw [← Array.toList_inj]
 simp [az,rest]
theorem iU {α:Type} (P:α→Bool):∀ l:List α,l.take (l.takeWhile P).length=l.takeWhile P
 | []=>rfl
 |b :: l=>by
  by_cases hb:P b=true
  ·simp [hb,iU P l]
  ·simp [hb]
theorem lY (n:Nat) (h:n < 4611686018427387904):wrap64 ((n:Int) + 1)=((n + 1:Nat):Int):=by unfold wrap64;omega
def bO (c:UInt8):List UInt8→Bool
 | []=>false
 |b :: _ =>b == c
theorem kM (s:ByteArray) (p:Nat) (c:UInt8) (ci:Int) (hc:ci=(c.toNat:Int)) (hs:s.size < 4611686018427387904):
 bu.f s (p:Int) ci=some (bO c (rest s p),s,(((if bO c (rest s p)=true then p + 1 else p):Nat):Int)):=by
 subst hc
 unfold bu.f
 cases hr:rest s p with
 |nil=>
  have:=ni hr
  rw [if_neg ak]
  rfl
 |cons b l=>
  obtain ⟨h1,h2,_⟩:=ld hr
  rw [if_pos ak,if_pos ak,h2]
  by_cases hb:b=c
  ·subst hb
   rw [if_pos rfl,lY p ak]
   simp [bO]
  ·rw [if_neg (by intro h;exact hb (UInt8.toNat_inj.mp ak))]
   simp [bO,hb]
def FY:List UInt8→UInt8
 | []=>0
 |b :: _ =>b
theorem FZ (s:ByteArray) (p:Nat):ck.f s (p:Int)=some (((FY (rest s p)).toNat:Int),s,(p:Int)):=by
 unfold ck.f
 cases hr:rest s p with
 |nil=>
  have:=ni hr
  rw [if_neg ak]
  rfl
 |cons b l=>
  obtain ⟨h1,h2,_⟩:=ld hr
  rw [if_pos ak,if_pos ak,h2]
  rfl
theorem ez {Q:UInt8→Prop} (h:∀ n,n < 256→Q (UInt8.ofNat n)) (b:UInt8):Q b:=by
 have:=h b.toNat (UInt8.toNat_lt b)
 rwa [UInt8.ofNat_toNat] at this
def gh (b:UInt8):Bool:=(cS.f (b.toNat:Int)).getD false
theorem MU (b:UInt8):cS.f (b.toNat:Int)=some (gh b):=by
 unfold gh
 have h:(cS.f (b.toNat:Int)).isSome=true:=by
  have h2:∀ n,n < 256→(cS.f ((n:Nat):Int)).isSome=true:=by decide +kernel
  exact h2 _ (UInt8.toNat_lt b)
 cases hf:cS.f (b.toNat:Int) with
 |none=>rw [hf] at h;cases h
 |some x=>rfl
def fQ (b:UInt8):Bool:=(fD.f (b.toNat:Int)).getD false
theorem JT (b:UInt8):fD.f (b.toNat:Int)=some (fQ b):=by
 unfold fQ
 have h:(fD.f (b.toNat:Int)).isSome=true:=by
  have h2:∀ n,n < 256→(fD.f ((n:Nat):Int)).isSome=true:=by decide +kernel
  exact h2 _ (UInt8.toNat_lt b)
 cases hf:fD.f (b.toNat:Int) with
 |none=>rw [hf] at h;cases h
 |some x=>rfl
def gS (b:UInt8):Bool:=b != 93
theorem JU (b:UInt8):dW.f (b.toNat:Int)=some (gS b):=by
 unfold dW.f gS
 congr 1
 by_cases hb:b=93
 ·subst hb;rfl
 ·have: ¬ ((b.toNat:Int)=93):=by
   intro h
   exact hb (UInt8.toNat_inj.mp (by simpa using (ak:b.toNat=93)))
  rw [bne_iff_ne.mpr this,bne_iff_ne.mpr hb]
theorem F5 (s:ByteArray) (hs:s.size < 4611686018427387904) (a:Nat):∀ (k p:Nat),(rest s p).length < k→a≤p→p≤s.size→
 aD.l0 k (a:Int) s (p:Int)=some (s.extract a (p + ((rest s p).takeWhile gh).length),decide (a < p + ((rest s p).takeWhile gh).length),s,((p + ((rest s p).takeWhile gh).length:Nat):Int))
 | 0,p,h,_,_ =>absurd h (Nat.not_lt_zero _)
 |k + 1,p,h,ha,hp=>by
  unfold aD.l0
  cases hr:rest s p with
  |nil=>
   have:=ni hr
   rw [if_neg ak,if_pos ak,if_pos ak,if_pos ak]
   simp
   try exact decide_eq_decide.mpr Iff.rfl
  |cons c l=>
   obtain ⟨h1,h2,h3⟩:=ld hr
   rw [if_pos ak,if_pos ak,h2,MU]
   simp only [Option.bind_some]
   by_cases hb:gh c=true
   ·rw [if_pos hb,lY p ak,F5 s hs a k (p + 1) ux ak ak,h3]
    have e:p + 1 + (l.takeWhile gh).length=p + ((c :: l).takeWhile gh).length:=by simp [hb];omega
    rw [e]
   ·rw [if_neg hb,if_pos ak,if_pos ak,if_pos ak]
    simp [hb]
theorem Pf (s:ByteArray) (hs:s.size < 4611686018427387904) (k p:Nat) (hk:(rest s p).length < k) (hp:p≤s.size):
 aD.f k s (p:Int)=some (az ((rest s p).takeWhile gh),decide (0 < ((rest s p).takeWhile gh).length),s,((p + ((rest s p).takeWhile gh).length:Nat):Int)):=by
 unfold aD.f
 rw [F5 s hs p k p hk (Nat.le_refl _) hp,gF _ _ _ ak,Nat.add_sub_cancel_left,iU]
 congr 2
 simp
theorem BG (s:ByteArray) (hs:s.size < 4611686018427387904) (a:Nat):∀ (k p:Nat),(rest s p).length < k→a≤p→p≤s.size→
 aT.l0 k (a:Int) s (p:Int)=some (s.extract a (p + ((rest s p).takeWhile fQ).length),decide (a < p + ((rest s p).takeWhile fQ).length),s,((p + ((rest s p).takeWhile fQ).length:Nat):Int))
 | 0,p,h,_,_ =>absurd h (Nat.not_lt_zero _)
 |k + 1,p,h,ha,hp=>by
  unfold aT.l0
  cases hr:rest s p with
  |nil=>
   have:=ni hr
   rw [if_neg ak,if_pos ak,if_pos ak,if_pos ak]
   simp
   try exact decide_eq_decide.mpr Iff.rfl
  |cons c l=>
   obtain ⟨h1,h2,h3⟩:=ld hr
   rw [if_pos ak,if_pos ak,h2,JT]
   simp only [Option.bind_some]
   by_cases hb:fQ c=true
   ·rw [if_pos hb,lY p ak,BG s hs a k (p + 1) ux ak ak,h3]
    have e:p + 1 + (l.takeWhile fQ).length=p + ((c :: l).takeWhile fQ).length:=by simp [hb];omega
    rw [e]
   ·rw [if_neg hb,if_pos ak,if_pos ak,if_pos ak]
    simp [hb]
theorem MV (s:ByteArray) (hs:s.size < 4611686018427387904) (k p:Nat) (hk:(rest s p).length < k) (hp:p≤s.size):
 aT.f k s (p:Int)=some (az ((rest s p).takeWhile fQ),decide (0 < ((rest s p).takeWhile fQ).length),s,((p + ((rest s p).takeWhile fQ).length:Nat):Int)):=by
 unfold aT.f
 rw [BG s hs p k p hk (Nat.le_refl _) hp,gF _ _ _ ak,Nat.add_sub_cancel_left,iU]
 congr 2
 simp
theorem BH (s:ByteArray) (hs:s.size < 4611686018427387904) (a:Nat):∀ (k p:Nat),(rest s p).length < k→a≤p→p≤s.size→
 aG.l0 k (a:Int) s (p:Int)=some (s.extract a (p + ((rest s p).takeWhile gS).length),decide (a < p + ((rest s p).takeWhile gS).length),s,((p + ((rest s p).takeWhile gS).length:Nat):Int))
 | 0,p,h,_,_ =>absurd h (Nat.not_lt_zero _)
 |k + 1,p,h,ha,hp=>by
  unfold aG.l0
  cases hr:rest s p with
  |nil=>
   have:=ni hr
   rw [if_neg ak,if_pos ak,if_pos ak,if_pos ak]
   simp
   try exact decide_eq_decide.mpr Iff.rfl
  |cons c l=>
   obtain ⟨h1,h2,h3⟩:=ld hr
   rw [if_pos ak,if_pos ak,h2,JU]
   simp only [Option.bind_some]
   by_cases hb:gS c=true
   ·rw [if_pos hb,lY p ak,BH s hs a k (p + 1) ux ak ak,h3]
    have e:p + 1 + (l.takeWhile gS).length=p + ((c :: l).takeWhile gS).length:=by simp [hb];omega
    rw [e]
   ·rw [if_neg hb,if_pos ak,if_pos ak,if_pos ak]
    simp [hb]
theorem MW (s:ByteArray) (hs:s.size < 4611686018427387904) (k p:Nat) (hk:(rest s p).length < k) (hp:p≤s.size):
 aG.f k s (p:Int)=some (az ((rest s p).takeWhile gS),decide (0 < ((rest s p).takeWhile gS).length),s,((p + ((rest s p).takeWhile gS).length:Nat):Int)):=by
 unfold aG.f
 rw [BH s hs p k p hk (Nat.le_refl _) hp,gF _ _ _ ak,Nat.add_sub_cancel_left,iU]
 congr 2
 simp
theorem F6 (l:List UInt8) (i:Nat) (h:i < l.length):bt (az l) (i:Int)=((l.getD i 0).toNat:Int):=by
 unfold bt
 have h':((i:Int)).toNat < (az l).size:=by show _ < l.length;omega
 rw [dif_pos h']
 have:(az l)[((i:Int)).toNat]'(h')=l.getD i 0:=by
  simp only [Int.toNat_natCast]
  rw [List.getD_eq_getElem?_getD,List.getElem?_eq_getElem h]
  rfl
 rw [this]
theorem bT (l:List UInt8):(az l).size=l.length:=rfl
theorem mq {α:Type} (P:α→Bool) (l:List α):(l.takeWhile P).length≤l.length:=(List.takeWhile_sublist P).length_le
def dw (l:List UInt8):Bool×Nat:=
 (match l.takeWhile gh with
  | []=>false
  |c :: t=>c != 45 && (c :: t).getD t.length 0 != 45,(l.takeWhile gh).length)
theorem toNat_eq {a b:UInt8} (h:(a.toNat:Int)=(b.toNat:Int)):a=b:=UInt8.toNat_inj.mp ak
theorem label_eq (s:ByteArray) (hs:s.size < 4611686018427387904) (k p:Nat) (hk:(rest s p).length < k) (hp:p≤s.size):
 cT.f k s (p:Int)=some ((dw (rest s p)).1,s,((p + (dw (rest s p)).2:Nat):Int)):=by
 unfold cT.f dw
 rw [Pf s hs k p hk hp]
 simp only [Option.bind_some]
 have hle:=mq gh (rest s p)
 have hrl:=eH s p
 generalize (rest s p).takeWhile gh=w at hle ⊢
 cases w with
 |nil=>simp
 |cons c t=>
  have h0:bt (az (c :: t)) 0=(c.toNat:Int):=F6 (c :: t) 0 bB
  have e1:wrap64 (((az (c :: t)).size:Int) - 1)=(t.length:Int):=by
   rw [bT]
   unfold wrap64
   simp at hle ⊢
   omega
  have h1:bt (az (c :: t)) (t.length:Int)=(((c :: t).getD t.length 0).toNat:Int):=F6 (c :: t) t.length bB
  rw [if_pos bB,if_pos (by rw [bT];first|(simp;done)|(simp;omega)),h0,e1,h1]
  by_cases hc:c=45
  ·subst hc
   rw [if_pos (show ((UInt8.toNat 45:Nat):Int)=45 from rfl)]
   simp
  ·rw [if_neg (show ¬ (c.toNat:Int)=45 from fun h=>hc (toNat_eq (b:=45) h)),if_pos ak,if_pos (by rw [bT];first|(simp;done)|(simp;omega))]
   have:((((c :: t).getD t.length 0).toNat:Int) != 45)=((c :: t).getD t.length 0 != 45):=by
    by_cases hl:(c :: t).getD t.length 0=45
    ·rw [hl];rfl
    ·rw [bne_iff_ne.mpr hl,bne_iff_ne.mpr (show (((c :: t).getD t.length 0).toNat:Int)≠45 from fun h=>hl (toNat_eq (b:=45) h))]
   rw [this]
   simp [hc]
def fJ (l:List UInt8):Bool×Nat:=(decide (0 < (l.takeWhile fQ).length),(l.takeWhile fQ).length)
theorem JV (s:ByteArray) (hs:s.size < 4611686018427387904) (k p:Nat) (hk:(rest s p).length < k) (hp:p≤s.size):
 cY.f k s (p:Int)=some ((fJ (rest s p)).1,s,((p + (fJ (rest s p)).2:Nat):Int)):=by
 unfold cY.f fJ
 rw [MV s hs k p hk hp]
 rfl
theorem sO (l:List UInt8):(dw l).2≤l.length:=mq _ _
theorem rV (l:List UInt8):(fJ l).2≤l.length:=mq _ _
def wo (part:List UInt8→Bool×Nat) (c:UInt8):Nat→List UInt8→Bool×Nat
 | 0,_ =>(false,0)
 |n + 1,l=>if (part l).1=true then (if bO c (l.drop (part l).2)=true then ((wo part c n (l.drop ((part l).2 + 1))).1,(part l).2 + 1 + (wo part c n (l.drop ((part l).2 + 1))).2) else (true,(part l).2)) else (false,(part l).2)
def eI (part:List UInt8→Bool×Nat) (c:UInt8) (l:List UInt8):Bool×Nat:=wo part c (l.length + 1) l
theorem gj {c:UInt8} {l:List UInt8} {n:Nat} (h:bO c (l.drop n)=true):n < l.length:=by
 rcases Nat.lt_or_ge n l.length with h1|h1
 ·exact h1
 ·rw [List.drop_of_length_le h1] at h
  cases h
theorem xU (part:List UInt8→Bool×Nat) (c:UInt8):∀ (n m:Nat) (l:List UInt8),l.length < n→l.length < m→wo part c n l=wo part c m l
 | 0,_,_,h,_ =>absurd h (Nat.not_lt_zero _)
 |_,0,_,_,h=>absurd h (Nat.not_lt_zero _)
 |n + 1,m + 1,l,h1,h2=>by
  unfold wo
  by_cases hp:(part l).1=true
  ·rw [if_pos hp,if_pos hp]
   by_cases hn:bO c (l.drop (part l).2)=true
   ·have:=gj hn
    rw [if_pos hn,if_pos hn,xU part c n m _ lT lT]
   ·rw [if_neg hn,if_neg hn]
  ·rw [if_neg hp,if_neg hp]
theorem gH (part:List UInt8→Bool×Nat) (c:UInt8) (l:List UInt8):
 eI part c l=if (part l).1=true then (if bO c (l.drop (part l).2)=true then ((eI part c (l.drop ((part l).2 + 1))).1,(part l).2 + 1 + (eI part c (l.drop ((part l).2 + 1))).2) else (true,(part l).2)) else (false,(part l).2):=by
 unfold eI
 rw [wo]
 by_cases hp:(part l).1=true
 ·rw [if_pos hp,if_pos hp]
  by_cases hn:bO c (l.drop (part l).2)=true
  ·have:=gj hn
   rw [if_pos hn,if_pos hn,xU part c l.length ((l.drop ((part l).2 + 1)).length + 1) _ lT ak]
  ·rw [if_neg hn,if_neg hn]
 ·rw [if_neg hp,if_neg hp]
theorem rW (part:List UInt8→Bool×Nat) (c:UInt8) (hpart:∀ l,(part l).2≤l.length):∀ (n:Nat) (l:List UInt8),l.length < n→(eI part c l).2≤l.length
 | 0,_,h=>absurd h (Nat.not_lt_zero _)
 |n + 1,l,h=>by
  rw [gH]
  have hl:=hpart l
  by_cases hp:(part l).1=true
  ·rw [if_pos hp]
   by_cases hn:bO c (l.drop (part l).2)=true
   ·have h1:=gj hn
    have h2:=rW part c hpart n (l.drop ((part l).2 + 1)) lT
    rw [List.length_drop] at h2
    rw [if_pos hn]
    show _ + 1 + _≤_
    omega
   ·rw [if_neg hn]
    exact hl
  ·rw [if_neg hp]
   exact hl
theorem wq (s:ByteArray) (hs:s.size < 4611686018427387904):∀ (k p:Nat),(rest s p).length + 1 < k→p≤s.size→
 aI.l0 k 46 s (p:Int)=some ((eI dw 46 (rest s p)).1,s,((p + (eI dw 46 (rest s p)).2:Nat):Int))
 | 0,p,h,_ =>absurd h ak
 |k + 1,p,h,hp=>by
  have hle:=sO (rest s p)
  have hrl:=eH s p
  unfold aI.l0
  rw [label_eq s hs k p ak hp,gH]
  simp only [Option.bind_some]
  by_cases h1:(dw (rest s p)).1=true
  ·rw [if_pos h1,if_pos h1,kM s _ 46 46 rfl hs]
   simp only [Option.bind_some,fP]
   by_cases h2:bO 46 ((rest s p).drop (dw (rest s p)).2)=true
   ·have h3:=gj h2
    rw [if_pos h2,if_pos h2,if_pos h2]
    have h4:=wq s hs k (p + (dw (rest s p)).2 + 1) l6 ak
    rw [h4,Nat.add_assoc p,fP]
    congr 3
    omega
   ·rw [if_neg h2,if_neg h2,if_neg h2]
  ·rw [if_neg h1,if_neg h1]
theorem sP (s:ByteArray) (hs:s.size < 4611686018427387904):∀ (k p:Nat),(rest s p).length + 1 < k→p≤s.size→
 aC.l0 k 46 s (p:Int)=some ((eI fJ 46 (rest s p)).1,s,((p + (eI fJ 46 (rest s p)).2:Nat):Int))
 | 0,p,h,_ =>absurd h ak
 |k + 1,p,h,hp=>by
  have hle:=rV (rest s p)
  have hrl:=eH s p
  unfold aC.l0
  rw [JV s hs k p ak hp,gH]
  simp only [Option.bind_some]
  by_cases h1:(fJ (rest s p)).1=true
  ·rw [if_pos h1,if_pos h1,kM s _ 46 46 rfl hs]
   simp only [Option.bind_some,fP]
   by_cases h2:bO 46 ((rest s p).drop (fJ (rest s p)).2)=true
   ·have h3:=gj h2
    rw [if_pos h2,if_pos h2,if_pos h2]
    have h4:=sP s hs k (p + (fJ (rest s p)).2 + 1) l6 ak
    rw [h4,Nat.add_assoc p,fP]
    congr 3
    omega
   ·rw [if_neg h2,if_neg h2,if_neg h2]
  ·rw [if_neg h1,if_neg h1]
def mz (l:List UInt8):Bool×ByteArray×Nat:=((eI dw 46 l).1,b7.g (az (l.take (eI dw 46 l).2)),(eI dw 46 l).2)
theorem z7 (l:List UInt8):(mz l).2.2≤l.length:=rW dw 46 sO _ l (Nat.lt_succ_self _)
theorem domain_eq (s:ByteArray) (hs:s.size < 4611686018427387904) (k p:Nat) (hk:(rest s p).length + 1 < k) (hp:p≤s.size):
 bH.f k s (p:Int)=some ((mz (rest s p)).2.1,(mz (rest s p)).1,s,((p + (mz (rest s p)).2.2:Nat):Int)):=by
 have hle:=z7 (rest s p)
 have hrl:=eH s p
 unfold mz at hle ⊢
 simp only at hle ⊢
 unfold bH.f aI.f
 rw [wq s hs k p hk hp]
 simp only [Option.bind_some]
 rw [if_pos ak,if_pos ak,if_pos ak]
 have e:s.extract ((p:Int)).toNat (((p + (eI dw 46 (rest s p)).2:Nat):Int)).toNat=az ((rest s p).take (eI dw 46 (rest s p)).2):=by
  rw [Int.toNat_natCast,Int.toNat_natCast,gF _ _ _ ak,Nat.add_sub_cancel_left]
 rw [e]
 have hf:b7.f (az ((rest s p).take (eI dw 46 (rest s p)).2))=some (b7.g (az ((rest s p).take (eI dw 46 (rest s p)).2))):=by
  unfold b7.f
  rw [if_pos]
  rw [bT,List.length_take]
  omega
 rw [hf]
 rfl
def fq:List UInt8→List UInt8→Bool×List UInt8×Nat
 | [],_ =>(false,[],0)
 |b :: l,acc=>
  if b=34 then (true,acc,1)
  else if b=92 then
   match l with
   | []=>(false,[],2)
   |c :: l'=>if c < 32∨126 < c then (false,[],2) else ((fq l' (acc ++ [c])).1,(fq l' (acc ++ [c])).2.1,(fq l' (acc ++ [c])).2.2 + 2)
  else if b < 32∨126 < b then (false,[],1)
  else ((fq l (acc ++ [b])).1,(fq l (acc ++ [b])).2.1,(fq l (acc ++ [b])).2.2 + 1)
def jU (l:List UInt8):List Int:=l.map fun b=>(b.toNat:Int)
theorem BI (l:List UInt8):strOfNums (jU l)=az l:=by
 unfold strOfNums jU az
 congr 1
 rw [List.map_map,← Array.toList_inj]
 show List.map _ l=l
 rw [show ((fun n:Int=>UInt8.ofNat n.toNat) ∘fun b:UInt8=>(b.toNat:Int))=id from by funext b;simp]
 simp
theorem ltI {b c:UInt8}:((b.toNat:Int) < (c.toNat:Int))↔b < c:=by
 rw [UInt8.lt_iff_toNat_lt]
 omega
theorem Dz {b:UInt8}:((b.toNat:Int) < 32)↔b < 32:=ltI (c:=32)
theorem wu {b:UInt8}:((b.toNat:Int) > 126)↔126 < b:=ltI (b:=126)
theorem wz (s:ByteArray) (hs:s.size < 70368744177664):∀ (k p:Nat) (acc:List UInt8),(rest s p).length + 1 < k→p≤s.size→acc.length + (rest s p).length≤s.size→
 bF.l0 k (jU acc) s (p:Int)=some (az (fq (rest s p) acc).2.1,(fq (rest s p) acc).1,s,((p + (fq (rest s p) acc).2.2:Nat):Int))
 | 0,p,acc,h,_,_ =>absurd h ak
 |k + 1,p,acc,h,hp,ha=>by
  unfold bF.l0
  have hrl:=eH s p
  cases hr:rest s p with
  |nil=>
   have:=ni hr
   rw [if_neg ak]
   rfl
  |cons b l=>
   obtain ⟨h1,h2,h3⟩:=ld hr
   have hlen:l.length + 1=s.size - p:=by rw [hr] at hrl;simpa using hrl
   rw [if_pos ak,if_pos ak,h2]
   unfold fq
   by_cases hq:b=34
   ·subst hq
    rw [if_pos rfl,if_pos (show ((UInt8.toNat 34:Nat):Int)=34 from rfl),BI,lY p ak]
   ·rw [if_neg hq,if_neg (show ¬ (b.toNat:Int)=34 from fun h=>hq (toNat_eq (b:=34) h))]
    by_cases hb:b=92
    ·subst hb
     rw [if_pos rfl,if_pos (show ((UInt8.toNat 92:Nat):Int)=92 from rfl),lY p ak,FZ,h3]
     simp only [Option.bind_some]
     cases l with
     |nil=>
      have e:wrap64 (((p + 1:Nat):Int) + 1)=((p + 2:Nat):Int):=by unfold wrap64;omega
      rw [if_pos bg,e]
      rfl
     |cons c l'=>
      have e:wrap64 (((p + 1:Nat):Int) + 1)=((p + 2:Nat):Int):=by unfold wrap64;omega
      rw [e]
      show (if ((c.toNat:Int) < 32) then _ else if ((c.toNat:Int) > 126) then _ else _)=_
      by_cases hc:c < 32
      ·rw [if_pos (Dz.mpr hc)]
       simp only [if_pos (Or.inl hc:c < 32∨126 < c)]
       rfl
      ·rw [if_neg (fun h=>hc (Dz.mp h))]
       by_cases hd: 126 < c
       ·rw [if_pos (wu.mpr hd)]
        simp only [if_pos (Or.inr hd:c < 32∨126 < c)]
        rfl
       ·rw [if_neg (fun h=>hd (wu.mp h)),if_pos (by simp [jU];rw [hr] at ha;simp at ha;omega)]
        have hcd: ¬ (c < 32∨126 < c):=fun h=>h.elim hc hd
        simp only [if_neg hcd]
        have hr2:rest s (p + 2)=l':=by rw [fP,hr];rfl
        have hn:jU acc ++ [(c.toNat:Int)]=jU (acc ++ [c]):=by simp [jU]
        have:=wz s hs k (p + 2) (acc ++ [c]) (by rw [hr2];simp at hlen;rw [hr] at h;simp at h;omega) (by simp at hlen;omega) (by rw [hr2];rw [hr] at ha;simp at ha ⊢;omega)
        rw [show FY (c :: l')=c from rfl,hn,this,hr2,Nat.add_assoc,Nat.add_comm 2]
    ·rw [if_neg hb,if_neg (show ¬ (b.toNat:Int)=92 from fun h=>hb (toNat_eq (b:=92) h)),lY p ak]
     by_cases hc:b < 32
     ·rw [if_pos (Dz.mpr hc),if_pos (Or.inl hc)]
      rfl
     ·rw [if_neg (fun h=>hc (Dz.mp h))]
      by_cases hd: 126 < b
      ·rw [if_pos (wu.mpr hd),if_pos (Or.inr hd)]
       rfl
      ·rw [if_neg (fun h=>hd (wu.mp h)),if_pos (by simp [jU];rw [hr] at ha;simp at ha;omega),if_neg (fun h=>h.elim hc hd)]
       have hn:jU acc ++ [(b.toNat:Int)]=jU (acc ++ [b]):=by simp [jU]
       have:=wz s hs k (p + 1) (acc ++ [b]) ux ak (by rw [h3];rw [hr] at ha;simp at ha ⊢;omega)
       rw [hn,this,h3,Nat.add_assoc,Nat.add_comm 1]
theorem wA:∀ (n:Nat) (l acc:List UInt8),l.length < n→(fq l acc).1=true→(fq l acc).2.2≤l.length
 | 0,_,_,h,_ =>absurd h (Nat.not_lt_zero _)
 |n + 1,l,acc,h,ho=>by
  cases l with
  |nil=>unfold fq at ho;cases ho
  |cons b l=>
   unfold fq at ho ⊢
   by_cases hq:b=34
   ·rw [if_pos hq] at ho ⊢
    simp
   ·rw [if_neg hq] at ho ⊢
    by_cases hb:b=92
    ·rw [if_pos hb] at ho ⊢
     cases l with
     |nil=>cases ho
     |cons c l'=>
      by_cases hc:c < 32∨126 < c
      ·simp only [if_pos hc] at ho
       cases ho
      ·simp only [if_neg hc] at ho ⊢
       have:=wA n l' (acc ++ [c]) (by simp at h;omega) ho
       simp
       omega
    ·rw [if_neg hb] at ho ⊢
     by_cases hc:b < 32∨126 < b
     ·rw [if_pos hc] at ho
      cases ho
     ·rw [if_neg hc] at ho ⊢
      have:=wA n l (acc ++ [b]) (by simp at h;omega) ho
      simp
      omega
def dB (l:List UInt8):Bool×ByteArray×Nat:=
 if bO 34 l=true then ((fq (l.drop 1) []).1,az (fq (l.drop 1) []).2.1,1 + (fq (l.drop 1) []).2.2)
 else ((eI fJ 46 l).1,az (l.take (eI fJ 46 l).2),(eI fJ 46 l).2)
theorem lf {c:UInt8} {l:List UInt8} (h:bO c l=true): 0 < l.length:=by
 cases l with
 |nil=>cases h
 |cons _ _ =>simp
theorem GM (l:List UInt8) (h:(dB l).1=true):(dB l).2.2≤l.length:=by
 unfold dB at h ⊢
 by_cases hq:bO 34 l=true
 ·rw [if_pos hq] at h ⊢
  have h1:=lf hq
  have h2:=wA _ (l.drop 1) [] (Nat.lt_succ_self _) h
  rw [List.length_drop] at h2
  show 1 + _≤_
  omega
 ·rw [if_neg hq]
  exact rW fJ 46 rV _ l (Nat.lt_succ_self _)
theorem JW (s:ByteArray) (hs:s.size < 70368744177664) (k p:Nat) (hk:(rest s p).length + 1 < k) (hp:p≤s.size):
 bF.f k s (p:Int)=some ((dB (rest s p)).2.1,(dB (rest s p)).1,s,((p + (dB (rest s p)).2.2:Nat):Int)):=by
 have hrl:=eH s p
 unfold bF.f dB
 rw [kM s p 34 34 rfl ak]
 simp only [Option.bind_some]
 by_cases hq:bO 34 (rest s p)=true
 ·have h1:=lf hq
  have:=wz s hs k (p + 1) [] l6 ak (by rw [eH];simp)
  rw [if_pos hq,if_pos hq,if_pos hq]
  rw [show ([]:List Int)=jU [] from rfl,this,fP,Nat.add_assoc]
 ·rw [if_neg hq,if_neg hq,if_neg hq]
  have hle:=rW fJ 46 rV _ (rest s p) (Nat.lt_succ_self _)
  unfold aC.f
  rw [sP s ak k p hk hp]
  simp only [Option.bind_some]
  rw [if_pos ak,if_pos ak,if_pos ak,Int.toNat_natCast,Int.toNat_natCast,gF _ _ _ ak,Nat.add_sub_cancel_left]
theorem more {α:Type} {f:Nat→Option α} (hm:∀ k,bZ (f k) (f (k + 1))) {k1 k2:Nat} (h:k1≤k2) {r:α} (hf:f k1=some r):f k2=some r:=by
 induction h with
 |refl=>exact hf
 |step _ ih=>exact hm _ _ ih
theorem wB (k0:Nat) {xs:List ByteArray} (hf:∀ y,y∈xs→∀ k,k0≤k→∃ r,dV.f y=some r):∀ (k i:Nat),xs.length - i + k0 < k→i≤xs.length→xs.length < 4611686018427387904→∃ r,au.l0 k xs (xs.length:Int) (i:Int)=some r
 | 0,_,h,_,_ =>absurd h (Nat.not_lt_zero _)
 |k + 1,i,h,hi,hl=>by
  unfold au.l0
  by_cases hlt:i < xs.length
  ·rw [if_pos ak,if_pos ak,if_pos ak]
   have hrd:jv ByteArray.empty xs (i:Int)=xs[i]:=by simp [jv,hlt]
   obtain ⟨r,hr⟩:=hf xs[i] (List.getElem_mem hlt) k ak
   rw [hrd,hr]
   simp only [Option.bind_some]
   split
   ·exact ⟨_,rfl⟩
   ·rw [lY i ak]
    exact wB k0 hf k (i + 1) ak ak hl
  ·rw [if_neg ak]
   exact ⟨_,rfl⟩
theorem BJ (k0 k:Nat) {xs:List ByteArray} (hf:∀ y,y∈xs→∀ k,k0≤k→∃ r,dV.f y=some r) (hk:xs.length + k0 < k) (hl:xs.length < 4611686018427387904):∃ r,au.f k xs=some r:=wB k0 hf k 0 ak (Nat.zero_le _) hl
theorem rX (k0:Nat) {xs:List ByteArray} (hf:∀ y,y∈xs→∀ k,k0≤k→∃ r,jf.f y=some r):∀ (k i:Nat),xs.length - i + k0 < k→i≤xs.length→xs.length < 4611686018427387904→∃ r,aA.l0 k xs (xs.length:Int) (i:Int)=some r
 | 0,_,h,_,_ =>absurd h (Nat.not_lt_zero _)
 |k + 1,i,h,hi,hl=>by
  unfold aA.l0
  by_cases hlt:i < xs.length
  ·rw [if_pos ak,if_pos ak,if_pos ak]
   have hrd:jv ByteArray.empty xs (i:Int)=xs[i]:=by simp [jv,hlt]
   obtain ⟨r,hr⟩:=hf xs[i] (List.getElem_mem hlt) k ak
   rw [hrd,hr]
   simp only [Option.bind_some]
   split
   ·exact ⟨_,rfl⟩
   ·rw [lY i ak]
    exact rX k0 hf k (i + 1) ak ak hl
  ·rw [if_neg ak]
   exact ⟨_,rfl⟩
theorem xy (k0 k:Nat) {xs:List ByteArray} (hf:∀ y,y∈xs→∀ k,k0≤k→∃ r,jf.f y=some r) (hk:xs.length + k0 < k) (hl:xs.length < 4611686018427387904):∃ r,aA.f k xs=some r:=rX k0 hf k 0 ak (Nat.zero_le _) hl
theorem qQ (x:ByteArray) (c:UInt8) (hx:x.size < 4294967281):strings_Split.f x ⟨#[c]⟩=some ((pieces c x.data.toList).map az):=by
 unfold strings_Split.f
 rw [show one? ⟨#[c]⟩=some c from rfl]
 simp only [if_pos hx]
theorem wC (c:UInt8) (x:ByteArray):((pieces c x.data.toList).map az).length≤x.size + 1:=by
 rw [List.length_map,jH]
 have:=List.count_le_length (a:=c) (l:=x.data.toList)
 rw [dz] at this
 omega
theorem tK (x:ByteArray) (hx:x.size < 4294967281):∃ r,dA.f x=some r:=by
 unfold dA.f
 rw [if_pos hx]
 exact ⟨_,rfl⟩
theorem JX (x:ByteArray) (hx:x.size < 4294967281):∃ r,lC.f x=some r:=by
 unfold lC.f strings_Cut.f
 rw [if_pos hx]
 simp only [Option.bind_some]
 have h1:(az (Lib.cut x.data.toList [58,58]).1).size < 4294967281:=by
  show (Lib.cut x.data.toList [58,58]).1.length < _
  have:=dz x
  unfold Lib.cut
  split
  ·simp only [List.length_take];omega
  ·simp only;omega
 have h2:(az (Lib.cut x.data.toList [58,58]).2.1).size < 4294967281:=by
  show (Lib.cut x.data.toList [58,58]).2.1.length < _
  have:=dz x
  unfold Lib.cut
  split
  ·simp only [List.length_drop];omega
  ·simp only [List.length_nil];omega
 obtain ⟨a,ha⟩:=tK _ h1
 obtain ⟨b,hb⟩:=tK _ h2
 show ∃ r,((dA.f (az (Lib.cut x.data.toList [58,58]).1)).bind fun t151=>((dA.f (az (Lib.cut x.data.toList [58,58]).2.1)).bind fun t152=>_))=some r
 rw [ha,hb]
 simp only [Option.bind_some]
 split
 ·split
  ·split<;>exact ⟨_,rfl⟩
  ·exact ⟨_,rfl⟩
 ·exact ⟨_,rfl⟩
theorem GN (x:ByteArray) (hx:x.size < 4294967281):∃ r,dV.f x=some r:=by
 unfold dV.f
 rw [if_pos ak]
 exact ⟨_,rfl⟩
theorem z8 (x:ByteArray) (hx:x.size < 4294967281) (k:Nat) (hk:x.size + 4 < k):∃ r,bQ.f k x=some r:=by
 obtain ⟨k,rfl⟩:∃ k',k=k' + 1:=⟨k - 1,ak⟩
 have hj:∀ b,∃ r,bQ.j0 (k + 1) x b=some r∨b=true∧x.size < 5:=by
  intro b
  rw [bQ.j0]
  cases b with
  |true=>
   by_cases h5:x.size < 5
   ·exact ⟨true,.inr ⟨rfl,h5⟩⟩
   ·obtain ⟨r,hr⟩:=JX (x.extract 5 x.size) (by rw [ByteArray.size_extract];omega)
    exact ⟨r,.inl (by rw [if_pos rfl,if_pos ak,hr];rfl)⟩
  |false=>
   rw [if_neg bg,qQ x 46 hx]
   simp only [Option.bind_some]
   split
   ·have hn:=wC 46 x
    obtain ⟨r,hr⟩:=BJ 0 k (xs:=(pieces 46 x.data.toList).map az) (fun y hy _ _ =>GN y (by have:=tD 46 x y hy;omega)) ak ak
    unfold aV.f
    rw [hr]
    exact ⟨_,.inl rfl⟩
   ·exact ⟨_,.inl rfl⟩
 unfold bQ.f
 split
 ·rename_i h5
  rw [if_pos bg,if_pos ak]
  have hf:b7.f (x.extract 0 5)=some (b7.g (x.extract 0 5)):=by
   unfold b7.f
   rw [if_pos]
   rw [ByteArray.size_extract]
   omega
  rw [hf]
  simp only [Option.bind_some]
  obtain ⟨r,hr|⟨_,hr⟩⟩:=hj ((b7.g (x.extract 0 5)).toList == ([105,112,118,54,58]:List UInt8))
  ·exact ⟨r,hr⟩
  ·omega
 ·obtain ⟨r,hr|⟨hr,_⟩⟩:=hj false
  ·exact ⟨r,hr⟩
  ·cases hr
def DA (w:ByteArray):Bool:=(bQ.f (w.size + 5) w).getD false
theorem DB (x:ByteArray) (hx:x.size < 4294967281) (k:Nat) (hk:x.size + 4 < k):bQ.f k x=some (DA x):=by
 obtain ⟨r,hr⟩:=z8 x hx (x.size + 5) ak
 have h1:DA x=r:=by unfold DA;rw [hr];rfl
 rw [h1]
 exact pW (fun k=>bQ.mono x k) ak hr
def jL (l:List UInt8):Bool×ByteArray×ByteArray×Bool×Nat:=
 if (dB l).1=true then
  if bO 64 (l.drop (dB l).2.2)=true then
   if bO 91 (l.drop ((dB l).2.2 + 1))=true then
    if bO 93 (l.drop ((dB l).2.2 + 2 + ((l.drop ((dB l).2.2 + 2)).takeWhile gS).length))=true then
     (DA (az ((l.drop ((dB l).2.2 + 2)).takeWhile gS)),(dB l).2.1,b7.g (az ((l.drop ((dB l).2.2 + 2)).takeWhile gS)),true,(dB l).2.2 + 2 + ((l.drop ((dB l).2.2 + 2)).takeWhile gS).length + 1)
    else (false,(dB l).2.1,b7.g (az ((l.drop ((dB l).2.2 + 2)).takeWhile gS)),true,(dB l).2.2 + 2 + ((l.drop ((dB l).2.2 + 2)).takeWhile gS).length)
   else ((mz (l.drop ((dB l).2.2 + 1))).1,(dB l).2.1,(mz (l.drop ((dB l).2.2 + 1))).2.1,false,(dB l).2.2 + 1 + (mz (l.drop ((dB l).2.2 + 1))).2.2)
  else (false,⟨#[]⟩,⟨#[]⟩,false,(dB l).2.2)
 else (false,⟨#[]⟩,⟨#[]⟩,false,(dB l).2.2)
theorem xV {c:UInt8} {s:ByteArray} {p:Nat} (h:bO c (rest s p)=true):p < s.size:=by
 have:=lf h
 rw [eH] at this
 omega
theorem Pg (s:ByteArray) (hs:s.size < 4294967281) (k p:Nat) (hk:(rest s p).length + 6 < k) (hp:p≤s.size):
 bN.f k s (p:Int)=some ((jL (rest s p)).2.1,(jL (rest s p)).2.2.1,(jL (rest s p)).2.2.2.1,(jL (rest s p)).1,s,((p + (jL (rest s p)).2.2.2.2:Nat):Int)):=by
 obtain ⟨k,rfl⟩:∃ k',k=k' + 1:=⟨k - 1,ak⟩
 have hrl:=eH s p
 unfold bN.f jL
 rw [JW s ak (k + 1) p ak hp]
 simp only [Option.bind_some]
 by_cases h1:(dB (rest s p)).1=true
 ·have hle:=GM _ h1
  rw [if_pos h1,if_pos h1,kM s _ 64 64 rfl ak]
  simp only [Option.bind_some,fP]
  by_cases h2:bO 64 ((rest s p).drop (dB (rest s p)).2.2)=true
  ·have hl2:=xV (by rw [fP];exact h2)
   rw [if_pos h2,if_pos h2,h2,bN.j0,if_neg bg,kM s _ 91 91 rfl ak]
   simp only [Option.bind_some]
   rw [Nat.add_assoc p,fP]
   by_cases h3:bO 91 ((rest s p).drop ((dB (rest s p)).2.2 + 1))=true
   ·have hl3:=xV (by rw [fP];exact h3)
    rw [if_pos h3,if_pos h3,if_pos h3,Nat.add_assoc p,MW s ak k _ l6 ak,fP]
    simp only [Option.bind_some]
    have hw:=mq gS ((rest s p).drop ((dB (rest s p)).2.2 + 1 + 1))
    rw [List.length_drop] at hw
    have hf:b7.f (az (((rest s p).drop ((dB (rest s p)).2.2 + 1 + 1)).takeWhile gS))=some (b7.g (az (((rest s p).drop ((dB (rest s p)).2.2 + 1 + 1)).takeWhile gS))):=by
     unfold b7.f
     rw [if_pos]
     rw [bT]
     omega
    rw [hf]
    simp only [Option.bind_some]
    rw [kM s _ 93 93 rfl ak]
    simp only [Option.bind_some]
    rw [Nat.add_assoc p,fP]
    by_cases h4:bO 93 ((rest s p).drop ((dB (rest s p)).2.2 + 1 + 1 + (((rest s p).drop ((dB (rest s p)).2.2 + 1 + 1)).takeWhile gS).length))=true
    ·rw [if_pos h4,if_pos h4,if_pos h4,DB _ fS k fS]
     rfl
    ·rw [if_neg h4,if_neg h4,if_neg h4]
   ·rw [if_neg h3,if_neg h3,if_neg h3,domain_eq s ak k _ l6 ak,fP]
    simp only [Option.bind_some]
    rw [Nat.add_assoc p]
  ·rw [if_neg h2,if_neg h2,Bool.eq_false_iff.mpr h2,bN.j0,if_pos (show (!false)=true from rfl)]
 ·rw [if_neg h1,if_neg h1,bN.j0,if_pos rfl]
def iz (l:List UInt8):Bool×ByteArray×Nat:=
 if bO 64 l=true then ((mz (l.drop 1)).1,(mz (l.drop 1)).2.1,1 + (mz (l.drop 1)).2.2) else (false,(mz l).2.1,(mz l).2.2)
theorem F7 (l:List UInt8):(iz l).2.2≤l.length:=by
 unfold iz
 split
 ·rename_i h
  have h1:=lf h
  have:=z7 (l.drop 1)
  rw [List.length_drop] at this
  show 1 + _≤_
  omega
 ·exact z7 l
theorem Ph (s:ByteArray) (hs:s.size < 4294967281) (k p:Nat) (rs:List ByteArray) (hr:rs.length < 8000000000000) (hk:(rest s p).length + 1 < k) (hp:p≤s.size):
 eP.f k s (p:Int) rs=some ((iz (rest s p)).1,s,((p + (iz (rest s p)).2.2:Nat):Int),rs ++ [(iz (rest s p)).2.1]):=by
 have hrl:=eH s p
 unfold eP.f iz
 rw [kM s p 64 64 rfl ak]
 simp only [Option.bind_some]
 by_cases h:bO 64 (rest s p)=true
 ·have h1:=lf h
  rw [if_pos h,if_pos h,h,domain_eq s ak k _ l6 ak,fP]
  simp only [Option.bind_some]
  rw [if_pos hr,Bool.true_and,Nat.add_assoc]
 ·rw [if_neg h,if_neg h,Bool.eq_false_iff.mpr h,domain_eq s ak k _ hk hp]
  simp only [Option.bind_some]
  rw [if_pos hr,Bool.false_and]
def pO:Nat→List UInt8→Bool×List ByteArray×Nat
 | 0,_ =>(false,[],0)
 |n + 1,l=>if (iz l).1=true then (if bO 44 (l.drop (iz l).2.2)=true then ((pO n (l.drop ((iz l).2.2 + 1))).1,(iz l).2.1 :: (pO n (l.drop ((iz l).2.2 + 1))).2.1,(iz l).2.2 + 1 + (pO n (l.drop ((iz l).2.2 + 1))).2.2) else (true,[(iz l).2.1],(iz l).2.2)) else (false,[(iz l).2.1],(iz l).2.2)
def gV (l:List UInt8):Bool×List ByteArray×Nat:=pO (l.length + 1) l
theorem wD:∀ (n m:Nat) (l:List UInt8),l.length < n→l.length < m→pO n l=pO m l
 | 0,_,_,h,_ =>absurd h (Nat.not_lt_zero _)
 |_,0,_,_,h=>absurd h (Nat.not_lt_zero _)
 |n + 1,m + 1,l,h1,h2=>by
  unfold pO
  by_cases hp:(iz l).1=true
  ·rw [if_pos hp,if_pos hp]
   by_cases hn:bO 44 (l.drop (iz l).2.2)=true
   ·have:=gj hn
    rw [if_pos hn,if_pos hn,wD n m _ lT lT]
   ·rw [if_neg hn,if_neg hn]
  ·rw [if_neg hp,if_neg hp]
theorem mI (l:List UInt8):
 gV l=if (iz l).1=true then (if bO 44 (l.drop (iz l).2.2)=true then ((gV (l.drop ((iz l).2.2 + 1))).1,(iz l).2.1 :: (gV (l.drop ((iz l).2.2 + 1))).2.1,(iz l).2.2 + 1 + (gV (l.drop ((iz l).2.2 + 1))).2.2) else (true,[(iz l).2.1],(iz l).2.2)) else (false,[(iz l).2.1],(iz l).2.2):=by
 unfold gV
 rw [pO]
 by_cases hp:(iz l).1=true
 ·rw [if_pos hp,if_pos hp]
  by_cases hn:bO 44 (l.drop (iz l).2.2)=true
  ·have:=gj hn
   rw [if_pos hn,if_pos hn,wD l.length ((l.drop ((iz l).2.2 + 1)).length + 1) _ lT ak]
  ·rw [if_neg hn,if_neg hn]
 ·rw [if_neg hp,if_neg hp]
theorem xW:∀ (n:Nat) (l:List UInt8),l.length < n→(gV l).2.2≤l.length
 | 0,_,h=>absurd h (Nat.not_lt_zero _)
 |n + 1,l,h=>by
  rw [mI]
  have hl:=F7 l
  by_cases hp:(iz l).1=true
  ·rw [if_pos hp]
   by_cases hn:bO 44 (l.drop (iz l).2.2)=true
   ·have h1:=gj hn
    have h2:=xW n (l.drop ((iz l).2.2 + 1)) lT
    rw [List.length_drop] at h2
    rw [if_pos hn]
    show _ + 1 + _≤_
    omega
   ·rw [if_neg hn]
    exact hl
  ·rw [if_neg hp]
   exact hl
theorem xX (s:ByteArray) (hs:s.size < 4294967281):∀ (k p:Nat) (rs:List ByteArray),(rest s p).length + 2 < k→p≤s.size→rs.length + (rest s p).length≤s.size→
 cg.l0 k s (p:Int) rs=some ((gV (rest s p)).1,s,((p + (gV (rest s p)).2.2:Nat):Int),rs ++ (gV (rest s p)).2.1)
 | 0,p,_,h,_,_ =>absurd h ak
 |k + 1,p,rs,h,hp,hr=>by
  have hle:=F7 (rest s p)
  have hrl:=eH s p
  unfold cg.l0
  rw [Ph s hs k p rs ak ak hp,mI]
  simp only [Option.bind_some]
  by_cases h1:(iz (rest s p)).1=true
  ·rw [if_pos h1,if_pos h1,kM s _ 44 44 rfl ak]
   simp only [Option.bind_some,fP]
   by_cases h2:bO 44 ((rest s p).drop (iz (rest s p)).2.2)=true
   ·have h3:=gj h2
    rw [if_pos h2,if_pos h2,if_pos h2]
    have h4:=xX s hs k (p + (iz (rest s p)).2.2 + 1) (rs ++ [(iz (rest s p)).2.1]) l6 ak (by rw [eH,List.length_append];simp;omega)
    rw [h4,Nat.add_assoc p,fP,List.append_assoc]
    congr 4
    dsimp only
    omega
   ·rw [if_neg h2,if_neg h2,if_neg h2]
  ·rw [if_neg h1,if_neg h1]
def gI (l:List UInt8):Bool:=decide (10 < l.length) && (b7.g (az (l.take 10))).toList == ([112,111,115,116,109,97,115,116,101,114]:List UInt8) && bO 62 (l.drop 10)
theorem DC (s:ByteArray) (p:Nat) (_hp:p≤s.size):kE s (p:Int)=gI (rest s p):=by
 have hrl:=eH s p
 unfold kE gI
 by_cases h:p + 10 < s.size
 ·rw [decide_eq_true ak,decide_eq_true ak]
  have e:s.extract ((p:Int)).toNat ((p:Int) + 10).toNat=az ((rest s p).take 10):=by
   rw [show ((p:Int) + 10).toNat=p + 10 from by omega,Int.toNat_natCast,gF _ _ _ ak,Nat.add_sub_cancel_left]
  rw [e]
  congr 1
  rw [← fP]
  cases hr:rest s (p + 10) with
  |nil=>
   have:=ni hr
   omega
  |cons b l=>
   obtain ⟨_,h2,_⟩:=ld hr
   rw [show ((p:Int) + 10)=((p + 10:Nat):Int) from by omega,h2]
   show ((b.toNat:Int) == 62)=(b == 62)
   by_cases hb:b=62
   ·subst hb;rfl
   ·rw [beq_eq_false_iff_ne.mpr hb,beq_eq_false_iff_ne.mpr (show (b.toNat:Int)≠62 from fun h=>hb (toNat_eq (b:=62) h))]
 ·rw [decide_eq_false ak,decide_eq_false ak]
  rfl
def gq (l:List UInt8):Bool×List ByteArray×ByteArray×ByteArray×Bool×Nat:=
 if gI l=true then (true,[],fN,⟨#[]⟩,false,10)
 else if bO 64 l=true then
  (if (gV l).1=true then
    (if bO 58 (l.drop (gV l).2.2)=true then
      ((jL (l.drop ((gV l).2.2 + 1))).1,(gV l).2.1,(jL (l.drop ((gV l).2.2 + 1))).2.1,(jL (l.drop ((gV l).2.2 + 1))).2.2.1,(jL (l.drop ((gV l).2.2 + 1))).2.2.2.1,(gV l).2.2 + 1 + (jL (l.drop ((gV l).2.2 + 1))).2.2.2.2)
    else (false,[],⟨#[]⟩,⟨#[]⟩,false,(gV l).2.2))
  else (false,[],⟨#[]⟩,⟨#[]⟩,false,(gV l).2.2))
 else ((jL l).1,[],(jL l).2.1,(jL l).2.2.1,(jL l).2.2.2.1,(jL l).2.2.2.2)
theorem xY (s:ByteArray) (hs:s.size < 4294967281) (k p:Nat) (rs:List ByteArray) (hk:(rest s p).length + 6 < k) (hp:p≤s.size):
 bW.f3 k s (p:Int) rs=some (false,rs,(jL (rest s p)).2.1,(jL (rest s p)).2.2.1,(jL (rest s p)).2.2.2.1,(jL (rest s p)).1,s,((p + (jL (rest s p)).2.2.2.2:Nat):Int)):=by
 unfold bW.f3
 rw [Pg s hs k p hk hp]
 rfl
theorem F8 (l:List UInt8):((FY l).toNat:Int)=64↔bO 64 l=true:=by
 cases l with
 |nil=>simp [FY,bO]
 |cons b l=>
  show (b.toNat:Int)=64↔(b == 64)=true
  rw [beq_iff_eq]
  exact ⟨fun h=>toNat_eq (b:=64) h,fun h=>by rw [h];rfl⟩
theorem inner_eq (s:ByteArray) (hs:s.size < 4294967281) (k p:Nat) (hk:(rest s p).length + 6 < k) (hp:p≤s.size):
 bW.f k s (p:Int)=some (false,(gq (rest s p)).2.1,(gq (rest s p)).2.2.1,(gq (rest s p)).2.2.2.1,(gq (rest s p)).2.2.2.2.1,(gq (rest s p)).1,s,((p + (gq (rest s p)).2.2.2.2.2:Nat):Int)):=by
 have hrl:=eH s p
 unfold bW.f gq
 rw [if_pos ⟨ak,ak,ak⟩,DC s p hp]
 by_cases h0:gI (rest s p)=true
 ·rw [if_pos h0,if_pos h0]
  rfl
 ·rw [if_neg h0,if_neg h0]
  unfold bW.f2
  rw [FZ]
  simp only [Option.bind_some]
  by_cases h1:bO 64 (rest s p)=true
  ·have hle:=xW _ (rest s p) (Nat.lt_succ_self _)
   rw [if_pos ((F8 _).mpr h1),if_pos h1,xX s hs k p [] ak hp (by simp;omega)]
   simp only [Option.bind_some]
   by_cases h2:(gV (rest s p)).1=true
   ·rw [if_pos h2,if_pos h2,kM s _ 58 58 rfl ak]
    simp only [Option.bind_some,fP]
    by_cases h3:bO 58 ((rest s p).drop (gV (rest s p)).2.2)=true
    ·have h3':=gj h3
     rw [if_pos h3,if_pos h3,if_pos h3,Nat.add_assoc p,xY s hs k _ _ l6 ak,fP,List.nil_append,Nat.add_assoc p]
    ·rw [if_neg h3,if_neg h3,if_neg h3]
   ·rw [if_neg h2,if_neg h2]
  ·rw [if_neg (fun h=>h1 ((F8 _).mp h)),if_neg h1,xY s hs k p [] hk hp]
theorem DD (x:ByteArray) (k:Nat) (hk:x.size + 2 < k):∃ r,dJ.f k x=some r:=by
 unfold dJ.f
 split
 ·rename_i h
  have hn:=wC 46 x
  rw [qQ x 46 ak]
  simp only [Option.bind_some]
  obtain ⟨r,hr⟩:=xy 0 k (xs:=(pieces 46 x.data.toList).map az) (fun y _ _ _ =>⟨_,rfl⟩) ak ak
  unfold bA.f
  rw [hr]
  exact ⟨_,rfl⟩
 ·exact ⟨_,rfl⟩
end Go.Proofs.YtokpnfljjjjikaaGreatDoor.ia
namespace Go.Proofs.YtokpnfljjjjikaaGreatDoor.ia
open Go.RowKit Go.Proofs.YtokpnfljjjjikaaGreatDoor Go.Proofs.YtokpnfljjjjikaaGreatDoor.lO Go.Proofs.aj.bw Go.Proofs.aj.cj
def Agree (n:Nat) (l l2:List UInt8):Prop:=l2.take (n + 1)=l.take (n + 1)
theorem Agree.le {n m:Nat} {l l2:List UInt8} (h:Agree n l l2) (hm:m≤n):Agree m l l2:=by
 unfold Agree at h ⊢
 have:=congrArg (List.take (m + 1)) h
 rwa [List.take_take,List.take_take,Nat.min_eq_left ak] at this
theorem Agree.drop {n a:Nat} {l l2:List UInt8} (h:Agree (a + n) l l2):Agree n (l.drop a) (l2.drop a):=by
 unfold Agree at h ⊢
 rw [List.take_drop,List.take_drop,show a + (n + 1)=a + n + 1 from rfl,h]
theorem Agree.take {n m:Nat} {l l2:List UInt8} (h:Agree n l l2) (hm:m≤n + 1):l2.take m=l.take m:=by
 cases m with
 |zero=>simp
 |succ m=>exact h.le ak
end Go.Proofs.YtokpnfljjjjikaaGreatDoor.ia
namespace Go.Proofs.YtokpnfljjjjikaaGreatDoor.ia
open Go.RowKit Go.Proofs.YtokpnfljjjjikaaGreatDoor Go.Proofs.YtokpnfljjjjikaaGreatDoor.lO Go.Proofs.aj.bw Go.Proofs.aj.cj
def tL (l:List UInt8):Bool:=bO 60 l && bO 62 (l.drop 1)
def GP (l:List UInt8):Bool:=bO 60 l && (gq (l.drop 1)).1 && bO 62 (l.drop (1 + (gq (l.drop 1)).2.2.2.2.2))
end Go.Proofs.YtokpnfljjjjikaaGreatDoor.ia
namespace Go.Proofs.YtokpnfljjjjikaaGreatDoor.ia
open Go.RowKit Go.Proofs.YtokpnfljjjjikaaGreatDoor Go.Proofs.YtokpnfljjjjikaaGreatDoor.lO Go.Proofs.aj.bw Go.Proofs.aj.cj
set_option linter.unusedVariables false
set_option linter.unusedSimpArgs false
def jM (P:UInt8→Bool) (t:List UInt8):Prop:=∀ b t',t=b :: t'→P b=false
theorem uN {P:UInt8→Bool} {t:List UInt8} (h:jM P t):∀ l:List UInt8,(l ++ t).takeWhile P=l.takeWhile P
 | []=>by
   cases t with
   |nil=>rfl
   |cons b t=>rw [List.nil_append,List.takeWhile_cons_of_neg (by rw [h b t rfl];decide)];rfl
 |b :: l=>by
  by_cases hb:P b=true
  ·rw [List.cons_append,List.takeWhile_cons_of_pos hb,List.takeWhile_cons_of_pos hb,uN h l]
  ·rw [List.cons_append,List.takeWhile_cons_of_neg hb,List.takeWhile_cons_of_neg hb]
theorem F9 (P:UInt8→Bool):∀ l:List UInt8,jM P (l.drop (l.takeWhile P).length)
 | []=>by intro b t' h;simp at h
 |b :: l=>by
  by_cases hb:P b=true
  ·rw [List.takeWhile_cons_of_pos hb]
   exact F9 P l
  ·rw [List.takeWhile_cons_of_neg hb]
   intro c t' h
   cases h
   exact Bool.eq_false_iff.mpr hb
theorem GQ {c:UInt8} {l t:List UInt8} {n:Nat} (hn:n≤l.length) (h:bO c t=false):bO c ((l ++ t).drop n)=bO c (l.drop n):=by
 rw [List.drop_append_of_le_length hn]
 cases l.drop n with
 |nil=>rw [List.nil_append,h];rfl
 |cons b l=>rfl
theorem tM {t:List UInt8} (h:jM gh t) (l:List UInt8):dw (l ++ t)=dw l:=by
 unfold dw
 rw [uN h l]
theorem DF {t:List UInt8} (h:jM fQ t) (l:List UInt8):fJ (l ++ t)=fJ l:=by
 unfold fJ
 rw [uN h l]
theorem qR {part:List UInt8→Bool×Nat} {c:UInt8} {t:List UInt8} (hp:∀ l,(part l).2≤l.length) (hpt:∀ l,part (l ++ t)=part l) (hc:bO c t=false):
 ∀ (n:Nat) (l:List UInt8),l.length < n→eI part c (l ++ t)=eI part c l
 | 0,_,h=>absurd h (Nat.not_lt_zero _)
 |n + 1,l,h=>by
  rw [gH part c (l ++ t),gH part c l,hpt,GQ (hp l) hc]
  by_cases h1:(part l).1=true
  ·rw [if_pos h1,if_pos h1]
   by_cases h2:bO c (l.drop (part l).2)=true
   ·have h3:=gj h2
    rw [if_pos h2,if_pos h2,List.drop_append_of_le_length ak,qR hp hpt hc n _ lT]
   ·rw [if_neg h2,if_neg h2]
  ·rw [if_neg h1,if_neg h1]
theorem pP {t:List UInt8} (h:jM gh t) (h2:bO 46 t=false) (l:List UInt8):eI dw 46 (l ++ t)=eI dw 46 l:=
 qR sO (tM h) h2 _ l (Nat.lt_succ_self _)
theorem wE {t:List UInt8} (h:jM fQ t) (h2:bO 46 t=false) (l:List UInt8):eI fJ 46 (l ++ t)=eI fJ 46 l:=
 qR rV (DF h) h2 _ l (Nat.lt_succ_self _)
def dI (b:UInt8):UInt8:=UInt8.ofNat (zj (b.toNat:Int)).toNat
theorem jN (l:List UInt8):b7.g (az l)=az (l.map dI):=by
 unfold b7.g strOfNums bytesOf az
 congr 1
 simp only [List.map_map]
 rfl
theorem MX (b:UInt8):gh (dI b)=gh b:=ez (Q:=fun b=>gh (dI b)=gh b) ey b
theorem MZ (b:UInt8):dI (dI b)=dI b:=ez (Q:=fun b=>dI (dI b)=dI b) ey b
theorem JY (b:UInt8):(dI b != 45)=(b != 45):=ez (Q:=fun b=>(dI b != 45)=(b != 45)) ey b
theorem JZ (b:UInt8):(dI b == 46)=(b == 46):=ez (Q:=fun b=>(dI b == 46)=(b == 46)) ey b
theorem BK (l:List UInt8):(l.map dI).map dI=l.map dI:=by
 rw [List.map_map]
 congr 1
 funext b
 exact MZ b
theorem Pj (l:List UInt8):(l.map dI).takeWhile gh=(l.takeWhile gh).map dI:=by
 rw [List.takeWhile_map]
 congr 2
 funext b
 exact MX b
theorem J0 (l:List UInt8) (n:Nat):(l.map dI).getD n 0=dI (l.getD n 0):=by
 rw [List.getD_eq_getElem?_getD,List.getD_eq_getElem?_getD,List.getElem?_map]
 cases l[n]? with
 |none=>rfl
 |some b=>rfl
theorem DG (l:List UInt8):dw (l.map dI)=dw l:=by
 unfold dw
 rw [Pj,List.length_map]
 cases l.takeWhile gh with
 |nil=>rfl
 |cons c t=>
  show (dI c != 45 && ((c :: t).map dI).getD (t.map dI).length 0 != 45,_)=(c != 45 && (c :: t).getD t.length 0 != 45,_)
  rw [J0,JY,JY,List.length_map]
theorem J1 (l:List UInt8):bO 46 (l.map dI)=bO 46 l:=by
 cases l with
 |nil=>rfl
 |cons b l=>exact JZ b
theorem wF:∀ (n:Nat) (l:List UInt8),l.length < n→eI dw 46 (l.map dI)=eI dw 46 l
 | 0,_,h=>absurd h (Nat.not_lt_zero _)
 |n + 1,l,h=>by
  rw [gH dw 46 (l.map dI),gH dw 46 l,DG,← List.map_drop,J1]
  by_cases h1:(dw l).1=true
  ·rw [if_pos h1,if_pos h1]
   by_cases h2:bO 46 (l.drop (dw l).2)=true
   ·have h3:=gj h2
    rw [if_pos h2,if_pos h2,← List.map_drop,wF n _ lT]
   ·rw [if_neg h2,if_neg h2]
  ·rw [if_neg h1,if_neg h1]
def Pk (l:List UInt8):List UInt8:=(l.take (eI dw 46 l).2).map dI
theorem xZ (l:List UInt8):(mz l).2.1=az (Pk l):=jN _
def wG (b:UInt8):Prop:=¬ (b < 32∨126 < b)
instance (b:UInt8):Decidable (wG b):=by unfold wG;infer_instance
theorem wH (b:UInt8):fQ b=true→b≠34:=ez (Q:=fun b=>fQ b=true→b≠34) ey b
def qB (b:UInt8):List UInt8:=if b=34∨b=92 then [92,b] else [b]
def qL (l:List UInt8):List UInt8:=l.flatMap qB
theorem wI (t:List UInt8):∀ (l acc:List UInt8),(∀ b,b∈l→wG b)→fq (qL l ++ 34 :: t) acc=(true,acc ++ l,(qL l).length + 1)
 | [],acc,_ =>by
   show fq (34 :: t) acc=_
   unfold fq
   simp [qL]
 |b :: l,acc,h=>by
  have hf:=h b (List.mem_cons_self ..)
  have ih:=wI t l (acc ++ [b]) (fun x hx=>h x (List.mem_cons_of_mem _ hx))
  have e:qL (b :: l)=qB b ++ qL l:=rfl
  rw [e,List.append_assoc]
  unfold qB
  by_cases hb:b=34∨b=92
  ·rw [if_pos hb]
   show fq (92 :: b :: (qL l ++ 34 :: t)) acc=_
   unfold fq
   rw [if_neg bg,if_pos rfl]
   simp only
   rw [if_neg hf,ih]
   simp
  ·rw [if_neg hb]
   show fq (b :: (qL l ++ 34 :: t)) acc=_
   unfold fq
   rw [if_neg (fun h=>hb (.inl h)),if_neg (fun h=>hb (.inr h)),if_neg hf,ih]
   simp
def Aa (l:List UInt8):Bool:=(eI fJ 46 l).1 && (eI fJ 46 l).2 == l.length
def gW (l:List UInt8):List UInt8:=if Aa l=true then l else 34 :: (qL l ++ [34])
theorem qT (l t:List UInt8) (h:∀ b,b∈l→wG b) (ht:jM fQ t) (h2:bO 46 t=false):dB (gW l ++ t)=(true,az l,(gW l).length):=by
 unfold gW
 by_cases hp:Aa l=true
 ·rw [if_pos hp]
  unfold Aa at hp
  simp only [Bool.and_eq_true,beq_iff_eq] at hp
  have hn:bO 34 (l ++ t)=false:=by
   have h1:(eI fJ 46 l).1=true:=hp.1
   rw [gH] at h1
   cases l with
   |nil=>simp [fJ] at h1
   |cons b l=>
    have hb:fQ b=true:=by
     by_cases hb:fQ b=true
     ·exact hb
     ·exfalso
      have:(fJ (b :: l)).1=false:=by
       unfold fJ
       rw [List.takeWhile_cons_of_neg hb]
       rfl
      rw [this] at h1
      simp at h1
    have:=wH b hb
    show (b == 34)=false
    simpa using this
  unfold dB
  rw [if_neg (by rw [hn];decide),wE ht h2,hp.1,hp.2,List.take_left']
  rfl
 ·rw [if_neg hp]
  unfold dB
  rw [if_pos (show bO 34 (34 :: (qL l ++ [34]) ++ t)=true from rfl)]
  have e:((34:UInt8) :: (qL l ++ [34]) ++ t).drop 1=qL l ++ 34 :: t:=by simp
  rw [e,wI t l [] h]
  simp
  omega
end Go.Proofs.YtokpnfljjjjikaaGreatDoor.ia
namespace Go.Proofs.YtokpnfljjjjikaaGreatDoor.ia
open Go.RowKit Go.Proofs.YtokpnfljjjjikaaGreatDoor Go.Proofs.YtokpnfljjjjikaaGreatDoor.lO Go.Proofs.aj.bw Go.Proofs.aj.cj
set_option linter.unusedVariables false
set_option linter.unusedSimpArgs false
def iV (d:List UInt8):Prop:=eI dw 46 d=(true,d.length)∧d.map dI=d
theorem iV.read {d:List UInt8} (h:iV d) {t:List UInt8} (ht:jM gh t) (h2:bO 46 t=false):mz (d ++ t)=(true,az d,d.length):=by
 unfold mz
 rw [pP ht h2,h.1]
 simp only
 rw [List.take_left',jN,h.2]
 rfl
theorem iV.head {d:List UInt8} (h:iV d):∃ b d',d=b :: d'∧gh b=true:=by
 have h1:(eI dw 46 d).1=true:=by rw [h.1]
 rw [gH] at h1
 cases d with
 |nil=>simp [dw] at h1
 |cons b d'=>
  refine ⟨b,d',rfl,?_⟩
  by_cases hb:gh b=true
  ·exact hb
  ·exfalso
   have:(dw (b :: d')).1=false:=by
    unfold dw
    rw [List.takeWhile_cons_of_neg hb]
   rw [this] at h1
   simp at h1
theorem GR (b:UInt8):gh b=true→(b == 91)=false:=ez (Q:=fun b=>gh b=true→(b == 91)=false) ey b
structure nZ (lo dom:List UInt8) (lit:Bool):Prop where
 los:∀ b,b∈lo→wG b
 doms:lit=false→iV dom
 words:lit=true→DA (az dom)=true∧(∀ b,b∈dom→gS b=true)∧dom.map dI=dom
def gm (lo dom:List UInt8) (lit:Bool):List UInt8:=gW lo ++ (if lit=true then 64 :: 91 :: (dom ++ [93]) else 64 :: dom)
theorem Ga (t:List UInt8):jM fQ (64 :: t):=by
 intro b t' e
 cases e
 decide +kernel
theorem DI {P:UInt8→Bool} {t:List UInt8} (ht:jM P t):∀ l:List UInt8,(∀ b,b∈l→P b=true)→(l ++ t).takeWhile P=l
 | [],_ =>by
   cases t with
   |nil=>rfl
   |cons b t=>rw [List.nil_append,List.takeWhile_cons_of_neg (by rw [ht b t rfl];decide)]
 |b :: l,h=>by rw [List.cons_append,List.takeWhile_cons_of_pos (h b (List.mem_cons_self ..)),DI ht l (fun x hx=>h x (List.mem_cons_of_mem _ hx))]
theorem drop_left (l t:List UInt8) (n:Nat):(l ++ t).drop (l.length + n)=t.drop n:=by
 rw [← List.drop_drop,List.drop_left]
theorem J2 {lo dom:List UInt8} {lit:Bool} (h:nZ lo dom lit) {t:List UInt8} (ht:jM gh t) (h2:bO 46 t=false):
 jL (gm lo dom lit ++ t)=(true,az lo,az dom,lit,(gm lo dom lit).length):=by
 unfold gm
 cases lit with
 |true=>
  obtain ⟨hl,hw,hs⟩:=h.words rfl
  simp only [if_true]
  rw [List.append_assoc]
  have e0:((64:UInt8) :: 91 :: (dom ++ [93])) ++ t=64 :: 91 :: (dom ++ 93 :: t):=by simp
  rw [e0]
  have e1:=qT lo (64 :: 91 :: (dom ++ 93 :: t)) h.los (Ga _) rfl
  unfold jL
  rw [e1]
  simp only
  rw [if_pos trivial,show ((gW lo ++ 64 :: 91 :: (dom ++ 93 :: t)).drop (gW lo).length)=64 :: 91 :: (dom ++ 93 :: t) from List.drop_left]
  rw [if_pos (show bO 64 (64 :: 91 :: (dom ++ 93 :: t))=true from rfl),drop_left _ _ 1]
  rw [if_pos (show bO 91 ((64 :: 91 :: (dom ++ 93 :: t)).drop 1)=true from rfl),drop_left _ _ 2]
  have e2:((64:UInt8) :: 91 :: (dom ++ 93 :: t)).drop 2=dom ++ 93 :: t:=rfl
  rw [e2,DI (P:=gS) (t:=93 :: t) (by intro b t' e;cases e;rfl) dom hw,Nat.add_assoc,drop_left _ _ (2 + dom.length)]
  have e3:((64:UInt8) :: 91 :: (dom ++ 93 :: t)).drop (2 + dom.length)=93 :: t:=by
   rw [← List.drop_drop,e2,List.drop_left]
  rw [e3,if_pos (show bO 93 (93 :: t)=true from rfl),hl,jN,hs]
  simp
  omega
 |false=>
  have hd:=h.doms rfl
  obtain ⟨b,d',hb,hlb⟩:=hd.head
  simp only [Bool.false_eq_true,if_false]
  rw [List.append_assoc]
  have e1:=qT lo ((64 :: dom) ++ t) h.los (by rw [List.cons_append];exact Ga _) rfl
  unfold jL
  rw [e1]
  simp only
  rw [if_pos trivial,show ((gW lo ++ ((64 :: dom) ++ t)).drop (gW lo).length)=(64 :: dom) ++ t from List.drop_left]
  rw [if_pos (show bO 64 ((64 :: dom) ++ t)=true from rfl),drop_left _ _ 1]
  have e2:(((64:UInt8) :: dom) ++ t).drop 1=dom ++ t:=rfl
  rw [e2,if_neg (by rw [hb];show ¬ (b == 91)=true;rw [GR b hlb];decide),hd.read ht h2]
  simp
  omega
def cv:List (List UInt8)→List UInt8
 | []=>[]
 | [d]=>64 :: d
 |d :: ds=>64 :: (d ++ 44 :: cv ds)
theorem kj (c:UInt8) (h:gh c=false) (t:List UInt8):jM gh (c :: t):=by
 intro b t' e
 cases e
 exact h
theorem wJ (t:List UInt8):∀ ds:List (List UInt8),ds≠ []→(∀ d,d∈ds→iV d)→gV (cv ds ++ 58 :: t)=(true,ds.map az,(cv ds).length)
 | [],h,_ =>absurd rfl h
 | [d],_,h=>by
   have hd:=h d (List.mem_cons_self ..)
   rw [mI]
   have e:iz (cv [d] ++ 58 :: t)=(true,az d,1 + d.length):=by
    unfold iz
    rw [if_pos (show bO 64 (cv [d] ++ 58 :: t)=true from rfl)]
    have e2:(cv [d] ++ 58 :: t).drop 1=d ++ 58 :: t:=rfl
    rw [e2,hd.read (kj 58 ey t) rfl]
   rw [e]
   have e3:(cv [d] ++ 58 :: t).drop (1 + d.length)=58 :: t:=by
    show ((64:UInt8) :: (d ++ 58 :: t)).drop (1 + d.length)=_
    rw [Nat.add_comm,List.drop_succ_cons,List.drop_left]
   simp only [if_true]
   rw [e3,if_neg (show ¬ bO 44 (58 :: t)=true by simp [bO])]
   simp [cv]
   omega
 |d :: d2 :: ds,_,h=>by
  have hd:=h d (List.mem_cons_self ..)
  have ih:=wJ t (d2 :: ds) bB (fun x hx=>h x (List.mem_cons_of_mem _ hx))
  have e0:cv (d :: d2 :: ds) ++ 58 :: t=64 :: (d ++ 44 :: (cv (d2 :: ds) ++ 58 :: t)):=by
   show (64 :: (d ++ 44 :: cv (d2 :: ds))) ++ 58 :: t=_
   simp
  rw [mI,e0]
  have e:iz (64 :: (d ++ 44 :: (cv (d2 :: ds) ++ 58 :: t)))=(true,az d,1 + d.length):=by
   unfold iz
   rw [if_pos (show bO 64 (64 :: (d ++ 44 :: (cv (d2 :: ds) ++ 58 :: t)))=true from rfl)]
   have e2:((64:UInt8) :: (d ++ 44 :: (cv (d2 :: ds) ++ 58 :: t))).drop 1=d ++ 44 :: (cv (d2 :: ds) ++ 58 :: t):=rfl
   rw [e2,hd.read (kj 44 ey _) rfl]
  rw [e]
  have e3:((64:UInt8) :: (d ++ 44 :: (cv (d2 :: ds) ++ 58 :: t))).drop (1 + d.length)=44 :: (cv (d2 :: ds) ++ 58 :: t):=by
   rw [Nat.add_comm,List.drop_succ_cons,List.drop_left]
  have e4:((64:UInt8) :: (d ++ 44 :: (cv (d2 :: ds) ++ 58 :: t))).drop (1 + d.length + 1)=cv (d2 :: ds) ++ 58 :: t:=by
   rw [← List.drop_drop,e3]
   rfl
  simp only [if_true]
  rw [e3,if_pos (show bO 44 (44 :: (cv (d2 :: ds) ++ 58 :: t))=true from rfl),e4,ih]
  simp [cv]
  omega
theorem J3 (b:UInt8):dI b∈([112,111,115,116,109,97,115,116,101,114]:List UInt8)→fQ b=true:=ez (Q:=fun b=>dI b∈([112,111,115,116,109,97,115,116,101,114]:List UInt8)→fQ b=true) ey b
theorem x9 (l:List UInt8) (h:gI l=true):(jL l).1=false:=by
 unfold gI at h
 simp only [Bool.and_eq_true,decide_eq_true_eq] at h
 obtain ⟨⟨h1,h2⟩,h3⟩:=h
 rw [jN,ByteArray.toList_eq] at h2
 have h2':(l.take 10).map dI= [112,111,115,116,109,97,115,116,101,114]:=by simpa [az] using h2
 have ha:∀ b,b∈l.take 10→fQ b=true:=fun b hb=>J3 b (by rw [← h2'];exact List.mem_map_of_mem hb)
 obtain ⟨c,t,hc⟩:∃ c t,l.drop 10=c :: t:=by
  cases hd:l.drop 10 with
  |nil=>rw [hd] at h3;cases h3
  |cons c t=>exact ⟨c,t,rfl⟩
 have abu:c=62:=by rw [hc] at h3;simpa [bO] using h3
 subst abu
 have e:l=l.take 10 ++ 62 :: t:=by rw [← hc,List.take_append_drop]
 have hlen:(l.take 10).length=10:=by rw [List.length_take];omega
 have hst:jM fQ (62 :: t):=by
  intro b t' e
  cases e
  decide +kernel
 have htw:l.takeWhile fQ=l.take 10:=by
  conv=>lhs;rw [e]
  exact DI hst _ ha
 have hat:fJ l=(true,10):=by
  unfold fJ
  rw [htw,hlen]
  rfl
 have hli:eI fJ 46 l=(true,10):=by
  rw [gH,hat]
  simp only [if_true]
  rw [hc,if_neg (show ¬ bO 46 (62 :: t)=true by simp [bO])]
 have hn:bO 34 l=false:=by
  cases hl:l with
  |nil=>rfl
  |cons b l'=>
   have hb:fQ b=true:=ha b (by rw [hl];simp)
   show (b == 34)=false
   simpa using wH b hb
 have hlo:dB l=(true,az (l.take 10),10):=by
  unfold dB
  rw [if_neg (by rw [hn];decide),hli]
 unfold jL
 rw [hlo]
 simp only [if_true]
 rw [hc,if_neg (show ¬ bO 64 (62 :: t)=true by simp [bO])]
theorem BL (l:List UInt8):gI (64 :: l)=false:=by
 cases h:gI (64 :: l) with
 |false=>rfl
 |true=>
  exfalso
  unfold gI at h
  simp only [Bool.and_eq_true,decide_eq_true_eq] at h
  obtain ⟨⟨h1,h2⟩,h3⟩:=h
  rw [jN,ByteArray.toList_eq] at h2
  have h2':((64 :: l).take 10).map dI= [112,111,115,116,109,97,115,116,101,114]:=by simpa [az] using h2
  rw [List.take_succ_cons,List.map_cons] at h2'
  have:=(List.cons.inj h2').1
  revert this
  decide
def fT (ds:List (List UInt8)) (lo dom:List UInt8) (lit:Bool):List UInt8:=match ds with
 | []=>gm lo dom lit
 |_ =>cv ds ++ 58 :: gm lo dom lit
theorem nD (ds:List (List UInt8)) (h:ds≠ []):∃ l,cv ds=64 :: l:=by
 match ds,h with
 | [d],_ =>exact ⟨_,rfl⟩
 |d :: d2 :: ds,_ =>exact ⟨_,rfl⟩
theorem wK {ds:List (List UInt8)} {lo dom:List UInt8} {lit:Bool} (hds:∀ d,d∈ds→iV d) (h:nZ lo dom lit) (t:List UInt8):
 gq (fT ds lo dom lit ++ 62 :: t)=(true,ds.map az,az lo,az dom,lit,(fT ds lo dom lit).length):=by
 have hb:=J2 h (t:=62 :: t) (kj 62 ey t) rfl
 cases ds with
 |nil=>
  show gq (gm lo dom lit ++ 62 :: t)=_
  unfold gq
  have ha:gI (gm lo dom lit ++ 62 :: t)=false:=by
   cases ha:gI (gm lo dom lit ++ 62 :: t) with
   |false=>rfl
   |true=>
    have:=x9 _ ha
    rw [hb] at this
    cases this
  have hn:bO 64 (gm lo dom lit ++ 62 :: t)=false:=by
   cases hn:bO 64 (gm lo dom lit ++ 62 :: t) with
   |false=>rfl
   |true=>
    exfalso
    have h1:(jL (gm lo dom lit ++ 62 :: t)).1=true:=by rw [hb]
    generalize gm lo dom lit ++ 62 :: t=l at hn h1
    cases l with
    |nil=>cases hn
    |cons b l=>
     have abw:b=64:=by simpa [bO] using hn
     subst abw
     have hlo:(dB (64 :: l)).1=false:=by
      unfold dB
      rw [if_neg (show ¬ bO 34 (64 :: l)=true by simp [bO])]
      show (eI fJ 46 (64 :: l)).1=false
      rw [gH]
      have:(fJ (64 :: l)).1=false:=by
       unfold fJ
       rw [List.takeWhile_cons_of_neg ey]
       rfl
      rw [this]
      rfl
     unfold jL at h1
     rw [hlo] at h1
     simp at h1
  rw [if_neg (by rw [ha];decide),if_neg (by rw [hn];decide),hb]
  rfl
 |cons d ds=>
  show gq ((cv (d :: ds) ++ 58 :: gm lo dom lit) ++ 62 :: t)=_
  rw [List.append_assoc,List.cons_append]
  have hr:=wJ (gm lo dom lit ++ 62 :: t) (d :: ds) bB hds
  obtain ⟨l,hl⟩:=nD (d :: ds) bB
  have hh:cv (d :: ds) ++ 58 :: (gm lo dom lit ++ 62 :: t)=64 :: (l ++ 58 :: (gm lo dom lit ++ 62 :: t)):=by rw [hl];rfl
  unfold gq
  rw [if_neg (by rw [hh,BL];decide),if_pos (by rw [hh];rfl),hr]
  simp only [if_true]
  rw [List.drop_left,if_pos (show bO 58 (58 :: (gm lo dom lit ++ 62 :: t))=true from rfl),drop_left _ _ 1]
  have e:((58:UInt8) :: (gm lo dom lit ++ 62 :: t)).drop 1=gm lo dom lit ++ 62 :: t:=rfl
  rw [e,hb]
  simp [fT]
  omega
end Go.Proofs.YtokpnfljjjjikaaGreatDoor.ia
namespace Go.Proofs.YtokpnfljjjjikaaGreatDoor.ia
open Go.RowKit Go.Proofs.YtokpnfljjjjikaaGreatDoor Go.Proofs.YtokpnfljjjjikaaGreatDoor.lO Go.Proofs.aj.bw Go.Proofs.aj.cj
set_option linter.unusedVariables false
set_option linter.unusedSimpArgs false
theorem ya {g:ByteArray→Bool} {xs:List ByteArray} (hf:∀ y,y∈xs→dV.f y=some (g y)):∀ (k i:Nat),xs.length - i < k→i≤xs.length→xs.length < 4611686018427387904→
 ∃ r,au.l0 k xs (xs.length:Int) (i:Int)=some r∧decide (r≥0)=(xs.drop i).any g
 | 0,_,h,_,_ =>absurd h (Nat.not_lt_zero _)
 |k + 1,i,h,hi,hl=>by
  unfold au.l0
  by_cases hlt:i < xs.length
  ·rw [if_pos ak,if_pos ak,if_pos ak]
   have hrd:jv ByteArray.empty xs (i:Int)=xs[i]:=by simp [jv,hlt]
   have hd:xs.drop i=xs[i] :: xs.drop (i + 1):=List.drop_eq_getElem_cons hlt
   rw [hrd,hf xs[i] (List.getElem_mem hlt),hd,List.any_cons]
   simp only [Option.bind_some]
   cases hg:g xs[i] with
   |true=>exact ⟨_,if_pos rfl,bB⟩
   |false=>
    rw [if_neg bg,lY i ak]
    obtain ⟨r,h1,h2⟩:=ya hf k (i + 1) ak ak hl
    exact ⟨r,h1,by rw [h2];rfl⟩
  ·rw [if_neg ak,List.drop_of_length_le ak]
   exact ⟨_,rfl,rfl⟩
theorem Pm {g:ByteArray→Bool} {xs:List ByteArray} (hf:∀ y,y∈xs→dV.f y=some (g y)) (k:Nat) (hk:xs.length < k) (hl:xs.length < 4611686018427387904):aV.f k xs=some (xs.any g):=by
 obtain ⟨r,h1,h2⟩:=ya hf k 0 ak (Nat.zero_le _) hl
 unfold aV.f au.f
 rw [show (0:Int)=((0:Nat):Int) from rfl,h1]
 simp only [Option.bind_some]
 rw [show decide (r≥((0:Nat):Int))=decide (r≥0) from rfl,h2,List.drop_zero]
def iN (l:List UInt8):Bool:=(pu 10 255 (az l)).isNone || decide (3 < l.length)
def mA (l:List UInt8):Int:=if l.length=0 then 0 else if (pieces 58 l).any (fun p=>eN (az p)) then -1 else ((pieces 58 l).length:Int)
def xz (l:List UInt8):Bool:=
 if (Lib.cut l [58,58]).2.2=true then (decide (0≤mA (Lib.cut l [58,58]).1) && (decide (0≤mA (Lib.cut l [58,58]).2.1) && decide (mA (Lib.cut l [58,58]).1 + mA (Lib.cut l [58,58]).2.1≤6)))
 else mA (Lib.cut l [58,58]).1 == 8
def rY (l:List UInt8):Bool:=decide ((pieces 46 l).length=4) && !((pieces 46 l).any iN)
def lW (l:List UInt8):Bool:=decide (5 < l.length) && ((l.take 5).map dI == [105,112,118,54,58])
def qU (l:List UInt8):Bool:=if lW l=true then xz (l.drop 5) else rY l
theorem yc (l:List UInt8) (hl:l.length < 4294967281):dA.f (az l)=some (mA l):=by
 unfold dA.f mA
 rw [if_pos (by exact hl)]
 congr 1
 rw [bT]
 by_cases h0:l.length=0
 ·rw [if_pos h0,if_pos h0]
 ·rw [if_neg h0,if_neg h0]
  rw [List.any_map]
  rfl
theorem wL (c:UInt8) (l:List UInt8):(pieces c l).length≤l.length + 1:=by
 rw [jH]
 have:=List.count_le_length (a:=c) (l:=l)
 omega
theorem tO (l:List UInt8): -1≤mA l∧mA l≤l.length + 1:=by
 have h:=wL 58 l
 unfold mA
 split
 ·omega
 ·split
  ·omega
  ·omega
theorem M3 (l:List UInt8):(Lib.cut l [58,58]).1.length≤l.length∧(Lib.cut l [58,58]).2.1.length≤l.length:=by
 unfold Lib.cut
 split
 ·refine ⟨?_,?_⟩
  ·rw [List.length_take];omega
  ·rw [List.length_drop];omega
 ·exact ⟨Nat.le_refl _,Nat.zero_le _⟩
theorem Pn (l:List UInt8) (hl:l.length < 4294967281):lC.f (az l)=some (xz l):=by
 obtain ⟨h1,h2⟩:=M3 l
 have g1:=tO (Lib.cut l [58,58]).1
 have g2:=tO (Lib.cut l [58,58]).2.1
 unfold lC.f strings_Cut.f
 rw [if_pos (by exact hl)]
 simp only [Option.bind_some]
 show ((dA.f (az (Lib.cut l [58,58]).1)).bind fun t151=>((dA.f (az (Lib.cut l [58,58]).2.1)).bind fun t152=>_))=some (xz l)
 rw [yc _ ak,yc _ ak]
 simp only [Option.bind_some]
 show (if (Lib.cut l [58,58]).2.2=true then _ else _)=_
 unfold xz
 by_cases hg:(Lib.cut l [58,58]).2.2=true
 ·rw [if_pos hg,if_pos hg]
  by_cases ha: 0≤mA (Lib.cut l [58,58]).1
  ·rw [if_pos ak,decide_eq_true ha,Bool.true_and]
   by_cases hb: 0≤mA (Lib.cut l [58,58]).2.1
   ·rw [if_pos ak,decide_eq_true hb,Bool.true_and]
    have e:wrap64 (mA (Lib.cut l [58,58]).1 + mA (Lib.cut l [58,58]).2.1)=mA (Lib.cut l [58,58]).1 + mA (Lib.cut l [58,58]).2.1:=by unfold wrap64;omega
    rw [e]
   ·rw [if_neg ak,decide_eq_false hb,Bool.false_and]
  ·rw [if_neg ak,decide_eq_false ha,Bool.false_and]
 ·rw [if_neg hg,if_neg hg]
theorem J4 (l:List UInt8) (hl:l.length < 4294967281):dV.f (az l)=some (iN l):=by
 unfold dV.f iN
 rw [if_pos fS]
 rfl
theorem J5 (c:UInt8) (l x:List UInt8) (h:x∈pieces c l):x.length≤l.length:=kC c l x h
theorem qV (l:List UInt8) (hl:l.length < 4294967281) (k:Nat) (hk:l.length + 4 < k):bQ.f k (az l)=some (qU l):=by
 obtain ⟨k,rfl⟩:∃ k',k=k' + 1:=⟨k - 1,ak⟩
 have Oj:bQ.j0 (k + 1) (az l) false=some (rY l):=by
  rw [bQ.j0,if_neg bg,qQ _ 46 (by rw [bT];exact hl)]
  simp only [Option.bind_some]
  show (if (((pieces 46 l).map az).length:Int)=4 then _ else _)=_
  unfold rY
  have hp:=wL 46 l
  by_cases h4:(pieces 46 l).length=4
  ·rw [if_pos kU,decide_eq_true h4,Bool.true_and]
   have ha:=Pm (g:=fun y=>iN y.data.toList) (xs:=(pieces 46 l).map az) (fun y hy=>by
    obtain ⟨p,hp,rfl⟩:=List.mem_map.mp hy
    have:=J5 46 l p hp
    exact J4 p ak) k kU kU
   show ((aV.f k ((pieces 46 l).map az)).bind _)=_
   rw [ha]
   simp only [Option.bind_some]
   rw [List.any_map]
   rfl
  ·rw [if_neg kU,decide_eq_false h4,Bool.false_and]
 unfold bQ.f qU
 rw [bT]
 by_cases h5: 5 < l.length
 ·rw [if_pos ak,if_pos bg,if_pos ak]
  have e1:(az l).extract 0 5=az (l.take 5):=by
   have:=gF (az l) 0 5 ak
   exact this
  have hf:b7.f (az (l.take 5))=some (az ((l.take 5).map dI)):=by
   unfold b7.f
   rw [if_pos (by rw [bT,List.length_take];omega),jN]
  rw [e1,hf]
  simp only [Option.bind_some]
  rw [show (az ((l.take 5).map dI)).toList=(l.take 5).map dI from ByteArray.toList_eq ..]
  have hi:lW l=((l.take 5).map dI == [105,112,118,54,58]):=by unfold lW;rw [decide_eq_true h5,Bool.true_and]
  rw [← hi]
  cases hs:lW l with
  |true=>
   rw [if_pos rfl,bQ.j0,if_pos rfl,if_pos fS]
   have e2:(az l).extract 5 (az l).size=az (l.drop 5):=by
    rw [gF (az l) 5 (az l).size fS,bT]
    congr 1
    show (l.drop 5).take (l.length - 5)=l.drop 5
    exact List.take_of_length_le lT
   rw [e2,Pn _ lT]
   rfl
  |false=>
   rw [if_neg bg]
   exact Oj
 ·rw [if_neg ak,Oj,if_neg (by unfold lW;rw [decide_eq_false h5];simp)]
theorem uO (l:List UInt8) (hl:l.length < 4294967281):DA (az l)=qU l:=by
 unfold DA
 rw [qV l hl _ fS]
 rfl
theorem Po (b:UInt8):(dI b == 58)=(b == 58):=ez (Q:=fun b=>(dI b == 58)=(b == 58)) ey b
theorem M4 (b:UInt8):((58:UInt8) == dI b)=((58:UInt8) == b):=ez (Q:=fun b=>((58:UInt8) == dI b)=((58:UInt8) == b)) ey b
theorem M5 (b:UInt8):lV ((dI b).toNat:Int)=lV (b.toNat:Int):=ez (Q:=fun b=>lV ((dI b).toNat:Int)=lV (b.toNat:Int)) ey b
theorem qW {c:UInt8} (hc:∀ b,(dI b == c)=(b == c)):∀ l:List UInt8,pieces c (l.map dI)=(pieces c l).map (fun p=>p.map dI)
 | []=>rfl
 |b :: l=>by
  have ih:=qW hc l
  rw [List.map_cons]
  unfold pieces
  rw [hc b,ih]
  by_cases hb:(b == c)=true
  ·rw [if_pos hb,if_pos hb]
   rfl
  ·rw [if_neg hb,if_neg hb]
   cases pieces c l with
   |nil=>rfl
   |cons p ps=>rfl
theorem wM (l:List UInt8):bytesOf (az l)=l.map fun b=>(b.toNat:Int):=rfl
theorem BM (base most:Int):∀ (l:List UInt8) (n:Int),mQ base most ((l.map dI).map fun b=>(b.toNat:Int)) n=mQ base most (l.map fun b=>(b.toNat:Int)) n
 | [],_ =>rfl
 |b :: l,n=>by
  rw [List.map_cons,List.map_cons,List.map_cons]
  unfold mQ
  rw [M5,BM base most l]
theorem J6 (base most:Int) (l:List UInt8):pu base most (az (l.map dI))=pu base most (az l):=by
 unfold pu
 rw [bT,bT,List.length_map,wM,wM,BM]
theorem BN (l:List UInt8):mA (l.map dI)=mA l:=by
 unfold mA
 rw [List.length_map,qW Po,List.any_map,List.length_map]
 have e:((fun p=>eN (az p)) ∘fun p=>List.map dI p)=fun p=>eN (az p):=by
  funext p
  show eN (az (p.map dI))=eN (az p)
  unfold eN
  rw [J6,bT,bT,List.length_map]
 rw [e]
theorem yf:∀ l:List UInt8,Lib.index (l.map dI) [58,58]=Lib.index l [58,58]
 | []=>rfl
 |b :: l=>by
  rw [List.map_cons]
  unfold Lib.index
  rw [yf l]
  have e:List.isPrefixOf [58,58] (dI b :: l.map dI)=List.isPrefixOf [58,58] (b :: l):=by
   cases l with
   |nil=>simp [List.isPrefixOf]
   |cons c l=>simp only [List.map_cons,List.isPrefixOf,M4]
  rw [e]
theorem M6 (l:List UInt8):Lib.cut (l.map dI) [58,58]=((Lib.cut l [58,58]).1.map dI,(Lib.cut l [58,58]).2.1.map dI,(Lib.cut l [58,58]).2.2):=by
 unfold Lib.cut
 rw [yf]
 split
 ·rw [List.map_take,List.map_drop]
 ·rfl
theorem J7 (l:List UInt8):xz (l.map dI)=xz l:=by
 unfold xz
 rw [M6,BN,BN]
theorem GS (l:List UInt8):rY (l.map dI)=rY l:=by
 unfold rY
 rw [qW JZ,List.length_map,List.any_map]
 have e:(iN ∘fun p=>List.map dI p)=iN:=by
  funext p
  show iN (p.map dI)=iN p
  unfold iN
  rw [J6,List.length_map]
 rw [e]
theorem J8 (l:List UInt8):qU (l.map dI)=qU l:=by
 have h:lW (l.map dI)=lW l:=by
  unfold lW
  rw [List.length_map,← List.map_take,BK]
 unfold qU
 rw [h,← List.map_drop,J7,GS]
theorem jV (c:UInt8):∀ (l:List UInt8) (b:UInt8),b∈l→b=c∨∃ p,p∈pieces c l∧b∈p
 | [],_,h=>by cases h
 |d :: l,b,h=>by
  unfold pieces
  by_cases hd:(d == c)=true
  ·rw [if_pos hd]
   rcases List.mem_cons.mp h with rfl|h
   ·exact .inl (by simpa using hd)
   ·rcases jV c l b h with h1|⟨p,hp,hb⟩
    ·exact .inl h1
    ·exact .inr ⟨p,List.mem_cons_of_mem _ hp,hb⟩
  ·rw [if_neg hd]
   have ih:=jV c l b
   cases hq:pieces c l with
   |nil=>exact absurd hq (nW c l)
   |cons p ps=>
    rw [hq] at ih
    rcases List.mem_cons.mp h with rfl|h
    ·exact .inr ⟨_,List.mem_cons_self ..,List.mem_cons_self ..⟩
    ·rcases ih h with h1|⟨p',hp,hb⟩
     ·exact .inl h1
     ·rcases List.mem_cons.mp hp with rfl|hp
      ·exact .inr ⟨_,List.mem_cons_self ..,List.mem_cons_of_mem _ hb⟩
      ·exact .inr ⟨p',List.mem_cons_of_mem _ hp,hb⟩
theorem wN (c:UInt8):∀ l:List UInt8,((pieces c l).map fun p=>p.length + 1).sum=l.length + 1
 | []=>rfl
 |d :: l=>by
  have ih:=wN c l
  unfold pieces
  by_cases hd:(d == c)=true
  ·rw [if_pos hd,List.map_cons,List.sum_cons,ih,List.length_cons,List.length_nil]
   omega
  ·rw [if_neg hd]
   cases hq:pieces c l with
   |nil=>exact absurd hq (nW c l)
   |cons p ps=>
    rw [hq,List.map_cons,List.sum_cons] at ih
    simp only [List.map_cons,List.sum_cons,List.length_cons]
    omega
theorem J9 (m:Nat):∀ L:List (List UInt8),(∀ p,p∈L→p.length≤m)→(L.map fun p=>p.length + 1).sum≤L.length * (m + 1)
 | [],_ =>Nat.zero_le _
 |p :: L,h=>by
  have ih:=J9 m L (fun q hq=>h q (List.mem_cons_of_mem _ hq))
  have h1:=h p (List.mem_cons_self ..)
  rw [List.map_cons,List.sum_cons,List.length_cons,Nat.add_mul]
  omega
theorem rZ (c:UInt8) (m:Nat) (l:List UInt8) (h:∀ p,p∈pieces c l→p.length≤m):l.length + 1≤(pieces c l).length * (m + 1):=by
 rw [← wN c l]
 exact J9 m _ h
theorem BO (base most:Int):∀ (l:List Int) (n r:Int),mQ base most l n=some r→∀ c,c∈l→lV c < base
 | [],_,_,_ =>fun c h=>by cases h
 |d :: l,n,r,h=>by
  intro c hc
  unfold mQ at h
  split at h
  ·cases h
  ·rename_i h1
   split at h
   ·cases h
   ·rcases List.mem_cons.mp hc with rfl|hc
    ·omega
    ·exact BO base most l _ r h c hc
theorem Ac (base most:Int) (l:List UInt8) (h:(pu base most (az l)).isNone=false) (b:UInt8) (hb:b∈l):lV (b.toNat:Int) < base:=by
 unfold pu at h
 split at h
 ·cases h
 ·cases hr:mQ base most (bytesOf (az l)) 0 with
  |none=>rw [hr] at h;cases h
  |some r=>exact BO base most _ 0 r hr _ (List.mem_map_of_mem hb)
theorem BP (b:UInt8):lV (b.toNat:Int) < 16→gS b=true:=ez (Q:=fun b=>lV (b.toNat:Int) < 16→gS b=true) ey b
theorem wO (l:List UInt8) (h: 0≤mA l):(∀ b,b∈l→gS b=true)∧(l.length:Int)≤5 * mA l:=by
 unfold mA at h ⊢
 by_cases h0:l.length=0
 ·rw [if_pos h0]
  have:l= []:=List.eq_nil_of_length_eq_zero h0
  subst this
  exact ⟨fun b hb=>(by cases hb),bB⟩
 ·rw [if_neg h0] at h ⊢
  by_cases ha:((pieces 58 l).any fun p=>eN (az p))=true
  ·rw [if_pos ha] at h
   omega
  ·rw [if_neg ha]
   have hg:∀ p,p∈pieces 58 l→eN (az p)=false:=fun p hp=>by
    cases hb:eN (az p) with
    |false=>rfl
    |true=>exact absurd (List.any_eq_true.mpr ⟨p,hp,hb⟩) ha
   refine ⟨fun b hb=>?_,?_⟩
   ·rcases jV 58 l b hb with rfl|⟨p,hp,hb⟩
    ·decide
    ·have h1:=hg p hp
     unfold eN at h1
     rw [Bool.or_eq_false_iff] at h1
     exact BP b (Ac 16 65535 p h1.1 b hb)
   ·have h2:=rZ 58 4 l (fun p hp=>by
     have h1:=hg p hp
     unfold eN at h1
     rw [Bool.or_eq_false_iff,bT] at h1
     have:=of_decide_eq_false h1.2
     omega)
    omega
theorem pQ:∀ l:List UInt8,0≤Lib.index l [58,58]→l=l.take (Lib.index l [58,58]).toNat ++ 58 :: 58 :: l.drop ((Lib.index l [58,58]).toNat + 2)
 | [],h=>by simp [Lib.index] at h
 |b :: l,h=>by
  unfold Lib.index at h ⊢
  by_cases hp:List.isPrefixOf [58,58] (b :: l)=true
  ·rw [if_pos hp]
   cases l with
   |nil=>simp [List.isPrefixOf] at hp
   |cons c l=>
    simp [List.isPrefixOf] at hp
    obtain ⟨rfl,rfl⟩:=hp
    rfl
  ·rw [if_neg hp] at h ⊢
   by_cases h1:(Lib.index l [58,58] == -1)=true
   ·rw [if_pos h1] at h
    omega
   ·rw [if_neg h1] at h ⊢
    have h2: 0≤Lib.index l [58,58]:=by
     have: ¬ Lib.index l [58,58]= -1:=by simpa using h1
     omega
    have ih:=pQ l h2
    obtain ⟨n,hn⟩:∃ n:Nat,Lib.index l [58,58]=n:=⟨_,(Int.toNat_of_nonneg h2).symm⟩
    rw [hn] at ih ⊢
    rw [show ((n:Int) + 1).toNat=n + 1 from by omega]
    rw [Int.toNat_natCast] at ih
    rw [List.take_succ_cons,List.cons_append,show n + 1 + 2=(n + 2) + 1 from by omega,List.drop_succ_cons,← ih]
theorem Ka (l:List UInt8) (h:xz l=true):(∀ b,b∈l→gS b=true)∧l.length≤100:=by
 unfold xz at h
 unfold Lib.cut at h
 by_cases hi: 0≤Lib.index l [58,58]
 ·simp only [if_pos hi,if_true,Bool.and_eq_true,decide_eq_true_eq] at h
  obtain ⟨h1,h2,h3⟩:=h
  obtain ⟨w1,n1⟩:=wO _ h1
  obtain ⟨w2,n2⟩:=wO _ h2
  have e:=pQ l hi
  have e2:(Lib.index l [58,58]).toNat + [58,58].length=(Lib.index l [58,58]).toNat + 2:=rfl
  rw [show ([58,58]:List UInt8).length=2 from rfl] at w2 n2 h3
  refine ⟨fun b hb=>?_,?_⟩
  ·rw [e] at hb
   rcases List.mem_append.mp hb with hb|hb
   ·exact w1 b hb
   ·rcases List.mem_cons.mp hb with rfl|hb
    ·decide
    ·rcases List.mem_cons.mp hb with rfl|hb
     ·decide
     ·exact w2 b hb
  ·rw [e,List.length_append,List.length_cons,List.length_cons]
   omega
 ·simp only [if_neg hi,Bool.false_eq_true,if_false,beq_iff_eq] at h
  obtain ⟨w1,n1⟩:=wO l ak
  exact ⟨w1,ak⟩
theorem GU (l:List UInt8) (h:rY l=true):(∀ b,b∈l→gS b=true)∧l.length≤100:=by
 unfold rY at h
 simp only [Bool.and_eq_true,decide_eq_true_eq,Bool.not_eq_true'] at h
 obtain ⟨h1,h2⟩:=h
 have hg:∀ p,p∈pieces 46 l→iN p=false:=fun p hp=>by
  cases hb:iN p with
  |false=>rfl
  |true=>rw [List.any_eq_true.mpr ⟨p,hp,hb⟩] at h2;cases h2
 refine ⟨fun b hb=>?_,?_⟩
 ·rcases jV 46 l b hb with rfl|⟨p,hp,hb⟩
  ·decide
  ·have h3:=hg p hp
   unfold iN at h3
   rw [Bool.or_eq_false_iff] at h3
   have:=Ac 10 255 p h3.1 b hb
   exact BP b ak
 ·have h4:=rZ 46 3 l (fun p hp=>by
   have h3:=hg p hp
   unfold iN at h3
   rw [Bool.or_eq_false_iff] at h3
   have:=of_decide_eq_false h3.2
   omega)
  rw [h1] at h4
  omega
theorem Kb (b:UInt8):dI b∈([105,112,118,54,58]:List UInt8)→gS b=true:=ez (Q:=fun b=>dI b∈([105,112,118,54,58]:List UInt8)→gS b=true) ey b
theorem BQ (l:List UInt8) (h:qU l=true):(∀ b,b∈l→gS b=true)∧l.length≤255:=by
 unfold qU at h
 by_cases hs:lW l=true
 ·rw [if_pos hs] at h
  obtain ⟨w,n⟩:=Ka _ h
  unfold lW at hs
  simp only [Bool.and_eq_true,beq_iff_eq] at hs
  refine ⟨fun b hb=>?_,by rw [List.length_drop] at n;omega⟩
  have e:l=l.take 5 ++ l.drop 5:=(List.take_append_drop 5 l).symm
  rw [e] at hb
  rcases List.mem_append.mp hb with hb|hb
  ·exact Kb b (by rw [← hs.2];exact List.mem_map_of_mem hb)
  ·exact w b hb
 ·rw [if_neg hs] at h
  obtain ⟨w,n⟩:=GU _ h
  exact ⟨w,ak⟩
end Go.Proofs.YtokpnfljjjjikaaGreatDoor.ia
namespace Go.Proofs.YtokpnfljjjjikaaGreatDoor.ia
open Go.RowKit Go.Proofs.YtokpnfljjjjikaaGreatDoor Go.Proofs.YtokpnfljjjjikaaGreatDoor.lO Go.Proofs.aj.bw Go.Proofs.aj.cj
set_option linter.unusedVariables false
set_option linter.unusedSimpArgs false
theorem GV (a b:List UInt8):qL (a ++ b)=qL a ++ qL b:=List.flatMap_append
theorem Pp (b:UInt8):(qL [b]).length≤2:=by
 show (qB b ++ []).length≤2
 unfold qB
 split<;>simp
end Go.Proofs.YtokpnfljjjjikaaGreatDoor.ia
namespace Go.Proofs.YtokpnfljjjjikaaGreatDoor.ia
open Go.RowKit Go.Proofs.YtokpnfljjjjikaaGreatDoor Go.Proofs.YtokpnfljjjjikaaGreatDoor.lO Go.Proofs.aj.bw Go.Proofs.aj.cj
set_option linter.unusedVariables false
set_option linter.unusedSimpArgs false
theorem r9 (c:UInt8):∀ l:List UInt8,c ∉ l∨∃ w r,l=w ++ c :: r∧c ∉ w
 | []=> .inl bB
 |b :: l=>by
  by_cases h:b=c
  ·exact .inr ⟨[],l,by rw [h];rfl,bB⟩
  ·rcases r9 c l with h2|⟨w,r,rfl,h2⟩
   ·refine .inl fun hm=>?_
    rcases List.mem_cons.mp hm with e|e
    ·exact h e.symm
    ·exact h2 e
   ·refine .inr ⟨b :: w,r,rfl,fun hm=>?_⟩
    rcases List.mem_cons.mp hm with e|e
    ·exact h e.symm
    ·exact h2 e
theorem Gb (c:UInt8):∀ l:List UInt8,c ∉ l∨∃ w r,l=w ++ c :: r∧c ∉ r
 | []=> .inl bB
 |b :: l=>by
  rcases Gb c l with h2|⟨w,r,rfl,h2⟩
  ·by_cases h:b=c
   ·exact .inr ⟨[],l,by rw [h];rfl,h2⟩
   ·refine .inl fun hm=>?_
    rcases List.mem_cons.mp hm with e|e
    ·exact h e.symm
    ·exact h2 e
  ·exact .inr ⟨b :: w,r,rfl,h2⟩
theorem lM (c:UInt8):∀ w:List UInt8,c ∉ w→pieces c w= [w]
 | [],_ =>rfl
 |b :: w,h=>by
  have hb:(b == c)=false:=beq_eq_false_iff_ne.mpr fun e=>h (e ▸ List.mem_cons_self ..)
  unfold pieces
  rw [hb,lM c w (fun hm=>h (List.mem_cons_of_mem _ hm))]
  rfl
theorem mJ (c:UInt8) (r:List UInt8):∀ w:List UInt8,c ∉ w→pieces c (w ++ c :: r)=w :: pieces c r
 | [],_ =>by
   show pieces c (c :: r)=_
   rw [pieces]
   simp
 |b :: w,h=>by
  have hb:(b == c)=false:=beq_eq_false_iff_ne.mpr fun e=>h (e ▸ List.mem_cons_self ..)
  have e:pieces c (b :: (w ++ c :: r))=if (b == c)=true then [] :: pieces c (w ++ c :: r) else match pieces c (w ++ c :: r) with| []=>[[b]]|p :: ps=>(b :: p) :: ps:=rfl
  rw [List.cons_append,e,hb,mJ c r w (fun hm=>h (List.mem_cons_of_mem _ hm))]
  rfl
def yg:List UInt8→Bool
 | []=>false
 |c :: t=>c != 45 && (c :: t).getD t.length 0 != 45 && (c :: t).all gh
def iY (l:List UInt8):Bool:=(pieces 46 l).all yg
theorem Ke:gh 46=false:=by decide +kernel
theorem DJ {P:UInt8→Bool} {l:List UInt8} {b:UInt8} (h:b∈l.takeWhile P):P b=true:=by
 induction l with
 |nil=>cases h
 |cons c l ih=>
  by_cases hc:P c=true
  ·rw [List.takeWhile_cons_of_pos hc] at h
   rcases List.mem_cons.mp h with rfl|h
   ·exact hc
   ·exact ih h
  ·rw [List.takeWhile_cons_of_neg hc] at h
   cases h
theorem Ad {P:UInt8→Bool}:∀ l:List UInt8,(∀ b,b∈l→P b=true)→l.takeWhile P=l
 | [],_ =>rfl
 |b :: l,h=>by
  rw [List.takeWhile_cons_of_pos (h b (List.mem_cons_self ..)),Ad l (fun c hc=>h c (List.mem_cons_of_mem _ hc))]
theorem sQ {p:List UInt8} (h:yg p=true):∀ b,b∈p→gh b=true:=by
 cases p with
 |nil=>cases h
 |cons c t=>
  unfold yg at h
  simp only [Bool.and_eq_true,List.all_eq_true] at h
  exact h.2
theorem yh {p t:List UInt8} (hp:∀ b,b∈p→gh b=true) (ht:jM gh t):dw (p ++ t)=(yg p,p.length):=by
 rw [tM ht]
 unfold dw
 rw [Ad p hp]
 cases p with
 |nil=>rfl
 |cons c s=>
  have e:(c :: s).all gh=true:=List.all_eq_true.mpr hp
  show (c != 45 && (c :: s).getD s.length 0 != 45,(c :: s).length)=(c != 45 && (c :: s).getD s.length 0 != 45 && (c :: s).all gh,(c :: s).length)
  rw [e,Bool.and_true]
theorem GW (l:List UInt8):(dw l).1=yg (l.takeWhile gh):=by
 unfold dw
 show (match l.takeWhile gh with| []=>false|c :: t=>c != 45 && (c :: t).getD t.length 0 != 45)=_
 have h:∀ b,b∈l.takeWhile gh→gh b=true:=fun b hb=>DJ hb
 generalize l.takeWhile gh=w at h ⊢
 cases w with
 |nil=>rfl
 |cons c t=>
  have e:(c :: t).all gh=true:=List.all_eq_true.mpr h
  show _=(c != 45 && (c :: t).getD t.length 0 != 45 && (c :: t).all gh)
  rw [e,Bool.and_true]
theorem Pq (r:List UInt8):jM gh (46 :: r):=by
 intro b t' e
 rw [← (List.cons.inj e).1]
 exact Ke
theorem M7 (P:UInt8→Bool):jM P []:=by
 intro b t' e
 cases e
theorem BR:∀ (n:Nat) (l:List UInt8),l.length < n→eI dw 46 l=(true,l.length)→iY l=true
 | 0,_,h,_ =>absurd h (Nat.not_lt_zero _)
 |n + 1,l,hn,h=>by
  obtain ⟨w,hw⟩:∃ w,l.takeWhile gh=w:=⟨_,rfl⟩
  have hl:l=w ++ l.drop w.length:=by
   have e1:=iU gh l
   rw [hw] at e1
   have e2:=List.take_append_drop w.length l
   rw [e1] at e2
   exact e2.symm
  have h46:(46:UInt8) ∉ w:=by
   intro hm
   rw [← hw] at hm
   have:=DJ hm
   rw [Ke] at this
   cases this
  have h1:=GW l
  have h2:(dw l).2=w.length:=by rw [← hw];rfl
  rw [hw] at h1
  rw [gH,h1,h2] at h
  by_cases hp:yg w=true
  case neg=>rw [if_neg hp] at h;cases h
  rw [if_pos hp] at h
  by_cases hx:bO 46 (l.drop w.length)=true
  ·rw [if_pos hx] at h
   obtain ⟨r,hr⟩:∃ r,l.drop w.length=46 :: r:=by
    cases hd:l.drop w.length with
    |nil=>rw [hd] at hx;cases hx
    |cons b r=>
     rw [hd] at hx
     exact ⟨r,by rw [beq_iff_eq.mp (show (b == 46)=true from hx)]⟩
   rw [hr] at hl
   have hr2:l.drop (w.length + 1)=r:=by
    rw [← List.drop_drop,hr]
    rfl
   rw [hr2] at h
   have hlen:=congrArg List.length hl
   rw [List.length_append,List.length_cons] at hlen
   have e3:eI dw 46 r=(true,r.length):=by
    have e4:=(Prod.mk.inj h).1
    have e5:=(Prod.mk.inj h).2
    exact Prod.ext e4 (by show _=r.length;omega)
   have ih:=BR n r ak e3
   unfold iY at ih ⊢
   rw [hl,mJ 46 r w h46,List.all_cons,hp,ih]
   rfl
  ·rw [if_neg hx] at h
   have e5:w.length=l.length:=(Prod.mk.inj h).2
   have hlw:l=w:=by
    rw [e5,List.drop_length,List.append_nil] at hl
    exact hl
   unfold iY
   rw [hlw,lM 46 w h46,List.all_cons,hp]
   rfl
theorem BU:∀ (n:Nat) (l:List UInt8),l.length < n→iY l=true→eI dw 46 l=(true,l.length)
 | 0,_,h,_ =>absurd h (Nat.not_lt_zero _)
 |n + 1,l,hn,h=>by
  unfold iY at h
  rcases r9 46 l with h46|⟨w,r,rfl,h46⟩
  ·rw [lM 46 l h46,List.all_cons,List.all_nil,Bool.and_true] at h
   have e:=yh (sQ h) (M7 gh)
   rw [List.append_nil] at e
   rw [gH,e]
   simp only
   rw [if_pos h,List.drop_length]
   rfl
  ·rw [mJ 46 r w h46,List.all_cons,Bool.and_eq_true] at h
   have e:=yh (sQ h.1) (Pq r)
   have ih:=BU n r (by rw [List.length_append,List.length_cons] at hn;omega) (by unfold iY;exact h.2)
   rw [gH,e]
   simp only
   have ed:(w ++ 46 :: r).drop w.length=46 :: r:=List.drop_left
   have ed2:(w ++ 46 :: r).drop (w.length + 1)=r:=by rw [← List.drop_drop,ed];rfl
   rw [if_pos h.1,ed,if_pos (show bO 46 (46 :: r)=true from rfl),ed2,ih]
   simp only
   congr 1
   rw [List.length_append,List.length_cons]
   omega
theorem wP (l:List UInt8):eI dw 46 l=(true,l.length)↔iY l=true:=⟨BR _ l (Nat.lt_succ_self _),BU _ l (Nat.lt_succ_self _)⟩
theorem oJ {l:List UInt8} (h:iY l=true) (c:UInt8) (h1:gh c=false) (h2:c≠46):c ∉ l:=by
 intro hm
 rcases jV 46 l c hm with e|⟨p,hp,hc⟩
 ·exact h2 e
 ·unfold iY at h
  have:=sQ (List.all_eq_true.mp h p hp) c hc
  rw [h1] at this
  cases this
theorem M8 {l:List UInt8} (h:iY l=true):l≠ []:=by
 rintro rfl
 exact absurd h bg
theorem yj {b:UInt8} {l:List UInt8} (h:iY (b :: l)=true):gh b=true:=by
 cases hb:gh b with
 |true=>rfl
 |false=>
  by_cases e:b=46
  ·subst e
   unfold iY at h
   rw [show (46:UInt8) :: l= [] ++ 46 :: l from rfl,mJ 46 l [] bB,List.all_cons] at h
   cases h
  ·exact absurd (List.mem_cons_self ..) (oJ h b hb e)
def jC:Bool→List UInt8→Bool
 |dot,[]=>!dot
 |dot,b :: l=>if b=46 then (if dot=true then false else jC true l) else if fQ b=true then jC false l else false
theorem Gc:fQ 46=false:=by decide +kernel
theorem wQ:∀ (w t:List UInt8) (d:Bool),(∀ b,b∈w→fQ b=true)→w≠ []→jC d (w ++ t)=jC false t
 | [],_,_,_,h=>absurd rfl h
 | [b],t,d,h,_ =>by
   have hb:=h b (List.mem_cons_self ..)
   have h46:b≠46:=by
    rintro rfl
    rw [Gc] at hb
    cases hb
   show jC d (b :: t)=_
   rw [jC,if_neg h46,if_pos hb]
 |b :: c :: w,t,d,h,_ =>by
  have hb:=h b (List.mem_cons_self ..)
  have h46:b≠46:=by
   rintro rfl
   rw [Gc] at hb
   cases hb
  show jC d (b :: ((c :: w) ++ t))=_
  rw [jC,if_neg h46,if_pos hb]
  exact wQ (c :: w) t false (fun x hx=>h x (List.mem_cons_of_mem _ hx)) bB
theorem wR:∀ (n:Nat) (l:List UInt8),l.length < n→jC true l=decide (eI fJ 46 l=(true,l.length))
 | 0,_,h=>absurd h (Nat.not_lt_zero _)
 |n + 1,l,hn=>by
  obtain ⟨w,hw⟩:∃ w,l.takeWhile fQ=w:=⟨_,rfl⟩
  have hl:l=w ++ l.drop w.length:=by
   have e1:=iU fQ l
   rw [hw] at e1
   have e2:=List.take_append_drop w.length l
   rw [e1] at e2
   exact e2.symm
  have hall:∀ b,b∈w→fQ b=true:=fun b hb=>by rw [← hw] at hb;exact DJ hb
  have hstop:=F9 fQ l
  rw [hw] at hstop
  have hat:fJ l=(decide (0 < w.length),w.length):=by unfold fJ;rw [hw]
  rw [gH,hat]
  simp only
  by_cases h0:w= []
  ·subst h0
   rw [if_neg bB]
   rw [List.nil_append,List.length_nil,List.drop_zero] at hl
   rw [decide_eq_false (fun e=>by cases (Prod.mk.inj e).1)]
   cases l with
   |nil=>rfl
   |cons b l=>
    rw [jC]
    by_cases h46:b=46
    ·rw [if_pos h46,if_pos rfl]
    ·rw [if_neg h46,if_neg]
     have:=hstop b l (by rw [List.length_nil,List.drop_zero])
     rw [this]
     decide
  ·have hpos: 0 < w.length:=List.length_pos_iff.mpr h0
   rw [if_pos (decide_eq_true hpos)]
   have hrun:=wQ w (l.drop w.length) true hall h0
   rw [← hl] at hrun
   rw [hrun]
   have hlen:=congrArg List.length hl
   rw [List.length_append] at hlen
   cases hd:l.drop w.length with
   |nil=>
    rw [hd] at hlen
    rw [if_neg bg]
    rw [jC,decide_eq_true (by rw [List.length_nil] at hlen;rw [hlen];rfl)]
    rfl
   |cons b r=>
    rw [hd,List.length_cons] at hlen
    rw [jC]
    by_cases h46:b=46
    ·subst h46
     have hr2:l.drop (w.length + 1)=r:=by
      rw [← List.drop_drop,hd]
      rfl
     rw [if_pos rfl,if_neg bg,if_pos (show bO 46 (46 :: r)=true from rfl),hr2,wR n r ak]
     apply decide_eq_decide.mpr
     constructor
     ·intro e
      rw [e]
      exact Prod.ext rfl (by show w.length + 1 + r.length=_;omega)
     ·intro e
      exact Prod.ext (Prod.mk.inj e).1 (by have:=(Prod.mk.inj e).2;show _=r.length;omega)
    ·have:=hstop b r hd
     rw [if_neg h46,if_neg (by rw [this];decide)]
     rw [if_neg (by show ¬ (b == 46)=true;rw [beq_iff_eq];exact h46),decide_eq_false]
     intro e
     have:=(Prod.mk.inj e).2
     omega
def Ae:List UInt8→List UInt8→Bool×List UInt8
 | [],_ =>(false,[])
 | [b],acc=>(b == 34,acc)
 |b :: c :: l,acc=>
  if b=34 then (false,[])
  else if b=92 then (if l= [] then (false,[]) else if c < 32∨126 < c then (false,[]) else Ae l (acc ++ [c]))
  else if b < 32∨126 < b then (false,[]) else Ae (c :: l) (acc ++ [b])
theorem wS:∀ (n:Nat) (l acc x:List UInt8),l.length < n→(Ae l acc=(true,x)↔fq l acc=(true,x,l.length))
 | 0,_,_,_,h=>absurd h (Nat.not_lt_zero _)
 |n + 1,l,acc,x,hn=>by
  cases l with
  |nil=>unfold Ae fq;simp
  |cons b l=>
   cases l with
   |nil=>
    unfold Ae fq
    by_cases hq:b=34
    ·subst hq
     simp
    ·rw [if_neg hq,beq_eq_false_iff_ne.mpr hq]
     by_cases hb:b=92
     ·rw [if_pos hb];simp
     ·rw [if_neg hb]
      by_cases hc:b < 32∨126 < b
      ·rw [if_pos hc];simp
      ·rw [if_neg hc]
       simp [fq]
   |cons c l=>
    unfold Ae fq
    by_cases hq:b=34
    ·rw [if_pos hq,if_pos hq]
     simp
    ·rw [if_neg hq,if_neg hq]
     by_cases hb:b=92
     ·rw [if_pos hb,if_pos hb]
      by_cases hc:c < 32∨126 < c
      ·simp only [if_pos hc]
       by_cases hl:l= []
       ·rw [if_pos hl];simp
       ·rw [if_neg hl];simp
      ·simp only [if_neg hc]
       by_cases hl:l= []
       ·subst hl
        rw [if_pos rfl]
        simp [fq]
       ·rw [if_neg hl,wS n l (acc ++ [c]) x zh]
        constructor
        ·intro e
         rw [e]
         simp
        ·intro e
         simp only [Prod.mk.injEq,List.length_cons] at e
         exact Prod.ext e.1 (Prod.ext e.2.1 (by show _=l.length;omega))
     ·rw [if_neg hb,if_neg hb]
      by_cases hc:b < 32∨126 < b
      ·rw [if_pos hc,if_pos hc];simp
      ·rw [if_neg hc,if_neg hc,wS n (c :: l) (acc ++ [b]) x (by simp only [List.length_cons] at hn ⊢;omega)]
       constructor
       ·intro e
        rw [e]
        simp
       ·intro e
        simp only [Prod.mk.injEq,List.length_cons] at e
        exact Prod.ext e.1 (Prod.ext e.2.1 (by show _=(c :: l).length;rw [List.length_cons];omega))
theorem qX:∀ (n:Nat) (l acc x:List UInt8) (m:Nat),l.length < n→fq l acc=(true,x,m)→∀ u,fq (l.take m ++ u) acc=(true,x,m)
 | 0,_,_,_,_,h,_,_ =>absurd h (Nat.not_lt_zero _)
 |n + 1,l,acc,x,m,hn,h,u=>by
  cases l with
  |nil=>unfold fq at h;cases (Prod.mk.inj h).1
  |cons b l=>
   unfold fq at h
   by_cases hq:b=34
   ·rw [if_pos hq] at h
    obtain ⟨rfl,rfl⟩:=Prod.mk.inj (Prod.mk.inj h).2
    show fq (b :: ((l.take 0) ++ u)) acc=_
    unfold fq
    rw [if_pos hq]
   ·rw [if_neg hq] at h
    by_cases hb:b=92
    ·rw [if_pos hb] at h
     cases l with
     |nil=>cases (Prod.mk.inj h).1
     |cons c l=>
      by_cases hc:c < 32∨126 < c
      ·simp only [if_pos hc] at h
       cases (Prod.mk.inj h).1
      ·simp only [if_neg hc,Prod.mk.injEq] at h
       obtain ⟨h1,h2,h3⟩:=h
       obtain ⟨m',rfl⟩:∃ m',m=m' + 2:=⟨m - 2,ak⟩
       have ih:=qX n l (acc ++ [c]) x m' zh (Prod.ext h1 (Prod.ext h2 (by show _=m';omega))) u
       show fq (b :: c :: (l.take m' ++ u)) acc=_
       unfold fq
       rw [if_neg hq,if_pos hb]
       simp only [if_neg hc]
       rw [ih]
    ·rw [if_neg hb] at h
     by_cases hc:b < 32∨126 < b
     ·rw [if_pos hc] at h
      cases (Prod.mk.inj h).1
     ·rw [if_neg hc] at h
      simp only [Prod.mk.injEq] at h
      obtain ⟨h1,h2,h3⟩:=h
      obtain ⟨m',rfl⟩:∃ m',m=m' + 1:=⟨m - 1,ak⟩
      have ih:=qX n l (acc ++ [b]) x m' zh (Prod.ext h1 (Prod.ext h2 (by show _=m';omega))) u
      show fq (b :: (l.take m' ++ u)) acc=_
      unfold fq
      rw [if_neg hq,if_neg hb,if_neg hc,ih]
def DK (s:List UInt8):Option (List UInt8):=
 if jC true s=true then some s else if bO 34 s=true then (if (Ae (s.drop 1) []).1=true then some (Ae (s.drop 1) []).2 else none) else none
theorem M9:fQ 34=false:=by decide +kernel
theorem Na:fQ 64=false:=by decide +kernel
theorem yl (s x:List UInt8):DK s=some x↔dB s=(true,az x,s.length):=by
 unfold DK dB
 rw [wR _ s (Nat.lt_succ_self _)]
 by_cases hq:bO 34 s=true
 ·have hno: ¬ eI fJ 46 s=(true,s.length):=by
   intro e
   cases s with
   |nil=>cases hq
   |cons b s=>
    have hb:b=34:=beq_iff_eq.mp hq
    subst hb
    rw [gH] at e
    have:fJ (34 :: s)=(false,0):=by
     unfold fJ
     rw [List.takeWhile_cons_of_neg (by rw [M9];decide)]
     rfl
    rw [this] at e
    cases (Prod.mk.inj e).1
  rw [if_neg (by rw [decide_eq_false hno];decide),if_pos hq,if_pos hq]
  cases s with
  |nil=>cases hq
  |cons b s=>
   rw [List.drop_one,List.tail_cons]
   have h:=wS _ s [] x (Nat.lt_succ_self _)
   constructor
   ·intro e
    by_cases h1:(Ae s []).1=true
    ·rw [if_pos h1] at e
     have h2:=h.mp (Prod.ext h1 (Option.some.inj e))
     rw [h2]
     exact Prod.ext rfl (Prod.ext rfl (by show 1 + s.length=(b :: s).length;rw [List.length_cons];omega))
    ·rw [if_neg h1] at e
     cases e
   ·intro e
    have e1:=(Prod.mk.inj e).1
    have e2:=(Prod.mk.inj (Prod.mk.inj e).2).1
    have e3:=(Prod.mk.inj (Prod.mk.inj e).2).2
    have e4:(fq s []).2.1=x:=by
     have:=congrArg (fun t:ByteArray=>t.data.toList) e2
     simpa [az] using this
    rw [List.length_cons] at e3
    have h2:=h.mpr (Prod.ext e1 (Prod.ext e4 (by show _=s.length;omega)))
    rw [h2]
    rfl
 ·rw [if_neg hq,if_neg hq]
  by_cases hp:eI fJ 46 s=(true,s.length)
  ·rw [if_pos (decide_eq_true hp),hp]
   simp only [List.take_length]
   constructor
   ·intro e
    rw [Option.some.inj e]
   ·intro e
    have e2:=(Prod.mk.inj (Prod.mk.inj e).2).1
    have:=congrArg (fun t:ByteArray=>t.data.toList) e2
    rw [show s=x by simpa [az] using this]
  ·rw [if_neg (by rw [decide_eq_false hp];decide)]
   constructor
   ·intro e;cases e
   ·intro e
    exact absurd (Prod.ext (Prod.mk.inj e).1 (Prod.mk.inj (Prod.mk.inj e).2).2) hp
theorem GX {w:List UInt8} {X:ByteArray} (h:dB w=(true,X,w.length)) (d:List UInt8):dB (w ++ 64 :: d)=(true,X,w.length):=by
 unfold dB at h ⊢
 by_cases hq:bO 34 w=true
 ·cases w with
  |nil=>cases hq
  |cons b w=>
   have hq2:bO 34 ((b :: w) ++ 64 :: d)=true:=hq
   rw [if_pos hq,List.drop_one,List.tail_cons] at h
   rw [if_pos hq2,List.cons_append,List.drop_one,List.tail_cons]
   obtain ⟨h1,h2⟩:=Prod.mk.inj h
   obtain ⟨h2,h3⟩:=Prod.mk.inj h2
   rw [List.length_cons] at h3
   have hs:=qX _ w [] (fq w []).2.1 w.length (Nat.lt_succ_self _) (Prod.ext h1 (Prod.ext rfl (by show _=w.length;omega))) (64 :: d)
   rw [List.take_length] at hs
   rw [hs]
   exact Prod.ext rfl (Prod.ext h2 (by show 1 + w.length=w.length + 1;omega))
 ·have hq2: ¬ bO 34 (w ++ 64 :: d)=true:=by
   cases w with
   |nil=>intro e;exact absurd (beq_iff_eq.mp (show ((64:UInt8) == 34)=true from e)) bg
   |cons b w=>exact hq
  have hst:jM fQ (64 :: d):=by
   intro b t' e
   rw [← (List.cons.inj e).1]
   exact Na
  rw [if_neg hq] at h
  rw [if_neg hq2,wE hst (by rfl)]
  obtain ⟨h1,h2⟩:=Prod.mk.inj h
  obtain ⟨h2,h3⟩:=Prod.mk.inj h2
  rw [h3,List.take_length] at h2
  exact Prod.ext h1 (Prod.ext (by rw [h3,List.take_left];exact h2) h3)
end Go.Proofs.YtokpnfljjjjikaaGreatDoor.ia
namespace Go.Proofs.YtokpnfljjjjikaaGreatDoor.ia
open Go.RowKit Go.Proofs.YtokpnfljjjjikaaGreatDoor Go.Proofs.YtokpnfljjjjikaaGreatDoor.lO Go.Proofs.aj.bw Go.Proofs.aj.cj
set_option linter.unusedVariables false
set_option linter.unusedSimpArgs false
def qY (b:UInt8):Bool:=b != 64 && (b != 62 && b != 34)
theorem ym (b:UInt8):lV (b.toNat:Int) < 16→qY b=true:=ez (Q:=fun b=>lV (b.toNat:Int) < 16→qY b=true) ey b
theorem GY (b:UInt8):dI b∈([105,112,118,54,58]:List UInt8)→qY b=true:=ez (Q:=fun b=>dI b∈([105,112,118,54,58]:List UInt8)→qY b=true) ey b
theorem sS (l:List UInt8) (h: 0≤mA l):∀ b,b∈l→qY b=true:=by
 intro b hb
 unfold mA at h
 by_cases h0:l.length=0
 ·have:l= []:=List.eq_nil_of_length_eq_zero h0
  subst this
  cases hb
 ·rw [if_neg h0] at h
  by_cases ha:((pieces 58 l).any fun p=>eN (az p))=true
  ·rw [if_pos ha] at h
   omega
  ·rcases jV 58 l b hb with rfl|⟨p,hp,hb⟩
   ·decide
   ·have h1:eN (az p)=false:=by
     cases hg:eN (az p) with
     |false=>rfl
     |true=>exact absurd (List.any_eq_true.mpr ⟨p,hp,hg⟩) ha
    unfold eN at h1
    rw [Bool.or_eq_false_iff] at h1
    exact ym b (Ac 16 65535 p h1.1 b hb)
theorem yq (l:List UInt8) (h:qU l=true):∀ b,b∈l→qY b=true:=by
 intro b hb
 unfold qU at h
 by_cases hs:lW l=true
 ·rw [if_pos hs] at h
  unfold lW at hs
  simp only [Bool.and_eq_true,beq_iff_eq] at hs
  have e:l=l.take 5 ++ l.drop 5:=(List.take_append_drop 5 l).symm
  rw [e] at hb
  rcases List.mem_append.mp hb with hb|hb
  ·exact GY b (by rw [← hs.2];exact List.mem_map_of_mem hb)
  ·generalize l.drop 5=m at h hb
   unfold xz Lib.cut at h
   by_cases hi: 0≤Lib.index m [58,58]
   ·simp only [if_pos hi,if_true,Bool.and_eq_true,decide_eq_true_eq] at h
    obtain ⟨h1,h2,h3⟩:=h
    have e:=pQ m hi
    rw [show ([58,58]:List UInt8).length=2 from rfl] at h2
    rw [e] at hb
    rcases List.mem_append.mp hb with hb|hb
    ·exact sS _ h1 b hb
    ·rcases List.mem_cons.mp hb with rfl|hb
     ·decide
     ·rcases List.mem_cons.mp hb with rfl|hb
      ·decide
      ·exact sS _ h2 b hb
   ·simp only [if_neg hi,Bool.false_eq_true,if_false,beq_iff_eq] at h
    exact sS m ak b hb
 ·rw [if_neg hs] at h
  unfold rY at h
  simp only [Bool.and_eq_true,decide_eq_true_eq,Bool.not_eq_true'] at h
  rcases jV 46 l b hb with rfl|⟨p,hp,hb⟩
  ·decide
  ·have h3:iN p=false:=by
    cases hg:iN p with
    |false=>rfl
    |true=>rw [List.any_eq_true.mpr ⟨p,hp,hg⟩] at h;cases h.2
   unfold iN at h3
   rw [Bool.or_eq_false_iff] at h3
   have:=Ac 10 255 p h3.1 b hb
   exact ym b ak
theorem yt {c:UInt8} {l:List UInt8} (h:bO c l=true):∃ r,l=c :: r:=by
 cases l with
 |nil=>cases h
 |cons b r=>exact ⟨r,by rw [beq_iff_eq.mp (show (b == c)=true from h)]⟩
structure DL (t lo dom:List UInt8) (lit:Bool) (w d:List UInt8):Prop where
 tx:t=w ++ 64 :: d
 lw:dB w=(true,az lo,w.length)
 dd:(lit=true∧∃ x,d=91 :: (x ++ [93])∧qU x=true∧dom=x.map dI)∨(lit=false∧iY d=true∧dom=d.map dI)
theorem DM {l a b:List UInt8} {n:Nat} (h:l=a ++ b) (hn:n=a.length):l.take n=a:=by
 subst hn
 rw [h,List.take_left]
theorem sU {t lo dom:List UInt8} {lit:Bool} {w d:List UInt8} (B:DL t lo dom lit w d) {u:List UInt8} (hu:jM gh u) (h46:bO 46 u=false):jL (t ++ u)=(true,az lo,az dom,lit,t.length):=by
 obtain ⟨rfl,lw,dd⟩:=B
 have e0:w ++ 64 :: d ++ u=w ++ 64 :: (d ++ u):=by simp
 have el:=GX lw (d ++ u)
 have ed:(w ++ 64 :: (d ++ u)).drop w.length=64 :: (d ++ u):=List.drop_left
 have ed1:(w ++ 64 :: (d ++ u)).drop (w.length + 1)=d ++ u:=by rw [← List.drop_drop,ed];rfl
 rw [e0]
 unfold jL
 rw [el]
 simp only
 rw [if_pos trivial,ed,if_pos (show bO 64 (64 :: (d ++ u))=true from rfl),ed1]
 rcases dd with ⟨rfl,x,rfl,hx,rfl⟩|⟨rfl,hf,rfl⟩
 ·obtain ⟨hw,afb⟩:=BQ x hx
  have ed2:(w ++ 64 :: (91 :: (x ++ [93]) ++ u)).drop (w.length + 2)=x ++ 93 :: u:=by
   rw [show w.length + 2=w.length + 1 + 1 from rfl,← List.drop_drop,ed1]
   simp
  have hst:jM gS (93 :: u):=by
   intro b t' e
   rw [← (List.cons.inj e).1]
   decide
  have htw:(x ++ 93 :: u).takeWhile gS=x:=by rw [uN hst,Ad x hw]
  have ed3:(w ++ 64 :: (91 :: (x ++ [93]) ++ u)).drop (w.length + 2 + x.length)=93 :: u:=by rw [← List.drop_drop,ed2,List.drop_left]
  rw [if_pos (show bO 91 (91 :: (x ++ [93]) ++ u)=true from rfl),ed2,htw,ed3,if_pos (show bO 93 (93 :: u)=true from rfl),uO x ak,hx,jN]
  congr 4
  simp only [List.length_append,List.length_cons,List.length_nil]
  omega
 ·have hne:=M8 hf
  have h91: ¬ bO 91 (d ++ u)=true:=by
   cases d with
   |nil=>exact absurd rfl hne
   |cons b d=>
    intro e
    have e2:b=91:=beq_iff_eq.mp (show (b == 91)=true from e)
    have:=yj hf
    rw [e2] at this
    exact absurd this ey
  have hl:=(wP d).mpr hf
  have hl2:eI dw 46 (d ++ u)=(true,d.length):=by rw [pP hu h46,hl]
  have e1:(mz (d ++ u)).1=true:=congrArg Prod.fst hl2
  have e2:(mz (d ++ u)).2.2=d.length:=congrArg Prod.snd hl2
  have e3:(mz (d ++ u)).2.1=az (d.map dI):=by
   rw [xZ]
   unfold Pk
   rw [hl2,List.take_left]
  rw [if_neg h91,e1,e2,e3]
  congr 4
  simp only [List.length_append,List.length_cons]
  omega
def nE (c:UInt8):List UInt8→Option (List UInt8×List UInt8)
 | []=>none
 |b :: l=>match nE c l with
  |some (w,r)=>some (b :: w,r)
  |none=>if b=c then some ([],l) else none
theorem oK (c:UInt8):∀ l:List UInt8,c ∉ l→nE c l=none
 | [],_ =>rfl
 |b :: l,h=>by
  unfold nE
  rw [oK c l (fun hm=>h (List.mem_cons_of_mem _ hm))]
  simp only
  rw [if_neg (show ¬ b=c from fun e=>h zi)]
theorem oL (c:UInt8) (r:List UInt8) (h:c ∉ r):∀ w:List UInt8,nE c (w ++ c :: r)=some (w,r)
 | []=>by
   show nE c (c :: r)=_
   unfold nE
   rw [oK c r h]
   simp
 |b :: w=>by
  rw [List.cons_append]
  unfold nE
  rw [oL c r h w]
def bracketed (d:List UInt8):Bool:=decide (2≤d.length) && (d.getD 0 0 == 91 && d.getD (d.length - 1) 0 == 93)
def nG (d:List UInt8):List UInt8:=(d.drop 1).take (d.length - 2)
theorem DN (x:List UInt8):bracketed (91 :: (x ++ [93]))=true∧nG (91 :: (x ++ [93]))=x:=by
 constructor
 ·unfold bracketed
  have e:(91 :: (x ++ [93])).getD ((91 :: (x ++ [93])).length - 1) 0=93:=by
   rw [List.getD_eq_getElem?_getD]
   simp
  rw [e,decide_eq_true bB]
  rfl
 ·unfold nG
  simp
theorem wT {d:List UInt8} (h:bracketed d=true):d=91 :: (nG d ++ [93]):=by
 unfold bracketed at h
 simp only [Bool.and_eq_true,decide_eq_true_eq,beq_iff_eq] at h
 obtain ⟨h2,h0,h1⟩:=h
 cases d with
 |nil=>simp at h2
 |cons b d=>
  have hb:b=91:=by simpa using h0
  subst hb
  have hd:d≠ []:=by rintro rfl;simp at h2
  have e:=List.dropLast_concat_getLast hd
  have el:d.getLast hd=93:=by
   rw [List.getLast_eq_getElem]
   have hp: 0 < d.length:=List.length_pos_iff.mpr hd
   rw [List.getD_eq_getElem?_getD,List.length_cons,show d.length + 1 - 1=(d.length - 1) + 1 by omega,List.getElem?_cons_succ,List.getElem?_eq_getElem ak] at h1
   exact h1
  rw [el] at e
  unfold nG
  rw [List.drop_one,List.tail_cons,List.length_cons,show d.length + 1 - 2=d.length - 1 by omega,← List.dropLast_eq_take,e]
def uP (d:List UInt8):Option (List UInt8×Bool):=if bracketed d=true then (if qU (nG d)=true then some ((nG d).map dI,true) else none) else if iY d=true then some (d.map dI,false) else none
def sj (t:List UInt8):Option (List UInt8×List UInt8×Bool):=(nE 64 t).bind fun p=>(DK p.1).bind fun lo=>(uP p.2).bind fun q=>some (lo,q.1,q.2)
theorem Pr:gh 64=false:=by decide +kernel
theorem DL.SY {t lo dom:List UInt8} {lit:Bool} {w d:List UInt8} (B:DL t lo dom lit w d):(64:UInt8) ∉ d:=by
 rcases B.dd with ⟨rfl,x,rfl,hx,rfl⟩|⟨rfl,hf,rfl⟩
 ·intro hm
  rcases List.mem_cons.mp hm with e|hm
  ·exact absurd e bg
  ·rcases List.mem_append.mp hm with hm|hm
   ·exact absurd (yq x hx 64 hm) bg
   ·exact absurd (List.mem_singleton.mp hm) bg
 ·exact oJ hf 64 Pr bg
theorem Af (t lo dom:List UInt8) (lit:Bool):sj t=some (lo,dom,lit)↔∃ w d,DL t lo dom lit w d:=by
 constructor
 ·intro h
  unfold sj at h
  rcases Gb 64 t with hn|⟨w,d,rfl,hd⟩
  ·rw [oK 64 t hn] at h
   cases h
  ·rw [oL 64 d hd w] at h
   simp only [Option.bind_some] at h
   obtain ⟨Pt,h1,h⟩:=Option.bind_eq_some_iff.mp h
   obtain ⟨q,h2,h⟩:=Option.bind_eq_some_iff.mp h
   have h:=Option.some.inj h
   simp only [Prod.mk.injEq] at h
   obtain ⟨rfl,rfl,rfl⟩:=h
   refine ⟨w,d,rfl,(yl w Pt).mp h1,?_⟩
   unfold uP at h2
   by_cases hb:bracketed d=true
   ·rw [if_pos hb] at h2
    by_cases hl:qU (nG d)=true
    ·rw [if_pos hl] at h2
     rw [← Option.some.inj h2]
     exact .inl ⟨rfl,nG d,wT hb,hl,rfl⟩
    ·rw [if_neg hl] at h2
     cases h2
   ·rw [if_neg hb] at h2
    by_cases hf:iY d=true
    ·rw [if_pos hf] at h2
     rw [← Option.some.inj h2]
     exact .inr ⟨rfl,hf,rfl⟩
    ·rw [if_neg hf] at h2
     cases h2
 ·rintro ⟨w,d,B⟩
  have h64:=B.SY
  obtain ⟨rfl,lw,dd⟩:=B
  unfold sj
  rw [oL 64 d h64 w]
  simp only [Option.bind_some]
  rw [(yl w lo).mpr lw]
  simp only [Option.bind_some]
  have e:uP d=some (dom,lit):=by
   unfold uP
   rcases dd with ⟨rfl,x,rfl,hx,rfl⟩|⟨rfl,hf,rfl⟩
   ·obtain ⟨b1,b2⟩:=DN x
    rw [if_pos b1,b2,if_pos hx]
   ·have hb: ¬ bracketed d=true:=by
     intro hb
     have e:=wT hb
     rw [e] at hf
     have:=yj hf
     exact absurd this ey
    rw [if_neg hb,if_pos hf]
  rw [e]
  rfl
theorem ko (d:List UInt8) {ds:List (List UInt8)} (h:ds≠ []):cv (d :: ds)=64 :: (d ++ 44 :: cv ds):=by
 cases ds with
 |nil=>exact absurd rfl h
 |cons e ds=>rfl
theorem BV {x t:List UInt8} (hx:iY x=true) (ht:jM gh t) (h46:bO 46 t=false):iz (64 :: (x ++ t))=(true,az (x.map dI),1 + x.length):=by
 have hl:eI dw 46 (x ++ t)=(true,x.length):=by rw [pP ht h46,(wP x).mpr hx]
 have e1:(mz (x ++ t)).1=true:=congrArg Prod.fst hl
 have e2:(mz (x ++ t)).2.2=x.length:=congrArg Prod.snd hl
 have e3:(mz (x ++ t)).2.1=az (x.map dI):=by
  rw [xZ]
  unfold Pk
  rw [hl,List.take_left]
 unfold iz
 rw [if_pos (show bO 64 (64 :: (x ++ t))=true from rfl),List.drop_one,List.tail_cons,e1,e2,e3]
theorem tP (t:List UInt8):∀ xs:List (List UInt8),xs≠ []→(∀ x,x∈xs→iY x=true)→gV (cv xs ++ 58 :: t)=(true,(xs.map fun x=>x.map dI).map az,(cv xs).length)
 | [],h,_ =>absurd rfl h
 | [x],_,h=>by
   have hx:=h x (List.mem_cons_self ..)
   have e0:cv [x] ++ 58 :: t=64 :: (x ++ 58 :: t):=rfl
   rw [mI,e0,BV hx (kj 58 ey t) rfl]
   have e3:(64 :: (x ++ 58 :: t)).drop (1 + x.length)=58 :: t:=by rw [Nat.add_comm,List.drop_succ_cons,List.drop_left]
   simp only [if_true]
   rw [e3,if_neg (show ¬ bO 44 (58 :: t)=true by simp [bO])]
   simp [cv]
   omega
 |x :: y :: xs,_,h=>by
  have hx:=h x (List.mem_cons_self ..)
  have ih:=tP t (y :: xs) bB (fun z hz=>h z (List.mem_cons_of_mem _ hz))
  have e0:cv (x :: y :: xs) ++ 58 :: t=64 :: (x ++ 44 :: (cv (y :: xs) ++ 58 :: t)):=by
   rw [ko x bB]
   simp
  rw [mI,e0,BV hx (kj 44 ey _) rfl]
  have e3:(64 :: (x ++ 44 :: (cv (y :: xs) ++ 58 :: t))).drop (1 + x.length)=44 :: (cv (y :: xs) ++ 58 :: t):=by rw [Nat.add_comm,List.drop_succ_cons,List.drop_left]
  have e4:(64 :: (x ++ 44 :: (cv (y :: xs) ++ 58 :: t))).drop (1 + x.length + 1)=cv (y :: xs) ++ 58 :: t:=by
   rw [← List.drop_drop,e3]
   rfl
  simp only [if_true]
  rw [e3,if_pos (show bO 44 (44 :: (cv (y :: xs) ++ 58 :: t))=true from rfl),e4,ih,ko x bB]
  simp
  omega
def su:List UInt8→Bool
 | []=>false
 |b :: x=>b == 64 && iY x
def sV (R:List UInt8):Option (List (List UInt8)):=if (pieces 44 R).all su=true then some ((pieces 44 R).map fun p=>p.drop 1) else none
theorem Kf:gh 44=false:=by decide +kernel
theorem sw:∀ xs:List (List UInt8),xs≠ []→(∀ x,x∈xs→iY x=true)→pieces 44 (cv xs)=xs.map fun x=>64 :: x
 | [],h,_ =>absurd rfl h
 | [x],_,h=>by
   have h44:=oJ (h x (List.mem_cons_self ..)) 44 Kf bg
   show pieces 44 (64 :: x)=_
   rw [lM 44 (64 :: x) (fun hm=>by
    rcases List.mem_cons.mp hm with e|hm
    ·exact absurd e bg
    ·exact h44 hm)]
   rfl
 |x :: y :: xs,_,h=>by
  have h44:=oJ (h x (List.mem_cons_self ..)) 44 Kf bg
  rw [ko x bB,show 64 :: (x ++ 44 :: cv (y :: xs))=(64 :: x) ++ 44 :: cv (y :: xs) from rfl,mJ 44 _ (64 :: x) (fun hm=>by
   rcases List.mem_cons.mp hm with e|hm
   ·exact absurd e bg
   ·exact h44 hm),sw (y :: xs) bB (fun z hz=>h z (List.mem_cons_of_mem _ hz))]
  rfl
theorem qZ {p:List UInt8} (h:su p=true):p=64 :: p.drop 1∧iY (p.drop 1)=true:=by
 cases p with
 |nil=>cases h
 |cons b x=>
  unfold su at h
  simp only [Bool.and_eq_true,beq_iff_eq] at h
  rw [h.1]
  exact ⟨rfl,h.2⟩
theorem BW:∀ (n:Nat) (R:List UInt8),R.length < n→(pieces 44 R).all su=true→R=cv ((pieces 44 R).map fun p=>p.drop 1)
 | 0,_,h,_ =>absurd h (Nat.not_lt_zero _)
 |n + 1,R,hn,h=>by
  rcases r9 44 R with hno|⟨w,r,rfl,hw⟩
  ·rw [lM 44 R hno] at h ⊢
   rw [List.all_cons,List.all_nil,Bool.and_true] at h
   exact (qZ h).1
  ·rw [mJ 44 r w hw] at h ⊢
   rw [List.all_cons,Bool.and_eq_true] at h
   have ih:=BW n r (by rw [List.length_append,List.length_cons] at hn;omega) h.2
   have hne:(pieces 44 r).map (fun p=>p.drop 1)≠ []:=fun e=>nW 44 r (List.map_eq_nil_iff.mp e)
   rw [List.map_cons,ko _ hne,← ih]
   have:=(qZ h.1).1
   conv=>lhs;rw [this]
   rfl
theorem sx (R:List UInt8) (xs:List (List UInt8)):sV R=some xs↔xs≠ []∧(∀ x,x∈xs→iY x=true)∧R=cv xs:=by
 unfold sV
 constructor
 ·intro h
  by_cases ha:(pieces 44 R).all su=true
  ·rw [if_pos ha] at h
   obtain rfl:=Option.some.inj h
   refine ⟨fun e=>nW 44 R (List.map_eq_nil_iff.mp e),fun x hx=>?_,BW _ R (Nat.lt_succ_self _) ha⟩
   obtain ⟨p,hp,rfl⟩:=List.mem_map.mp hx
   exact (qZ (List.all_eq_true.mp ha p hp)).2
  ·rw [if_neg ha] at h
   cases h
 ·rintro ⟨h1,h2,rfl⟩
  rw [sw xs h1 h2,if_pos]
  ·rw [List.map_map]
   congr 1
   have:=List.map_congr_left (l:=xs) (f:=(fun p=>List.drop 1 p) ∘fun x=>64 :: x) (g:=id) fun x _ =>rfl
   rw [this,List.map_id]
  ·rw [List.all_eq_true]
   intro p hp
   obtain ⟨x,hx,rfl⟩:=List.mem_map.mp hp
   show (64 == 64 && iY x)=true
   rw [h2 x hx]
   rfl
end Go.Proofs.YtokpnfljjjjikaaGreatDoor.ia
namespace Go.Proofs.YtokpnfljjjjikaaGreatDoor.ia
open Go.RowKit Go.Proofs.YtokpnfljjjjikaaGreatDoor Go.Proofs.YtokpnfljjjjikaaGreatDoor.lO Go.Proofs.aj.bw Go.Proofs.aj.cj
set_option linter.unusedVariables false
set_option linter.unusedSimpArgs false
def oM:Bool→List UInt8→Option Nat
 |_,[]=>none
 |q,b :: l=>
  if b=34 then (oM (!q) l).map (· + 1)
  else if q=true∧b=92 then (match l with
   | []=>none
   |_ :: l'=>(oM q l').map (· + 2))
  else if q=false∧b=62 then some 0
  else (oM q l).map (· + 1)
theorem mK (q:Bool) (b:UInt8) (l:List UInt8):oM q (b :: l)=
 if b=34 then (oM (!q) l).map (· + 1)
 else if q=true∧b=92 then (match l with
  | []=>none
  |_ :: l'=>(oM q l').map (· + 2))
 else if q=false∧b=62 then some 0
 else (oM q l).map (· + 1):=by
 conv=>lhs;unfold oM
theorem tlm (x:List UInt8):(az x).toList=x:=by
 rw [ByteArray.toList_eq]
 rfl
def Passes (t:List UInt8):Prop:=∀ u,oM false (t ++ u)=(oM false u).map (· + t.length)
theorem DR:Passes []:=fun u=>by
 rw [List.nil_append]
 cases oM false u<;>rfl
theorem Passes.append {a b:List UInt8} (ha:Passes a) (hb:Passes b):Passes (a ++ b):=fun u=>by
 rw [List.append_assoc,ha,hb,Option.map_map,List.length_append]
 congr 1
 funext x
 show x + b.length + a.length=_
 omega
theorem q8 (b:UInt8) (h:b≠34) (h2:b≠62):Passes [b]:=fun u=>by
 show oM false (b :: u)=_
 rw [mK,if_neg h,if_neg (fun e=>by cases e.1),if_neg (fun e=>h2 e.2)]
 rfl
theorem kN:∀ t:List UInt8,(∀ b,b∈t→b≠34∧b≠62)→Passes t
 | [],_ =>DR
 |b :: t,h=>by
  have h1:=h b (List.mem_cons_self ..)
  exact (q8 b h1.1 h1.2).append (kN t fun c hc=>h c (List.mem_cons_of_mem _ hc))
theorem pR:∀ (n:Nat) (q acc x:List UInt8),q.length < n→fq q acc=(true,x,q.length)→∀ u,oM true (q ++ u)=(oM false u).map (· + q.length)
 | 0,_,_,_,h,_,_ =>absurd h (Nat.not_lt_zero _)
 |n + 1,q,acc,x,hn,h,u=>by
  cases q with
  |nil=>unfold fq at h;cases (Prod.mk.inj h).1
  |cons b l=>
   unfold fq at h
   rw [List.length_cons] at hn h
   by_cases hq:b=34
   ·rw [if_pos hq] at h
    have e:l.length=0:=by have:=(Prod.mk.inj (Prod.mk.inj h).2).2;omega
    have el:l= []:=List.eq_nil_of_length_eq_zero e
    subst el
    show oM true (b :: u)=_
    rw [mK,if_pos hq]
    rfl
   ·rw [if_neg hq] at h
    by_cases hb:b=92
    ·rw [if_pos hb] at h
     cases l with
     |nil=>cases (Prod.mk.inj h).1
     |cons c l=>
      by_cases hc:c < 32∨126 < c
      ·simp only [if_pos hc] at h
       cases (Prod.mk.inj h).1
      ·simp only [if_neg hc,Prod.mk.injEq,List.length_cons] at h
       rw [List.length_cons] at hn
       obtain ⟨h1,h2,h3⟩:=h
       have ih:=pR n l (acc ++ [c]) x ak (Prod.ext h1 (Prod.ext h2 (by show _=l.length;omega))) u
       show oM true (b :: c :: (l ++ u))=_
       rw [mK,if_neg hq,if_pos ⟨rfl,hb⟩]
       simp only
       rw [ih,Option.map_map,List.length_cons,List.length_cons]
       congr 1
    ·rw [if_neg hb] at h
     by_cases hc:b < 32∨126 < b
     ·rw [if_pos hc] at h
      cases (Prod.mk.inj h).1
     ·rw [if_neg hc] at h
      simp only [Prod.mk.injEq] at h
      obtain ⟨h1,h2,h3⟩:=h
      have ih:=pR n l (acc ++ [b]) x ak (Prod.ext h1 (Prod.ext h2 (by show _=l.length;omega))) u
      show oM true (b :: (l ++ u))=_
      rw [mK,if_neg hq,if_neg (fun e=>hb e.2),if_neg (fun e=>by cases e.1),ih,Option.map_map,List.length_cons]
      congr 1
theorem sW:∀ (l:List UInt8) (d:Bool),jC d l=true→∀ b,b∈l→b=46∨fQ b=true
 | [],_,_,b,hb=>by cases hb
 |c :: l,d,h,b,hb=>by
  unfold jC at h
  by_cases h46:c=46
  ·rw [if_pos h46] at h
   by_cases hd:d=true
   ·rw [if_pos hd] at h;cases h
   ·rw [if_neg hd] at h
    rcases List.mem_cons.mp hb with rfl|hb
    ·exact .inl h46
    ·exact sW l true h b hb
  ·rw [if_neg h46] at h
   by_cases ha:fQ c=true
   ·rw [if_pos ha] at h
    rcases List.mem_cons.mp hb with rfl|hb
    ·exact .inr ha
    ·exact sW l false h b hb
   ·rw [if_neg ha] at h;cases h
theorem DT (b:UInt8):fQ b=true→b≠34∧b≠62:=ez (Q:=fun b=>fQ b=true→b≠34∧b≠62) ey b
theorem Ag {w:List UInt8} {X:ByteArray} (h:dB w=(true,X,w.length)):Passes w:=by
 unfold dB at h
 by_cases hq:bO 34 w=true
 ·obtain ⟨q,rfl⟩:=yt hq
  rw [if_pos hq,List.drop_one,List.tail_cons,List.length_cons] at h
  obtain ⟨h1,h2⟩:=Prod.mk.inj h
  obtain ⟨h2,h3⟩:=Prod.mk.inj h2
  intro u
  have e:=pR _ q [] (fq q []).2.1 (Nat.lt_succ_self _) (Prod.ext h1 (Prod.ext rfl (by show _=q.length;omega))) u
  show oM false (34 :: (q ++ u))=_
  rw [mK,if_pos rfl,show (!false)=true from rfl,e,Option.map_map]
  rfl
 ·rw [if_neg hq] at h
  obtain ⟨h1,h2⟩:=Prod.mk.inj h
  obtain ⟨h2,h3⟩:=Prod.mk.inj h2
  have hp:jC true w=true:=by rw [wR _ w (Nat.lt_succ_self _)];exact decide_eq_true (Prod.ext h1 h3)
  refine kN w fun b hb=>?_
  rcases sW w true hp b hb with rfl|ha
  ·decide
  ·exact DT b ha
theorem wU {d:List UInt8} (h:iY d=true):∀ b,b∈d→b≠34∧b≠62:=fun b hb=>
 ⟨fun e=>oJ h 34 ey bg (e ▸ hb),fun e=>oJ h 62 ey bg (e ▸ hb)⟩
theorem DL.passes {t lo dom:List UInt8} {lit:Bool} {w d:List UInt8} (B:DL t lo dom lit w d):Passes t:=by
 obtain ⟨rfl,lw,dd⟩:=B
 refine (Ag lw).append ((q8 64 bg bg).append (b:=d) ?_)
 rcases dd with ⟨rfl,x,rfl,hx,rfl⟩|⟨rfl,hf,rfl⟩
 ·refine kN _ fun b hb=>?_
  rcases List.mem_cons.mp hb with rfl|hb
  ·decide
  ·rcases List.mem_append.mp hb with hb|hb
   ·have:=yq x hx b hb
    unfold qY at this
    simp only [Bool.and_eq_true,bne_iff_ne] at this
    exact ⟨this.2.2,this.2.1⟩
   ·rw [List.mem_singleton.mp hb]
    decide
 ·exact kN _ (wU hf)
theorem pS:∀ xs:List (List UInt8),(∀ x,x∈xs→iY x=true)→∀ b,b∈cv xs→(b≠34∧b≠62)∧b≠58
 | [],_,b,hb=>by cases hb
 |x :: xs,h,b,hb=>by
  have hx:=h x (List.mem_cons_self ..)
  have h1:∀ b,b∈x→(b≠34∧b≠62)∧b≠58:=fun b hb=>⟨wU hx b hb,fun e=>oJ hx 58 ey bg (e ▸ hb)⟩
  by_cases hxs:xs= []
  ·subst hxs
   rcases List.mem_cons.mp (show b∈64 :: x from hb) with rfl|hb
   ·decide
   ·exact h1 b hb
  ·rw [ko x hxs] at hb
   rcases List.mem_cons.mp hb with rfl|hb
   ·decide
   ·rcases List.mem_append.mp hb with hb|hb
    ·exact h1 b hb
    ·rcases List.mem_cons.mp hb with rfl|hb
     ·decide
     ·exact pS xs (fun y hy=>h y (List.mem_cons_of_mem _ hy)) b hb
def kO:List UInt8:=[112,111,115,116,109,97,115,116,101,114]
def lN (c:UInt8):List UInt8→Option (List UInt8×List UInt8)
 | []=>none
 |b :: l=>if b=c then some ([],l) else (lN c l).map fun p=>(b :: p.1,p.2)
theorem qD (c:UInt8):∀ l:List UInt8,c ∉ l→lN c l=none
 | [],_ =>rfl
 |b :: l,h=>by
  unfold lN
  rw [if_neg (show ¬ b=c from fun e=>h zi),qD c l (fun hm=>h (List.mem_cons_of_mem _ hm))]
  rfl
theorem nS (c:UInt8) (r:List UInt8):∀ w:List UInt8,c ∉ w→lN c (w ++ c :: r)=some (w,r)
 | [],_ =>by
   show lN c (c :: r)=_
   unfold lN
   rw [if_pos rfl]
 |b :: w,h=>by
  rw [List.cons_append]
  unfold lN
  rw [if_neg (show ¬ b=c from fun e=>h zi),nS c r w (fun hm=>h (List.mem_cons_of_mem _ hm))]
  rfl
abbrev InR:=List (List UInt8)×List UInt8×List UInt8×Bool
def sX (t:List UInt8):Option InR:=
 if bO 64 t=true then (lN 58 t).bind fun p=>(sV p.1).bind fun xs=>(sj p.2).bind fun m=>some (xs,m.1,m.2.1,m.2.2)
 else (sj t).bind fun m=>some ([],m.1,m.2.1,m.2.2)
def wV (xs:List (List UInt8)):List (List UInt8):=xs.map fun x=>x.map dI
theorem GZ (b:UInt8):dI b∈kO→b≠64∧b≠34∧b≠62:=ez (Q:=fun b=>dI b∈kO→b≠64∧b≠34∧b≠62) ey b
theorem DU {t:List UInt8} (h:t.map dI=kO) {b:UInt8} (hb:b∈t):b≠64∧b≠34∧b≠62:=GZ b (by rw [← h];exact List.mem_map_of_mem hb)
theorem DV {t u:List UInt8} (h:t.map dI=kO):gI (t ++ 62 :: u)=true∧t.length=10:=by
 have hl:t.length=10:=by
  have:=congrArg List.length h
  rwa [List.length_map] at this
 refine ⟨?_,hl⟩
 unfold gI
 rw [DM (a:=t) rfl hl.symm,jN,h]
 have e:(t ++ 62 :: u).drop 10=62 :: u:=by rw [← hl,List.drop_left]
 rw [e,decide_eq_true (by rw [List.length_append,List.length_cons];omega),tlm]
 rfl
theorem Kg (u:List UInt8):jM gh (62 :: u):=kj 62 ey u
theorem BX {t:List UInt8} {xs:List (List UInt8)} {lo dom:List UInt8} {lit:Bool} (h:sX t=some (xs,lo,dom,lit)) (u:List UInt8):
 gq (t ++ 62 :: u)=(true,(wV xs).map az,az lo,az dom,lit,t.length)∧gI (t ++ 62 :: u)=false∧Passes t∧t≠ []∧(64:UInt8)∈t:=by
 unfold sX at h
 by_cases h64:bO 64 t=true
 ·rw [if_pos h64] at h
  obtain ⟨⟨R,b⟩,h1,h⟩:=Option.bind_eq_some_iff.mp h
  obtain ⟨ys,h2,h⟩:=Option.bind_eq_some_iff.mp h
  obtain ⟨m,h3,h⟩:=Option.bind_eq_some_iff.mp h
  have h:=Option.some.inj h
  simp only [Prod.mk.injEq] at h
  obtain ⟨rfl,rfl,rfl,rfl⟩:=h
  obtain ⟨y1,y2,rfl⟩:=(sx R ys).mp h2
  obtain ⟨w,d,B⟩:=(Af b m.1 m.2.1 m.2.2).mp h3
  have ht:t=cv ys ++ 58 :: b:=by
   rcases r9 58 t with hn|⟨w2,r2,rfl,hw2⟩
   ·rw [qD 58 t hn] at h1;cases h1
   ·rw [nS 58 r2 w2 hw2] at h1
    have:=Option.some.inj h1
    rw [(Prod.mk.inj this).1,(Prod.mk.inj this).2]
  subst ht
  have hal:gI (cv ys ++ 58 :: b ++ 62 :: u)=false:=by
   obtain ⟨l,hl⟩:=nD ys y1
   rw [hl]
   exact BL _
  have hnx:bO 64 (cv ys ++ 58 :: b ++ 62 :: u)=true:=by
   obtain ⟨l,hl⟩:=nD ys y1
   rw [hl]
   rfl
  have e0:cv ys ++ 58 :: b ++ 62 :: u=cv ys ++ 58 :: (b ++ 62 :: u):=by simp
  refine ⟨?_,hal,?_,bB,?_⟩
  ·unfold gq
   rw [if_neg (by rw [hal];decide),if_pos hnx,e0,tP (b ++ 62 :: u) ys y1 y2]
   simp only [if_true]
   have e1:(cv ys ++ 58 :: (b ++ 62 :: u)).drop (cv ys).length=58 :: (b ++ 62 :: u):=List.drop_left
   have e2:(cv ys ++ 58 :: (b ++ 62 :: u)).drop ((cv ys).length + 1)=b ++ 62 :: u:=by rw [← List.drop_drop,e1];rfl
   rw [e1,if_pos (show bO 58 (58 :: (b ++ 62 :: u))=true from rfl),e2,sU B (Kg u) rfl]
   simp only
   congr 5
   rw [List.length_append,List.length_cons]
   omega
  ·refine (kN _ fun c hc=>(pS ys y2 c hc).1).append ((q8 58 bg bg).append (b:=b) B.passes)
  ·rw [B.tx]
   simp
 ·rw [if_neg h64] at h
  obtain ⟨m,h3,h⟩:=Option.bind_eq_some_iff.mp h
  have h:=Option.some.inj h
  simp only [Prod.mk.injEq] at h
  obtain ⟨rfl,rfl,rfl,rfl⟩:=h
  obtain ⟨w,d,B⟩:=(Af t m.1 m.2.1 m.2.2).mp h3
  have hb:=sU B (Kg u) rfl
  have hne:t≠ []:=by rw [B.tx];simp
  have hal:gI (t ++ 62 :: u)=false:=by
   cases ha:gI (t ++ 62 :: u) with
   |false=>rfl
   |true=>
    have:=x9 _ ha
    rw [hb] at this
    cases this
  have hnx: ¬ bO 64 (t ++ 62 :: u)=true:=by
   cases t with
   |nil=>exact absurd rfl hne
   |cons c t=>exact h64
  refine ⟨?_,hal,B.passes,hne,by rw [B.tx];simp⟩
  unfold gq
  rw [if_neg (by rw [hal];decide),if_neg hnx,hb]
  rfl
inductive afg where
 |bad
 |null
 |alone
 |box (xs:List (List UInt8)) (lo dom:List UInt8) (lit:Bool) (n:Nat)
end Go.Proofs.YtokpnfljjjjikaaGreatDoor.ia
namespace Go.Proofs.YtokpnfljjjjikaaGreatDoor.ia
open Go.RowKit Go.Proofs.YtokpnfljjjjikaaGreatDoor Go.Proofs.YtokpnfljjjjikaaGreatDoor.lO Go.Proofs.aj.bw Go.Proofs.aj.cj
theorem yu (s:ByteArray):rest s 0=s.data.toList:=rfl
theorem prefix_eq (s:ByteArray) (hs:s.size < 4611686018427387904):strings_HasPrefix.f s ⟨#[60,62]⟩=some (tL s.data.toList):=by
 have hlen:=dz s
 unfold strings_HasPrefix.f stringslite_HasPrefix.f
 have h2:((⟨#[60,62]⟩:ByteArray).size:Int)=2:=rfl
 rw [h2]
 by_cases h: 2≤s.size
 ·rw [if_pos ak,if_pos ak,if_pos ak]
  simp only [Option.bind_some]
  congr 1
  have e:s.extract 0 ((2:Int)).toNat=az (s.data.toList.take 2):=by
   have:=gF s 0 2 ak
   simpa [yu] using this
  rw [e,ByteArray.toList_eq,ByteArray.toList_eq]
  show (s.data.toList.take 2 == [60,62])=_
  unfold tL
  rcases hl:s.data.toList with _|⟨a,_|⟨b,l⟩⟩
  ·rw [hl] at hlen;simp at hlen;omega
  ·rw [hl] at hlen;simp at hlen;omega
  ·show ([a,b] == [60,62])=((a == 60) && (b == 62))
   simp [BEq.beq,List.beq]
 ·rw [if_neg ak]
  simp only [Option.bind_some]
  congr 1
  unfold tL
  rcases hl:s.data.toList with _|⟨a,_|⟨b,l⟩⟩
  ·rfl
  ·show false=((a == 60) && false)
   rw [Bool.and_false]
  ·rw [hl] at hlen;simp at hlen;omega
theorem yw (s:ByteArray) (hs:s.size < 4294967281) (k:Nat) (hk:s.size + 6 < k) (h0:tL s.data.toList=false) (h:GP s.data.toList=true):
 bM.f k s=bM.j0 k false s ((2 + (gq (s.data.toList.drop 1)).2.2.2.2.2:Nat):Int) false (gq (s.data.toList.drop 1)).2.1 (gq (s.data.toList.drop 1)).2.2.1 (gq (s.data.toList.drop 1)).2.2.2.1 (gq (s.data.toList.drop 1)).2.2.2.2.1:=by
 unfold GP at h
 simp only [Bool.and_eq_true] at h
 obtain ⟨⟨h1,h2⟩,h3⟩:=h
 have hpos:=lf h1
 rw [dz] at hpos
 unfold bM.f
 rw [prefix_eq s ak]
 simp only [Option.bind_some]
 rw [if_neg (by rw [h0];decide)]
 rw [show (0:Int)=((0:Nat):Int) from rfl,kM s 0 60 60 rfl ak,yu,if_pos h1]
 simp only [Option.bind_some,Nat.zero_add]
 have hr1:rest s 1=s.data.toList.drop 1:=rfl
 rw [inner_eq s hs k 1 l6 ak,hr1]
 simp only [Option.bind_some]
 rw [if_pos h1,if_pos h2,kM s _ 62 62 rfl ak]
 have hr2:rest s (1 + (gq (s.data.toList.drop 1)).2.2.2.2.2)=s.data.toList.drop (1 + (gq (s.data.toList.drop 1)).2.2.2.2.2):=rfl
 rw [hr2,h3]
 simp only [Option.bind_some,if_true,Bool.not_true]
 rw [show 1 + (gq (s.data.toList.drop 1)).2.2.2.2.2 + 1=2 + (gq (s.data.toList.drop 1)).2.2.2.2.2 from by omega]
theorem BZ (b:List ByteArray) (c d c2 d2:ByteArray) (a e a2 e2:Bool):∀ (k i:Nat),b.length - i < k→i≤b.length→b.length < 4611686018427387904→aN.l0 k (b.length:Int) (i:Int) a b c d e a2 b c2 d2 e2=some true
 | 0,_,h,_,_ =>absurd h (Nat.not_lt_zero _)
 |k + 1,i,h,hi,hl=>by
  unfold aN.l0
  by_cases hlt:i < b.length
  ·rw [if_pos ak,if_pos ak,if_pos ak,if_pos ak,if_pos rfl,lY i ak]
   exact BZ b c d c2 d2 a e a2 e2 k (i + 1) ak ak hl
  ·rw [if_neg ak]
theorem G0 (a:Bool) (b:List ByteArray) (c d:ByteArray) (e:Bool) (k:Nat) (hk:b.length + 2 < k) (hl:b.length < 4611686018427387904):aN.f k a b c d e a b c d e=some true:=by
 unfold aN.f
 obtain ⟨k,rfl⟩:∃ k',k=k' + 1:=⟨k - 1,ak⟩
 rw [if_neg bB,if_neg bB,aN.j0,if_neg bB]
 exact BZ b c d c d a e a e k 0 ak (Nat.zero_le _) hl
theorem DW:br.f 100=some true:=by decide +kernel
theorem q9 (k:Nat) (hk: 100≤k):br.f k=some true:=pW (fun k=>br.mono k) hk DW
end Go.Proofs.YtokpnfljjjjikaaGreatDoor.ia
namespace Go.Proofs.YtokpnfljjjjikaaGreatDoor.ia
open Go.RowKit Go.Proofs.YtokpnfljjjjikaaGreatDoor Go.Proofs.YtokpnfljjjjikaaGreatDoor.lO Go.Proofs.aj.bw Go.Proofs.aj.cj
set_option linter.unusedVariables false
set_option linter.unusedSimpArgs false
def gX (x:ByteArray):Bool:=(dJ.f (x.size + 3) x).getD false
theorem n7 (x:ByteArray) (k:Nat) (hk:x.size + 2 < k):dJ.f k x=some (gX x):=by
 obtain ⟨r,hr⟩:=DD x (x.size + 3) ak
 have h1:gX x=r:=by unfold gX;rw [hr];rfl
 rw [h1]
 exact pW (fun k=>dJ.mono x k) ak hr
theorem DX (x:ByteArray) (h:gX x=true):x.size≤255:=by
 have h1:=n7 x (x.size + 3) ak
 rw [h] at h1
 unfold dJ.f at h1
 split at h1
 ·omega
 ·cases h1
theorem tQ {g:ByteArray→Bool} {k0:Nat} {xs:List ByteArray} (hf:∀ y,y∈xs→∀ k,k0≤k→dX.f k y=some (g y)):∀ (k i:Nat),xs.length - i + k0 < k→i≤xs.length→xs.length < 4611686018427387904→
 ∃ r,aB.l0 k xs (xs.length:Int) (i:Int)=some r∧decide (r≥0)=(xs.drop i).any g
 | 0,_,h,_,_ =>absurd h (Nat.not_lt_zero _)
 |k + 1,i,h,hi,hl=>by
  unfold aB.l0
  by_cases hlt:i < xs.length
  ·rw [if_pos ak,if_pos ak,if_pos ak]
   have hrd:jv ByteArray.empty xs (i:Int)=xs[i]:=by simp [jv,hlt]
   have hd:xs.drop i=xs[i] :: xs.drop (i + 1):=List.drop_eq_getElem_cons hlt
   rw [hrd,hf xs[i] (List.getElem_mem hlt) k ak,hd,List.any_cons]
   simp only [Option.bind_some]
   cases hg:g xs[i] with
   |true=>exact ⟨_,if_pos rfl,bB⟩
   |false=>
    rw [if_neg bg,lY i ak]
    obtain ⟨r,h1,h2⟩:=tQ hf k (i + 1) ak ak hl
    exact ⟨r,h1,by rw [h2];rfl⟩
  ·rw [if_neg ak,List.drop_of_length_le ak]
   exact ⟨_,rfl,rfl⟩
theorem B0 {g:ByteArray→Bool} {k0:Nat} {xs:List ByteArray} (hf:∀ y,y∈xs→∀ k,k0≤k→dX.f k y=some (g y)) (k:Nat) (hk:xs.length + k0 < k) (hl:xs.length < 4611686018427387904):bf.f k xs=some (xs.any g):=by
 obtain ⟨r,h1,h2⟩:=tQ hf k 0 ak (Nat.zero_le _) hl
 unfold bf.f aB.f
 rw [show (0:Int)=((0:Nat):Int) from rfl,h1]
 simp only [Option.bind_some]
 rw [show decide (r≥((0:Nat):Int))=decide (r≥0) from rfl,h2,List.drop_zero]
theorem tR {g:ByteArray→Bool} {k0:Nat} {xs:List ByteArray} (hf:∀ y,y∈xs→∀ k,k0≤k→gU.f k y=some (g y)):∀ (k i:Nat),xs.length - i + k0 < k→i≤xs.length→xs.length < 4611686018427387904→
 ∃ r,bp.l0 k xs (xs.length:Int) (i:Int)=some r∧decide (r≥0)=(xs.drop i).any g
 | 0,_,h,_,_ =>absurd h (Nat.not_lt_zero _)
 |k + 1,i,h,hi,hl=>by
  unfold bp.l0
  by_cases hlt:i < xs.length
  ·rw [if_pos ak,if_pos ak,if_pos ak]
   have hrd:jv ByteArray.empty xs (i:Int)=xs[i]:=by simp [jv,hlt]
   have hd:xs.drop i=xs[i] :: xs.drop (i + 1):=List.drop_eq_getElem_cons hlt
   rw [hrd,hf xs[i] (List.getElem_mem hlt) k ak,hd,List.any_cons]
   simp only [Option.bind_some]
   cases hg:g xs[i] with
   |true=>exact ⟨_,if_pos rfl,bB⟩
   |false=>
    rw [if_neg bg,lY i ak]
    obtain ⟨r,h1,h2⟩:=tR hf k (i + 1) ak ak hl
    exact ⟨r,h1,by rw [h2];rfl⟩
  ·rw [if_neg ak,List.drop_of_length_le ak]
   exact ⟨_,rfl,rfl⟩
theorem B6 {g:ByteArray→Bool} {k0:Nat} {xs:List ByteArray} (hf:∀ y,y∈xs→∀ k,k0≤k→gU.f k y=some (g y)) (k:Nat) (hk:xs.length + k0 < k) (hl:xs.length < 4611686018427387904):bR.f k xs=some (xs.any g):=by
 obtain ⟨r,h1,h2⟩:=tR hf k 0 ak (Nat.zero_le _) hl
 unfold bR.f bp.f
 rw [show (0:Int)=((0:Nat):Int) from rfl,h1]
 simp only [Option.bind_some]
 rw [show decide (r≥((0:Nat):Int))=decide (r≥0) from rfl,h2,List.drop_zero]
structure Fits (ds:List (List UInt8)) (lo dom:List UInt8) (lit:Bool):Prop where
 los:lo.length≤64
 doms:lit=false→gX (az dom)=true
 many:ds.length≤20
 each:∀ d,d∈ds→gX (az d)=true
theorem n9 (lo dom:List UInt8) (lit:Bool) (k:Nat) (hk:dom.length + 2 < k):cX.f k (az lo) (az dom) lit=some (decide (lo.length≤64) && (lit || gX (az dom))):=by
 unfold cX.f
 rw [bT]
 by_cases h:lo.length≤64
 ·rw [if_pos ak,decide_eq_true h,Bool.true_and]
  cases lit with
  |true=>rfl
  |false=>
   rw [if_neg bg,n7 _ k (by rw [bT];exact hk)]
   rfl
 ·rw [if_neg ak,decide_eq_false h]
  rfl
theorem G1 (y:ByteArray) (k:Nat) (hk:y.size + 2 < k):dX.f k y=some (!gX y):=by
 unfold dX.f
 rw [n7 y k hk]
 rfl
theorem Nb (k:Nat) (s:ByteArray) (q:Int) (ds:List (List UInt8)) (lo dom:List UInt8) (lit:Bool) (hf:Fits ds lo dom lit) (M:Nat) (hM:∀ d,d∈ds→d.length≤M) (hd:dom.length≤M) (hk:ds.length + M + 5 < k):
 bM.j0 k false s q false (ds.map az) (az lo) (az dom) lit=some (false,ds.map az,az lo,az dom,lit,q,0):=by
 have hl:=hf.many
 obtain ⟨k,rfl⟩:∃ k',k=k' + 1:=⟨k - 1,ak⟩
 rw [bM.j0,if_neg bg,n9 lo dom lit k ak]
 simp only [Option.bind_some]
 have hw:(decide (lo.length≤64) && (lit || gX (az dom)))=true:=by
  rw [decide_eq_true hf.los,Bool.true_and]
  cases lit with
  |true=>rfl
  |false=>rw [hf.doms rfl];rfl
 rw [if_pos hw,List.length_map,if_neg ak]
 rw [B0 (g:=fun y=>!gX y) (k0:=M + 3) (fun y hy k hk=>by
  obtain ⟨d,hd',rfl⟩:=List.mem_map.mp hy
  have:=hM d hd'
  exact G1 _ k fS) k kU kU]
 simp only [Option.bind_some]
 rw [if_neg]
 intro ha
 obtain ⟨y,hy,h1⟩:=List.any_eq_true.mp ha
 obtain ⟨d,hd',rfl⟩:=List.mem_map.mp hy
 rw [hf.each d hd'] at h1
 cases h1
theorem qj (l:List UInt8):rest (az l) 0=l:=rfl
theorem G3 (d:List UInt8) (h:iV d) (hs:gX (az d)=true) (hl:d.length < 4294967281) (k:Nat) (hk:d.length + 3 < k):gZ.f k (az d)=some true:=by
 unfold gZ.f
 have h1:=domain_eq (az d) fS k 0 (by rw [qj];omega) (Nat.zero_le _)
 rw [qj] at h1
 have h2:=h.read (t:=[]) (by intro b t' e;cases e) rfl
 rw [List.append_nil] at h2
 rw [h2] at h1
 rw [show (0:Int)=((0:Nat):Int) from rfl,h1]
 simp only [Option.bind_some]
 rw [if_pos trivial,if_pos fS,n7 _ k fS,hs]
 rfl
theorem Gd (d:List UInt8) (h:d.map dI=d) (hl:d.length < 4294967281):b7.f (az d)=some (az d):=by
 unfold b7.f
 rw [if_pos fS,jN,h]
theorem toList_mk (l:List UInt8):(az l).toList=l:=ByteArray.toList_eq ..
theorem Ge (d:List UInt8) (h:iV d) (hs:gX (az d)=true) (hl:d.length < 4294967281) (k:Nat) (hk:d.length + 3 < k):iT.f k (az d)=some true:=by
 unfold iT.f
 rw [G3 d h hs hl k hk]
 simp only [Option.bind_some]
 rw [if_pos trivial,Gd d h.2 hl]
 simp
theorem Nc (l:List UInt8) (i:Nat) (hi:i < l.length) (h:∀ b,b∈l→wG b): ¬ bt (az l) (i:Int) < 32∧¬ bt (az l) (i:Int) > 126:=by
 have e:=F6 l i hi
 have hf:wG (l.getD i 0):=h _ (by
  rw [List.getD_eq_getElem?_getD,List.getElem?_eq_getElem hi]
  exact List.getElem_mem hi)
 rw [e]
 refine ⟨fun h1=>hf (.inl (Dz.mp h1)),fun h1=>hf (.inr (wu.mp h1))⟩
theorem yx {ds:List (List UInt8)} {lo dom:List UInt8} {lit:Bool} (h:nZ lo dom lit) (hf:Fits ds lo dom lit) (hl:dom.length < 4294967281):∀ (k i:Nat),lo.length - i + dom.length + 6 < k→i≤lo.length→
 cC.l0 k (lo.length:Int) (i:Int) (az lo) (az dom) lit=some true
 | 0,_,h,_ =>absurd h (Nat.not_lt_zero _)
 |k + 1,i,hk,hi=>by
  have h64:=hf.los
  unfold cC.l0
  by_cases hlt:i < lo.length
  ·obtain ⟨b1,b2⟩:=Nc lo i hlt h.los
   rw [if_pos ak,if_pos ak,if_pos fS,if_neg b1,if_neg b2,lY i ak]
   exact yx h hf hl k (i + 1) ak ak
  ·rw [if_neg ak]
   cases lit with
   |true=>
    obtain ⟨w1,w2,w3⟩:=h.words rfl
    rw [if_pos rfl,n9 lo dom true k ak,decide_eq_true h64]
    simp only [Option.bind_some,Bool.true_or,Bool.true_and,if_true]
    rw [qV dom hl k ak,← uO dom hl,w1]
    simp only [Option.bind_some,if_true]
    rw [Gd dom w3 hl]
    simp
   |false=>
    rw [if_neg bg,n9 lo dom false k ak,decide_eq_true h64,hf.doms rfl]
    simp only [Option.bind_some,Bool.or_true,Bool.true_and,if_true,Bool.false_or]
    rw [Ge dom (h.doms rfl) (hf.doms rfl) hl k ak]
    rfl
theorem Ca {ds:List (List UInt8)} {lo dom:List UInt8} {lit:Bool} (h:nZ lo dom lit) (hf:Fits ds lo dom lit) (hl:dom.length < 4294967281) (k:Nat) (hk:dom.length + 80 < k):cC.f k (az lo) (az dom) lit=some true:=by
 have h64:=hf.los
 unfold cC.f
 rw [bT]
 exact yx h hf hl k 0 ak (Nat.zero_le _)
theorem Kh {ds:List (List UInt8)} {lo dom:List UInt8} {lit:Bool} (hds:∀ d,d∈ds→iV d) (h:nZ lo dom lit) (hf:Fits ds lo dom lit) (hne:dom≠ []) (M:Nat) (hM:∀ d,d∈ds→d.length≤M) (hd:dom.length≤M) (hl:M < 4294967281) (k:Nat) (hk:M + 110 < k):
 dZ.f k false (ds.map az) (az lo) (az dom) lit=some true:=by
 have h20:=hf.many
 unfold dZ.f
 rw [if_neg bg,toList_mk,toList_mk]
 rw [if_neg (by
  simp only [Bool.and_eq_true,beq_iff_eq]
  rintro ⟨_,e,_⟩
  exact hne e)]
 rw [Ca h hf ak k ak]
 simp only [Option.bind_some,if_true,List.length_map]
 rw [if_pos ak]
 rw [B6 (g:=fun _ =>false) (k0:=M + 4) (fun y hy k hk=>by
  obtain ⟨d,hd',rfl⟩:=List.mem_map.mp hy
  have:=hM d hd'
  unfold gU.f
  rw [Ge d (hds d hd') (hf.each d hd') ak k ak]
  rfl) k kU kU]
 simp
theorem jg (a b:List UInt8):az a ++ az b=az (a ++ b):=by
 apply ByteArray.ext
 rw [← Array.toList_inj]
 simp [az]
theorem G5 (l:List UInt8):qO (az l)=az (qL l):=by
 have e:iy (bytesOf (az l))=jU (qL l):=by
  rw [wM]
  induction l with
  |nil=>rfl
  |cons b l ih=>
   have e1:qL (b :: l)=qB b ++ qL l:=rfl
   rw [e1,List.map_cons]
   show nQ (b.toNat:Int) ++ iy (l.map fun b=>(b.toNat:Int))=jU (qB b ++ qL l)
   rw [ih]
   unfold jU
   rw [List.map_append]
   congr 1
   exact ez (Q:=fun b=>nQ (b.toNat:Int)=(qB b).map fun b=>(b.toNat:Int)) ey b
 unfold qO
 rw [e,BI]
theorem Gf (lo dom:List UInt8) (lit:Bool) (l:List UInt8):KH (az l) (az dom) lit=az (l ++ (if lit=true then 64 :: 91 :: (dom ++ [93]) else 64 :: dom)):=by
 unfold KH
 cases lit with
 |true=>
  rw [if_pos rfl,if_pos rfl]
  show ((az l ++ az [64,91]) ++ az dom) ++ az [93]=_
  rw [jg,jg,jg]
  simp
 |false=>
  rw [if_neg bg,if_neg bg]
  show (az l ++ az [64]) ++ az dom=_
  rw [jg,jg]
  simp
theorem tS {ds:List (List UInt8)} {lo dom:List UInt8} {lit:Bool} (h:nZ lo dom lit) (hf:Fits ds lo dom lit) (hl:dom.length < 4294967281) (k:Nat) (hk:dom.length + 80 < k):eG.f k (az lo) (az dom) lit=some (az (gm lo dom lit),0):=by
 have h64:=hf.los
 unfold eG.f
 rw [Ca h hf hl k hk]
 simp only [Option.bind_some,if_true]
 unfold aC.f
 have h1:=sP (az lo) fS k 0 (by rw [qj];omega) (Nat.zero_le _)
 rw [qj] at h1
 rw [show (0:Int)=((0:Nat):Int) from rfl,h1]
 simp only [Option.bind_some]
 rw [if_pos ⟨fS,fS⟩]
 congr 2
 unfold gm gW Aa
 by_cases hp:((eI fJ 46 lo).1 && (eI fJ 46 lo).2 == lo.length)=true
 ·rw [if_pos hp,if_pos (by
   simp only [Bool.and_eq_true,beq_iff_eq] at hp
   exact ⟨hp.1,by rw [bT,hp.2];simp⟩),Gf lo]
 ·rw [if_neg hp,if_neg (by
   intro h2
   apply hp
   simp only [Bool.and_eq_true,beq_iff_eq]
   refine ⟨h2.1,?_⟩
   have:=h2.2
   rw [bT] at this
   omega)]
  have e:uw (az lo)=az (34 :: (qL lo ++ [34])):=by
   unfold uw
   rw [G5]
   show (az [34] ++ az (qL lo)) ++ az [34]=_
   rw [jg,jg]
   simp
  rw [e,Gf lo]
theorem wW:∀ (d:List UInt8) (ds:List (List UInt8)),64 :: Lib.join (d :: ds) [44,64]=cv (d :: ds)
 |d,[]=>by simp [Lib.join,cv,List.intercalate]
 |d,d2 :: ds=>by
  have ih:=wW d2 ds
  have e:Lib.join (d :: d2 :: ds) [44,64]=d ++ 44 :: 64 :: Lib.join (d2 :: ds) [44,64]:=by
   unfold Lib.join
   simp [List.intercalate,List.intersperse]
  rw [e,ih]
  rfl
theorem Ki (d:List UInt8) (ds:List (List UInt8)):(⟨#[64]⟩:ByteArray) ++ joinL ((d :: ds).map az) ⟨#[44,64]⟩=az (cv (d :: ds)):=by
 have e:joinL ((d :: ds).map az) ⟨#[44,64]⟩=az (Lib.join (d :: ds) [44,64]):=by
  unfold joinL
  rw [List.map_map]
  have:((fun x:ByteArray=>x.data.toList) ∘az)=id:=by
   funext l
   simp [az]
  rw [this,List.map_id]
  rfl
 rw [e]
 show az [64] ++ _=_
 rw [jg]
 exact congrArg az (wW d ds)
theorem Cb {ds:List (List UInt8)} {lo dom:List UInt8} {lit:Bool} (hds:∀ d,d∈ds→iV d) (h:nZ lo dom lit) (hf:Fits ds lo dom lit) (hne:dom≠ []) (M:Nat) (hM:∀ d,d∈ds→d.length≤M) (hd:dom.length≤M) (hl:M < 4294967281) (hw:(fT ds lo dom lit).length < 4294967281) (k:Nat) (hk:M + 110 < k):
 dK.f k false (ds.map az) (az lo) (az dom) lit=some (az (60 :: (fT ds lo dom lit ++ [62])),0):=by
 unfold dK.f
 rw [Kh hds h hf hne M hM hd hl k hk]
 simp only [Option.bind_some,if_true]
 rw [if_neg bg,if_neg (by rw [toList_mk];exact hne),tS h hf ak k ak]
 simp only [Option.bind_some]
 cases ds with
 |nil=>
  have hw':(gm lo dom lit).length < 4294967281:=hw
  rw [if_neg bB,if_pos fS]
  have e:(⟨#[60]⟩:ByteArray) ++ az (gm lo dom lit)=az (60 :: gm lo dom lit):=jg [60] _
  rw [e,if_pos (by rw [bT,List.length_cons];omega)]
  have e2:az (60 :: gm lo dom lit) ++ (⟨#[62]⟩:ByteArray)=az (60 :: (gm lo dom lit ++ [62])):=jg (60 :: gm lo dom lit) [62]
  rw [e2]
  rfl
 |cons d ds=>
  have hw':(cv (d :: ds) ++ 58 :: gm lo dom lit).length < 4294967281:=hw
  rw [List.length_append,List.length_cons] at hw'
  have e0:=Ki d ds
  have es: 1 + (joinL ((d :: ds).map az) ⟨#[44,64]⟩).size=(cv (d :: ds)).length:=by
   have:=congrArg ByteArray.size e0
   rw [ByteArray.size_append,bT] at this
   exact this
  rw [if_pos bB]
  unfold strings_Join.f
  have h20:=hf.many
  rw [if_pos ⟨bB,kU,ak⟩]
  simp only [Option.bind_some]
  rw [if_pos ak,e0,if_pos fS]
  have e1:az (cv (d :: ds)) ++ (⟨#[58]⟩:ByteArray)=az (cv (d :: ds) ++ [58]):=jg _ [58]
  rw [e1,if_pos (by rw [bT,bT,List.length_append];simp;omega),jg]
  have e2:cv (d :: ds) ++ [58] ++ gm lo dom lit=fT (d :: ds) lo dom lit:=by
   show _=cv (d :: ds) ++ 58 :: gm lo dom lit
   simp
  rw [e2,if_pos fS]
  have e3:(⟨#[60]⟩:ByteArray) ++ az (fT (d :: ds) lo dom lit)=az (60 :: fT (d :: ds) lo dom lit):=jg [60] _
  rw [e3,if_pos (by rw [bT,List.length_cons];omega)]
  have e4:az (60 :: fT (d :: ds) lo dom lit) ++ (⟨#[62]⟩:ByteArray)=az (60 :: (fT (d :: ds) lo dom lit ++ [62])):=jg (60 :: fT (d :: ds) lo dom lit) [62]
  rw [e4]
end Go.Proofs.YtokpnfljjjjikaaGreatDoor.ia
namespace Go.Proofs.YtokpnfljjjjikaaGreatDoor.ia
open Go.RowKit Go.Proofs.YtokpnfljjjjikaaGreatDoor Go.Proofs.YtokpnfljjjjikaaGreatDoor.lO Go.Proofs.aj.bw Go.Proofs.aj.cj
set_option linter.unusedVariables false
set_option linter.unusedSimpArgs false
theorem DY (k:Nat):dZ.f k true [] ⟨#[]⟩ ⟨#[]⟩ false=some true:=by
 unfold dZ.f
 rw [if_pos rfl,if_pos (by rfl)]
 decide +kernel
theorem DZ (k:Nat):dK.f k true [] ⟨#[]⟩ ⟨#[]⟩ false=some (az [60,62],0):=by
 unfold dK.f
 rw [DY]
 rfl
theorem Cc (k:Nat):dZ.f k false [] fN ⟨#[]⟩ false=some true:=by
 unfold dZ.f
 rw [if_neg bg,if_pos ey]
 rfl
def oN:List UInt8:=[60,112,111,115,116,109,97,115,116,101,114,62]
theorem Ce (k:Nat):dK.f k false [] fN ⟨#[]⟩ false=some (az oN,0):=by
 unfold dK.f
 rw [Cc]
 simp only [Option.bind_some,if_true]
 rw [if_neg bg,if_pos ey]
 rfl
theorem Kj (k:Nat) (hk: 20 < k) (s:ByteArray) (q:Int):bM.j0 k false s q false [] fN ⟨#[]⟩ false=some (false,[],fN,⟨#[]⟩,false,q,0):=by
 obtain ⟨k,rfl⟩:∃ k',k=k' + 1:=⟨k - 1,ak⟩
 have hw:cX.f k fN ⟨#[]⟩ false=some true:=by
  unfold cX.f
  rw [if_pos ey,if_neg bg,n7 ⟨#[]⟩ k (show 0 + 2 < k by omega),show gX ⟨#[]⟩=true from by decide +kernel]
  rfl
 rw [bM.j0,if_neg bg,hw]
 simp only [Option.bind_some,if_true]
 rw [if_neg bg,B0 (g:=fun _ =>false) (k0:=0) (fun y hy=>by cases hy) k (by simp;omega) bB]
 rfl
structure adT (a:Bool) (R:List ByteArray) (lo dom:ByteArray) (lit:Bool) (n:Nat) (t:List UInt8):Prop where
 le:t.length≤n
 rt:∀ k,3000000≤k→dZ.f k a R lo dom lit=some true
 pr:∀ k,3000000≤k→dK.f k a R lo dom lit=some (az t,0)
 rd:∀ k,3000000≤k→∀ more:List UInt8,more.length≤100000→bM.f k (az (t ++ more))=some (a,R,lo,dom,lit,(t.length:Int),0)
 ne: 2≤t.length
theorem D2 (d:List UInt8) (hl:d.length < 4294967281) (k:Nat) (hk:d.length + 3 < k):gZ.f k (az d)=some (decide (eI dw 46 d=(true,d.length)) && gX (az d)):=by
 unfold gZ.f
 have h1:=domain_eq (az d) fS k 0 (by rw [qj];omega) (Nat.zero_le _)
 rw [qj] at h1
 rw [show (0:Int)=((0:Nat):Int) from rfl,h1]
 simp only [Option.bind_some,Nat.zero_add]
 have e1:(mz d).1=(eI dw 46 d).1:=rfl
 have e2:(mz d).2.2=(eI dw 46 d).2:=rfl
 rw [e1,e2]
 by_cases h2:(eI dw 46 d).1=true
 ·rw [if_pos h2]
  by_cases h3:(eI dw 46 d).2=d.length
  ·rw [if_pos fS,n7 _ k fS,decide_eq_true (Prod.ext h2 h3)]
   rfl
  ·rw [if_neg fS,decide_eq_false (fun e=>h3 (by rw [e]))]
   rfl
 ·rw [if_neg h2,decide_eq_false (fun e=>h2 (by rw [e]))]
  rfl
end Go.Proofs.YtokpnfljjjjikaaGreatDoor.ia
namespace Go.Proofs.YtokpnfljjjjikaaGreatDoor.ia
open Go.RowKit Go.Proofs.YtokpnfljjjjikaaGreatDoor Go.Proofs.YtokpnfljjjjikaaGreatDoor.lO Go.Proofs.aj.bw Go.Proofs.aj.cj
set_option linter.unusedVariables false
set_option linter.unusedSimpArgs false
theorem mk_inj {a b:List UInt8} (h:az a=az b):a=b:=by
 have:=congrArg (fun x:ByteArray=>x.data.toList) h
 simpa [az] using this
theorem yz (d:List UInt8) (hl:d.length < 4294967281):b7.f (az d)=some (az (d.map dI)):=by
 unfold b7.f
 rw [if_pos fS,jN]
instance (d:List UInt8):Decidable (iV d):=by unfold iV;infer_instance
theorem Cf (d:List UInt8) (hl:d.length < 4294967281) (k:Nat) (hk:d.length + 3 < k):iT.f k (az d)=some (decide (iV d) && gX (az d)):=by
 unfold iT.f
 rw [D2 d hl k hk]
 simp only [Option.bind_some]
 by_cases h1:eI dw 46 d=(true,d.length)
 ·rw [decide_eq_true h1,Bool.true_and]
  cases hs:gX (az d) with
  |true=>
   rw [if_pos rfl,yz d hl]
   simp only [Option.bind_some]
   rw [toList_mk,toList_mk,Bool.and_true]
   by_cases h2:d.map dI=d
   ·rw [h2,decide_eq_true ⟨h1,h2⟩]
    simp
   ·rw [decide_eq_false (fun h:iV d=>h2 h.2)]
    simp [h2]
  |false=>
   rw [if_neg bg,Bool.and_false]
 ·rw [decide_eq_false h1,Bool.false_and,if_neg bg,decide_eq_false (fun h:iV d=>h1 h.1)]
  rfl
def uQ (lo dom:List UInt8) (lit:Bool):Bool:=
 decide (lo.length≤64) && (if lit=true then qU dom && decide (dom.map dI=dom) else gX (az dom) && decide (iV dom))
def Cg (b:UInt8):Bool:=decide (wG b)
theorem yA (lo dom:List UInt8) (lit:Bool) (hlo:lo.length < 4294967281) (hl:dom.length < 4294967281):∀ (k i:Nat),lo.length - i + dom.length + 6 < k→i≤lo.length→
 cC.l0 k (lo.length:Int) (i:Int) (az lo) (az dom) lit=some ((lo.drop i).all Cg && uQ lo dom lit)
 | 0,_,h,_ =>absurd h (Nat.not_lt_zero _)
 |k + 1,i,hk,hi=>by
  unfold cC.l0
  by_cases hlt:i < lo.length
  ·have hd:lo.drop i=lo[i] :: lo.drop (i + 1):=List.drop_eq_getElem_cons hlt
   have hb:bt (az lo) (i:Int)=(lo[i].toNat:Int):=by
    rw [F6 lo i hlt,List.getD_eq_getElem?_getD,List.getElem?_eq_getElem hlt]
    rfl
   rw [if_pos ak,if_pos ak,if_pos fS,hb,hd,List.all_cons]
   by_cases h1:lo[i] < 32
   ·rw [if_pos (Dz.mpr h1)]
    have:Cg lo[i]=false:=decide_eq_false (fun h=>h (.inl h1))
    rw [this]
    rfl
   ·rw [if_neg (fun h=>h1 (Dz.mp h))]
    by_cases h2: 126 < lo[i]
    ·rw [if_pos (wu.mpr h2)]
     have:Cg lo[i]=false:=decide_eq_false (fun h=>h (.inr h2))
     rw [this]
     rfl
    ·rw [if_neg (fun h=>h2 (wu.mp h)),lY i ak]
     have:Cg lo[i]=true:=decide_eq_true (fun h=>h.elim h1 h2)
     rw [this,Bool.true_and]
     exact yA lo dom lit hlo hl k (i + 1) ak ak
  ·rw [if_neg ak,List.drop_of_length_le ak,List.all_nil,Bool.true_and]
   unfold uQ
   cases lit with
   |true=>
    rw [if_pos rfl,if_pos rfl,n9 lo dom true k ak]
    simp only [Option.bind_some,Bool.true_or,Bool.and_true]
    by_cases h64:lo.length≤64
    ·rw [decide_eq_true h64,if_pos rfl,qV dom hl k ak,Bool.true_and]
     simp only [Option.bind_some]
     cases hL:qU dom with
     |true=>
      rw [if_pos rfl,yz dom hl]
      simp only [Option.bind_some,Bool.true_and]
      rw [toList_mk,toList_mk]
      by_cases h2:dom.map dI=dom
      ·rw [decide_eq_true h2,h2];simp
      ·rw [decide_eq_false h2];simp [h2]
     |false=>rw [if_neg bg];rfl
    ·rw [decide_eq_false h64,if_neg bg];rfl
   |false=>
    rw [if_neg bg,if_neg bg,n9 lo dom false k ak]
    simp only [Option.bind_some,Bool.false_or]
    by_cases h64:lo.length≤64
    ·rw [decide_eq_true h64,Bool.true_and,Bool.true_and]
     cases hs:gX (az dom) with
     |true=>
      rw [if_pos rfl,Cf dom hl k ak,hs]
      simp
     |false=>rw [if_neg bg];rfl
    ·rw [decide_eq_false h64,Bool.false_and,if_neg bg];rfl
def boxedB (lo dom:List UInt8) (lit:Bool):Bool:=lo.all Cg && uQ lo dom lit
theorem Ch (lo dom:List UInt8) (lit:Bool) (hlo:lo.length < 4294967281) (hl:dom.length < 4294967281) (k:Nat) (hk:lo.length + dom.length + 6 < k):cC.f k (az lo) (az dom) lit=some (boxedB lo dom lit):=by
 unfold cC.f boxedB
 rw [bT]
 have:=yA lo dom lit hlo hl k 0 ak (Nat.zero_le _)
 rw [List.drop_zero] at this
 exact this
theorem sY {lo dom:List UInt8} {lit:Bool} (hl:dom.length < 4294967281) (h:boxedB lo dom lit=true):nZ lo dom lit∧lo.length≤64∧(lit=false→gX (az dom)=true)∧dom≠ []:=by
 unfold boxedB uQ at h
 simp only [Bool.and_eq_true,decide_eq_true_eq,List.all_eq_true] at h
 obtain ⟨h1,h64,h2⟩:=h
 have hf:∀ b,b∈lo→wG b:=fun b hb=>of_decide_eq_true (h1 b hb)
 cases lit with
 |true=>
  simp only [if_true,Bool.and_eq_true,decide_eq_true_eq] at h2
  have hg:=BQ dom h2.1
  refine ⟨⟨hf,fun e=>(by cases e),fun _ =>⟨?_,hg.1,h2.2⟩⟩,h64,fun e=>(by cases e),?_⟩
  ·rw [uO dom hl];exact h2.1
  ·rintro rfl
   exact absurd h2.1 ey
 |false=>
  simp only [Bool.false_eq_true,if_false,Bool.and_eq_true,decide_eq_true_eq] at h2
  refine ⟨⟨hf,fun _ =>h2.2,fun e=>(by cases e)⟩,h64,fun _ =>h2.1,?_⟩
  obtain ⟨b,d',e,_⟩:=h2.2.head
  rw [e]
  simp
def lX (a:Bool) (ds:List (List UInt8)) (lo dom:List UInt8) (lit:Bool):Bool:=
 if a=true then decide (ds= []∧lo= []∧dom= []) && !lit
 else if lo= [112,111,115,116,109,97,115,116,101,114]∧dom= []∧lit=false then decide (ds= [])
 else boxedB lo dom lit && (decide (ds.length≤20) && ds.all fun d=>decide (iV d) && gX (az d))
theorem Kk (ds:List (List UInt8)) (M:Nat) (hM:∀ d,d∈ds→d.length≤M) (hl:M < 4294967281) (k:Nat) (hk:ds.length + M + 10 < k) (h20:ds.length≤20):
 bR.f k (ds.map az)=some (!(ds.all fun d=>decide (iV d) && gX (az d))):=by
 rw [B6 (g:=fun y=>!(decide (iV y.data.toList) && gX y)) (k0:=M + 4) (fun y hy k hk=>by
  obtain ⟨d,hd',rfl⟩:=List.mem_map.mp hy
  have:=hM d hd'
  unfold gU.f
  rw [Cf d ak k ak]
  rfl) k kU kU]
 congr 1
 clear hM hk h20
 induction ds with
 |nil=>rfl
 |cons d ds ih=>
  rw [List.map_cons,List.any_cons,List.all_cons,ih]
  exact (Bool.not_and ..).symm
theorem tT (ds:List (List UInt8)) (lo dom:List UInt8) (lit:Bool):lX true ds lo dom lit=(decide (ds= []∧lo= []∧dom= []) && !lit):=rfl
theorem sy (ds:List (List UInt8)):lX false ds [112,111,115,116,109,97,115,116,101,114] [] false=decide (ds= []):=rfl
theorem wX (ds:List (List UInt8)) (lo dom:List UInt8) (lit:Bool) (hp: ¬ (lo= [112,111,115,116,109,97,115,116,101,114]∧dom= []∧lit=false)):
 lX false ds lo dom lit=(boxedB lo dom lit && (decide (ds.length≤20) && ds.all fun d=>decide (iV d) && gX (az d))):=by
 unfold lX
 rw [if_neg bg,if_neg hp]
theorem sZ (a:Bool) (ds:List (List UInt8)) (lo dom:List UInt8) (lit:Bool) (M:Nat) (hM:∀ d,d∈ds→d.length≤M) (hlo:lo.length≤M) (hd:dom.length≤M) (hl:M < 4294967281) (k:Nat) (hk: 2 * M + 110 < k):
 dZ.f k a (ds.map az) (az lo) (az dom) lit=some (lX a ds lo dom lit):=by
 cases a with
 |true=>
  unfold dZ.f
  rw [toList_mk,toList_mk,List.length_map,tT,if_pos rfl]
  cases ds with
  |nil=>
   rw [if_pos (by rfl)]
   cases lo<;>cases dom<;>cases lit<;>rfl
  |cons d ds=>
   rw [if_neg (by rw [List.length_cons];omega)]
   simp
 |false=>
  by_cases hp:lo= [112,111,115,116,109,97,115,116,101,114]∧dom= []∧lit=false
  ·obtain ⟨rfl,rfl,rfl⟩:=hp
   unfold dZ.f
   rw [toList_mk,toList_mk,List.length_map,sy,if_neg bg,if_pos bg]
   cases ds with
   |nil=>rfl
   |cons d ds=>
    have e:(((d :: ds).length:Int) == 0)=false:=by
     rw [List.length_cons]
     exact beq_eq_false_iff_ne.mpr ak
    rw [e]
    simp
  ·unfold dZ.f
   rw [toList_mk,toList_mk,List.length_map,wX ds lo dom lit hp,if_neg bg,if_neg (by
    intro h
    apply hp
    simp only [Bool.and_eq_true,beq_iff_eq,Bool.not_eq_true'] at h
    exact h),Ch lo dom lit ak ak k ak]
   simp only [Option.bind_some]
   cases hb:boxedB lo dom lit with
   |false=>
    rw [Bool.false_and]
    exact if_neg bg
   |true=>
    rw [if_pos rfl,Bool.true_and]
    by_cases h20:ds.length≤20
    ·rw [if_pos ak,Kk ds M hM hl k ak h20,decide_eq_true h20,Bool.true_and]
     simp
    ·rw [if_neg ak,decide_eq_false h20,Bool.false_and]
theorem Kl {lo dom:List UInt8} {lit:Bool} (h64:lo.length≤64) (hs:lit=false→gX (az dom)=true):Fits [] lo dom lit:=⟨h64,hs,Nat.zero_le _,fun d hd=>(by cases hd)⟩
theorem Ah (lo dom:List UInt8) (lit:Bool) (hlo:lo.length < 4294967281) (hl:dom.length < 4294967281) (k:Nat) (hk:lo.length + dom.length + 90 < k):
 eG.f k (az lo) (az dom) lit=some (if boxedB lo dom lit=true then (az (gm lo dom lit),0) else (⟨#[]⟩,150)):=by
 cases hb:boxedB lo dom lit with
 |true=>
  obtain ⟨h,h64,hs,hne⟩:=sY hl hb
  rw [if_pos rfl,tS (ds:=[]) h (Kl h64 hs) hl k ak]
 |false=>
  unfold eG.f
  rw [Ch lo dom lit hlo hl k ak,hb]
  rfl
theorem s7 {a:Bool} {ds:List (List UInt8)} {lo dom:List UInt8} {lit:Bool} {k:Nat} (h:dZ.f k a (ds.map az) (az lo) (az dom) lit=some false):
 dK.f k a (ds.map az) (az lo) (az dom) lit=some (⟨#[]⟩,150):=by
 unfold dK.f
 rw [h]
 rfl
theorem yB {ds:List (List UInt8)} {lo dom:List UInt8} {lit:Bool} (hl:dom.length < 4294967281) (hp: ¬ (lo= [112,111,115,116,109,97,115,116,101,114]∧dom= []∧lit=false)) (h:lX false ds lo dom lit=true):
 boxedB lo dom lit=true∧(∀ d,d∈ds→iV d)∧nZ lo dom lit∧Fits ds lo dom lit∧dom≠ []:=by
 unfold lX at h
 rw [if_neg bg,if_neg hp] at h
 simp only [Bool.and_eq_true,decide_eq_true_eq,List.all_eq_true] at h
 obtain ⟨h1,h2,h3⟩:=h
 obtain ⟨b1,b2,b3,b4⟩:=sY hl h1
 exact ⟨h1,fun d hd=>(h3 d hd).1,b1,⟨b2,b3,h2,fun d hd=>(h3 d hd).2⟩,b4⟩
theorem Ci (lo:List UInt8):boxedB lo [] false=false:=by
 cases h:boxedB lo [] false with
 |false=>rfl
 |true=>exact absurd rfl (sY bg h).2.2.2
end Go.Proofs.YtokpnfljjjjikaaGreatDoor.ia
namespace Go.Proofs.YtokpnfljjjjikaaGreatDoor.ia
open Go.RowKit Go.Proofs.YtokpnfljjjjikaaGreatDoor Go.Proofs.YtokpnfljjjjikaaGreatDoor.lO Go.Proofs.aj.bw Go.Proofs.aj.cj
set_option linter.unusedVariables false
set_option linter.unusedSimpArgs false
theorem Ol:∀ l:List UInt8,(qL l).length≤2 * l.length
 | []=>Nat.le_refl _
 |b :: l=>by
  have e:qL (b :: l)=qL [b] ++ qL l:=by
   have:=GV [b] l
   simpa using this
  rw [e,List.length_append,List.length_cons]
  have:=Pp b
  have:=Ol l
  omega
theorem s8 (l:List UInt8):(gW l).length≤2 * l.length + 2:=by
 unfold gW
 split
 ·omega
 ·have:=Ol l
  simp only [List.length_cons,List.length_append,List.length_nil]
  omega
theorem Cj (lo dom:List UInt8) (lit:Bool):(gm lo dom lit).length≤2 * lo.length + dom.length + 5:=by
 unfold gm
 have:=s8 lo
 rw [List.length_append]
 cases lit with
 |true=>
  rw [if_pos rfl]
  simp only [List.length_cons,List.length_append,List.length_nil]
  omega
 |false=>
  rw [if_neg bg,List.length_cons]
  omega
theorem yC (M:Nat):∀ ds:List (List UInt8),(∀ d,d∈ds→d.length≤M)→(cv ds).length≤ds.length * (M + 2)
 | [],_ =>Nat.zero_le _
 | [d],h=>by
   have:=h d (List.mem_cons_self ..)
   show (64 :: d).length≤_
   simp
   omega
 |d :: e :: ds,h=>by
  have h1:=h d (List.mem_cons_self ..)
  have h2:=yC M (e :: ds) (fun x hx=>h x (List.mem_cons_of_mem _ hx))
  show (64 :: (d ++ 44 :: cv (e :: ds))).length≤_
  rw [List.length_cons,List.length_append,List.length_cons,List.length_cons (a:=d),Nat.add_mul]
  omega
theorem s9 {ds:List (List UInt8)} {lo dom:List UInt8} {lit:Bool} (hf:Fits ds lo dom lit):(fT ds lo dom lit).length≤dom.length + 6000:=by
 have h1:=Cj lo dom lit
 have h2:=hf.los
 cases ds with
 |nil=>show (gm lo dom lit).length≤_;omega
 |cons d ds=>
  have h3:=yC 255 (d :: ds) (fun x hx=>by have:=DX _ (hf.each x hx);rwa [bT] at this)
  have h4:=hf.many
  have h5:(d :: ds).length * (255 + 2)≤20 * 257:=Nat.mul_le_mul_right 257 h4
  show (cv (d :: ds) ++ 58 :: gm lo dom lit).length≤_
  rw [List.length_append,List.length_cons]
  omega
end Go.Proofs.YtokpnfljjjjikaaGreatDoor.ia
namespace Go.Proofs.YtokpnfljjjjikaaGreatDoor.ia
open Go.RowKit Go.Proofs.YtokpnfljjjjikaaGreatDoor Go.Proofs.YtokpnfljjjjikaaGreatDoor.lO Go.Proofs.aj.bw Go.Proofs.aj.cj
set_option linter.unusedVariables false
set_option linter.unusedSimpArgs false
theorem wY {a b:UInt8} (h:(a.toNat:Int)=(b.toNat:Int)):a=b:=toNat_eq h
theorem uR (l:List UInt8) (j:Nat) (hj:j < l.length):(az l).data[j]! =l[j]:=by
 show l.toArray[j]! =l[j]
 rw [getElem!_pos l.toArray j (by simpa using hj)]
 simp
theorem G6 (c:UInt8) (l:List UInt8) (h:c ∉ l):qP c (az l)= -1:=by
 unfold qP
 rcases Lib.lastIndexByte_spec (az l) (c.toNat:Int) with ⟨e,_⟩|⟨i,hi,_,e,_⟩
 ·exact e
 ·rw [bT] at hi
  rw [uR l i hi] at e
  exact absurd (List.getElem_mem hi) (by rw [wY e];exact h)
theorem yD (c:UInt8) (w r:List UInt8) (h:c ∉ r):qP c (az (w ++ c :: r))=(w.length:Int):=by
 have hlen:(w ++ c :: r).length=w.length + (r.length + 1):=by rw [List.length_append,List.length_cons]
 have hat:(w ++ c :: r)[w.length]'ak=c:=by simp
 unfold qP
 rcases Lib.lastIndexByte_spec (az (w ++ c :: r)) (c.toNat:Int) with ⟨_,hn⟩|⟨i,hi,e,he,hn⟩
 ·exfalso
  refine hn w.length fS ?_
  rw [uR _ _ ak,hat]
 ·rw [e]
  rw [bT] at hi
  rw [uR _ i hi] at he
  have he:=wY he
  congr 1
  by_cases h1:i < w.length
  ·exfalso
   refine hn w.length h1 fS ?_
   rw [uR _ _ ak,hat]
  ·by_cases h2:w.length < i
   ·exfalso
    apply h
    rw [← he,List.getElem_append_right ak]
    obtain ⟨j,hj⟩:∃ j,i - w.length=j + 1:=⟨i - w.length - 1,ak⟩
    simp only [hj,List.getElem_cons_succ]
    exact List.getElem_mem _
   ·omega
theorem td (t:List UInt8) (ht:t.length < 4294967281):dO.f (az t) ⟨#[64]⟩=some (qP 64 (az t)):=by
 unfold dO.f
 rw [dif_pos ⟨rfl,fS⟩]
 rfl
def Gg (b c:UInt8):Prop:=c=b∨(dI c=dI b∧97≤b∧b≤122)
def Case:List UInt8→List UInt8→Prop
 | [],m=>m= []
 |b :: l,m=>∃ c m',m=c :: m'∧Gg b c∧Case l m'
theorem G7 {b c:UInt8} (h:Gg b c):dI c=dI b:=by
 rcases h with rfl|⟨h,_⟩
 ·rfl
 ·exact h
theorem Case.low:∀ {l m:List UInt8},Case l m→m.map dI=l.map dI
 | [],m,h=>by
   have h:m= []:=h
   rw [h]
 |b :: l,m,h=>by
  obtain ⟨c,m',rfl,h1,h2⟩:=h
  rw [List.map_cons,List.map_cons,G7 h1,Case.low h2]
theorem Case.len {l m:List UInt8} (h:Case l m):m.length=l.length:=by
 have:=congrArg List.length h.low
 rwa [List.length_map,List.length_map] at this
theorem Case.append:∀ (a:List UInt8) {b m:List UInt8},Case (a ++ b) m→∃ a' b',m=a' ++ b'∧Case a a'∧Case b b'
 | [],b,m,h=>⟨[],m,rfl,rfl,h⟩
 |x :: a,b,m,h=>by
  obtain ⟨c,m',rfl,h1,h2⟩:=(show ∃ c m',m=c :: m'∧Gg x c∧Case (a ++ b) m' from h)
  obtain ⟨a',b',rfl,h3,h4⟩:=Case.append a h2
  exact ⟨c :: a',b',rfl,⟨c,a',rfl,h1,h3⟩,h4⟩
theorem Case.head {b:UInt8} {l m:List UInt8} (h:Case (b :: l) m) (hb: ¬ (97≤b∧b≤122)):∃ m',m=b :: m'∧Case l m':=by
 obtain ⟨c,m',rfl,h1,h2⟩:=h
 rcases h1 with rfl|⟨_,h1⟩
 ·exact ⟨m',rfl,h2⟩
 ·exact absurd h1 hb
theorem Case.refl:∀ l:List UInt8,Case l l
 | []=>rfl
 |b :: l=>⟨b,l,rfl,.inl rfl,Case.refl l⟩
theorem Case.of:∀ {l m:List UInt8},m.length=l.length→(∀ (j:Nat) (b:UInt8),l[j]? =some b→∃ c,m[j]? =some c∧Gg b c)→Case l m
 | [],m,h,_ =>List.eq_nil_of_length_eq_zero h
 |b :: l,[],h,_ =>by cases h
 |b :: l,c :: m,h,hj=>by
  obtain ⟨c',e,h1⟩:=hj 0 b rfl
  have e:c=c':=Option.some.inj e
  subst e
  exact ⟨c,m,rfl,h1,Case.of (by simpa using h) fun j b' hb=>hj (j + 1) b' hb⟩
def Gh (a b:Int):Prop:=a=b∨(97≤b∧b≤122∧a=b - 32)
theorem D3 (c y:Int) (h0: 0≤c) (h1:c < 256):Gh (lq c y) c:=by
 unfold lq Gh
 split
 ·right;omega
 ·left;rfl
theorem yE (ys xs:List Int) (hx:∀ j,0≤xs.getD j 0∧xs.getD j 0 < 256):∀ (k:Nat) (j:Nat),Gh ((iH ys xs k).getD j 0) (xs.getD j 0)
 | 0,j=> .inl rfl
 |k + 1,j=>by
  show Gh (((iH ys xs k).set k (lq (xs.getD k 0) (ys.getD k 0))).getD j 0) _
  by_cases e:j=k
  ·subst e
   by_cases hj:j < xs.length
   ·rw [List.getD_eq_getElem?_getD,List.getElem?_set_self (by rw [fU];exact hj)]
    exact D3 _ _ (hx j).1 (hx j).2
   ·rw [List.getD_eq_getElem?_getD,List.getElem?_eq_none (by rw [List.length_set,fU];omega),List.getD_eq_getElem?_getD,List.getElem?_eq_none ak]
    exact .inl rfl
  ·rw [List.getD_eq_getElem?_getD,List.getElem?_set_ne (Ne.symm e),← List.getD_eq_getElem?_getD]
   exact yE ys xs hx k j
theorem G8 (b:UInt8): 97≤(b.toNat:Int)∧(b.toNat:Int)≤122→dI (UInt8.ofNat ((b.toNat:Int) - 32).toNat)=dI b∧97≤b∧b≤122:=
 ez (Q:=fun b=>97≤(b.toNat:Int)∧(b.toNat:Int)≤122→dI (UInt8.ofNat ((b.toNat:Int) - 32).toNat)=dI b∧97≤b∧b≤122) ey b
theorem oO (ys:List Int) (l:List UInt8) (hl:l.length≤9223372036854775807) (hy:ys.length≤9223372036854775807):∃ m,bK.f (az l) ys=some (az m)∧Case l m:=by
 refine ⟨(iH ys (bytesOf (az l)) (az l).size).map fun n=>UInt8.ofNat n.toNat,?_,?_⟩
 ·unfold bK.f
  rw [if_pos ⟨by rw [bT];exact hl,hy⟩]
  rfl
 ·refine Case.of (by rw [List.length_map,fU,bytesOf_length,bT]) fun j b hb=>?_
  have h1:=yE ys (bytesOf (az l)) (fun j=>by have:=jG (az l) j;omega) (az l).size j
  have hx:(bytesOf (az l)).getD j 0=(b.toNat:Int):=by
   rw [List.getD_eq_getElem?_getD]
   show ((l.map fun b=>(b.toNat:Int))[j]?).getD 0=_
   rw [List.getElem?_map,hb]
   rfl
  have hjl:j < l.length:=(List.getElem?_eq_some_iff.mp hb).1
  rw [hx] at h1
  have hlen:j < (iH ys (bytesOf (az l)) (az l).size).length:=by rw [fU,bytesOf_length,bT];exact hjl
  rw [List.getD_eq_getElem?_getD,List.getElem?_eq_getElem hlen] at h1
  refine ⟨UInt8.ofNat ((iH ys (bytesOf (az l)) (az l).size)[j]).toNat,?_,?_⟩
  ·rw [List.getElem?_map,List.getElem?_eq_getElem hlen]
   rfl
  ·rcases h1 with h1|⟨h1,h2,h3⟩
   ·left
    have h4:(iH ys (bytesOf (az l)) (az l).size)[j]=(b.toNat:Int):=h1
    rw [h4]
    simp
   ·right
    have h4:(iH ys (bytesOf (az l)) (az l).size)[j]=(b.toNat:Int) - 32:=h3
    rw [h4]
    exact G8 b ⟨h1,h2⟩
theorem tj {d m:List UInt8} (h:Case d m) (hd:iV d):iY m=true∧m.map dI=d:=by
 have e:m.map dI=d:=h.low.trans hd.2
 refine ⟨(wP m).mp ?_,e⟩
 rw [← wF _ m (Nat.lt_succ_self _),e,hd.1,h.len]
theorem wZ:∀ ds:List (List UInt8),ds≠ []→(∀ d,d∈ds→iV d)→∀ {m:List UInt8},Case (cv ds) m→∃ xs,m=cv xs∧xs≠ []∧(∀ x,x∈xs→iY x=true)∧wV xs=ds
 | [],h,_,_,_ =>absurd rfl h
 | [d],_,h,m,hm=>by
   obtain ⟨m',rfl,h1⟩:=(show Case (64 :: d) m from hm).head bg
   obtain ⟨f1,f2⟩:=tj h1 (h d (List.mem_cons_self ..))
   refine ⟨[m'],rfl,bB,fun x hx=>?_,?_⟩
   ·rw [List.mem_singleton.mp hx];exact f1
   ·show [m'.map dI]= [d]
    rw [f2]
 |d :: d2 :: ds,_,h,m,hm=>by
  obtain ⟨m',rfl,h1⟩:=(show Case (64 :: (d ++ 44 :: cv (d2 :: ds))) m from hm).head bg
  obtain ⟨a',b',rfl,h2,h3⟩:=Case.append d h1
  obtain ⟨b'',rfl,h4⟩:=h3.head bg
  obtain ⟨f1,f2⟩:=tj h2 (h d (List.mem_cons_self ..))
  obtain ⟨xs,rfl,x1,x2,x3⟩:=wZ (d2 :: ds) bB (fun x hx=>h x (List.mem_cons_of_mem _ hx)) h4
  refine ⟨a' :: xs,(ko a' x1).symm,bB,fun x hx=>?_,?_⟩
  ·rcases List.mem_cons.mp hx with rfl|hx
   ·exact f1
   ·exact x2 x hx
  ·show a'.map dI :: wV xs=d :: d2 :: ds
   rw [f2,x3]
def tailD (dom:List UInt8) (lit:Bool):List UInt8:=if lit=true then 91 :: (dom ++ [93]) else dom
theorem oa (lo dom:List UInt8) (lit:Bool):gm lo dom lit=gW lo ++ 64 :: tailD dom lit:=by
 cases lit<;>rfl
theorem Ck {lo dom m:List UInt8} {lit:Bool} (h:nZ lo dom lit) (hl:dom.length < 4294967281) (hm:Case (tailD dom lit) m):DL (gW lo ++ 64 :: m) lo dom lit (gW lo) m:=by
 refine ⟨rfl,?_,?_⟩
 ·have:=qT lo [] h.los (by intro b t' e;cases e) rfl
  rwa [List.append_nil] at this
 ·cases lit with
  |true=>
   left
   obtain ⟨w1,w2,w3⟩:=h.words rfl
   obtain ⟨m',rfl,h1⟩:=(show Case (91 :: (dom ++ [93])) m from hm).head bg
   obtain ⟨x,b',rfl,h2,h3⟩:=Case.append dom h1
   obtain ⟨b'',rfl,h4⟩:=h3.head bg
   have h4:b''= []:=h4
   subst h4
   have e:x.map dI=dom:=h2.low.trans w3
   refine ⟨rfl,x,rfl,?_,e.symm⟩
   rw [← J8,e,← uO dom hl]
   exact w1
  |false=>
   right
   obtain ⟨f1,f2⟩:=tj (show Case dom m from hm) (h.doms rfl)
   exact ⟨rfl,f1,f2.symm⟩
theorem G9 {l:List UInt8} (h:(jL l).1=true):bO 64 l=false:=by
 cases hn:bO 64 l with
 |false=>rfl
 |true=>
  exfalso
  obtain ⟨r,rfl⟩:=yt hn
  have hlo:(dB (64 :: r)).1=false:=by
   unfold dB
   rw [if_neg (show ¬ bO 34 (64 :: r)=true by simp [bO])]
   show (eI fJ 46 (64 :: r)).1=false
   rw [gH]
   have:(fJ (64 :: r)).1=false:=by
    unfold fJ
    rw [List.takeWhile_cons_of_neg ey]
    rfl
   rw [this]
   rfl
  unfold jL at h
  rw [hlo] at h
  simp at h
def D4 (ds:List (List UInt8)):List UInt8:=if ds= [] then [] else cv ds ++ [58]
theorem D5 (ds:List (List UInt8)) (lo dom:List UInt8) (lit:Bool):fT ds lo dom lit=D4 ds ++ (gW lo ++ 64 :: tailD dom lit):=by
 cases ds with
 |nil=>exact oa lo dom lit
 |cons d ds=>
  show cv (d :: ds) ++ 58 :: gm lo dom lit=(cv (d :: ds) ++ [58]) ++ _
  rw [oa,List.append_assoc]
  rfl
theorem Nf {ds:List (List UInt8)} {lo dom R m:List UInt8} {lit:Bool} (hds:∀ d,d∈ds→iV d) (h:nZ lo dom lit) (hl:dom.length < 4294967281) (hR:Case (D4 ds) R) (hm:Case (tailD dom lit) m):
 ∃ xs,sX (R ++ (gW lo ++ 64 :: m))=some (xs,lo,dom,lit)∧wV xs=ds:=by
 have B:=Ck h hl hm
 have hbx:=(Af _ lo dom lit).mpr ⟨_,_,B⟩
 cases ds with
 |nil=>
  have hR:R= []:=hR
  subst hR
  refine ⟨[],?_,rfl⟩
  have hw:=sU B (u:=[]) (by intro b t' e;cases e) rfl
  rw [List.append_nil] at hw
  unfold sX
  rw [if_neg (by rw [List.nil_append,G9 (by rw [hw])];decide),List.nil_append,hbx]
  rfl
 |cons d ds=>
  obtain ⟨a',b',rfl,h1,h2⟩:=Case.append (cv (d :: ds)) (show Case (cv (d :: ds) ++ [58]) R from hR)
  obtain ⟨b'',rfl,h3⟩:=h2.head bg
  have h3:b''= []:=h3
  subst h3
  obtain ⟨xs,rfl,x1,x2,x3⟩:=wZ (d :: ds) bB hds h1
  refine ⟨xs,?_,x3⟩
  have e:(cv xs ++ [58]) ++ (gW lo ++ 64 :: m)=cv xs ++ 58 :: (gW lo ++ 64 :: m):=by rw [List.append_assoc];rfl
  rw [e]
  unfold sX
  have h64:bO 64 (cv xs ++ 58 :: (gW lo ++ 64 :: m))=true:=by
   obtain ⟨l,hl⟩:=nD xs x1
   rw [hl]
   rfl
  rw [if_pos h64,nS 58 _ _ (fun hb=>(pS xs x2 58 hb).2 rfl),Option.bind_some]
  simp only
  rw [(sx _ xs).mpr ⟨x1,x2,rfl⟩,Option.bind_some,hbx]
  rfl
theorem D6 {t:List UInt8} {xs ds:List (List UInt8)} {lo dom:List UInt8} {lit:Bool} (h:sX t=some (xs,lo,dom,lit)) (hx:wV xs=ds) (hf:Fits ds lo dom lit) (M:Nat) (hM:∀ d,d∈ds→d.length≤M) (hd:dom.length≤M) (ht:t.length < 4294960000) (k:Nat) (hk:M + 40 < k) (hk2:t.length + 20 < k):
 bM.f k (az (60 :: (t ++ [62])))=some (false,ds.map az,az lo,az dom,lit,((t.length + 2:Nat):Int),0):=by
 have h20:=hf.many
 obtain ⟨hi,_,hp,hne,_⟩:=BX h []
 rw [hx] at hi
 have hdata:(az (60 :: (t ++ [62]))).data.toList=60 :: (t ++ [62]):=rfl
 have hsz:(az (60 :: (t ++ [62]))).size=t.length + 2:=by
  rw [bT,List.length_cons,List.length_append]
  rfl
 have hd1:(60 :: (t ++ [62])).drop 1=t ++ [62]:=rfl
 have Km:tL (60 :: (t ++ [62]))=false:=by
  unfold tL
  rw [hd1]
  cases hb:bO 62 (t ++ [62]) with
  |false=>simp
  |true=>
   exfalso
   cases t with
   |nil=>exact hne rfl
   |cons b l=>
    have hb:b=62:=by simpa [bO] using hb
    subst hb
    have h1:=hp []
    rw [List.append_nil,mK,if_neg bg,if_neg bg,if_pos ⟨rfl,rfl⟩] at h1
    exact absurd h1 (by simp [oM])
 have Pv:GP (60 :: (t ++ [62]))=true:=by
  unfold GP
  rw [hd1,hi]
  simp only
  have e:(60 :: (t ++ [62])).drop (1 + t.length)= [62]:=by
   rw [Nat.add_comm,List.drop_succ_cons,List.drop_left]
  rw [e]
  rfl
 rw [yw _ ak k ak (by rw [hdata];exact Km) (by rw [hdata];exact Pv)]
 rw [hdata,hd1,hi]
 simp only
 rw [Nb k _ _ ds lo dom lit hf M hM hd ak]
 rw [Nat.add_comm 2]
theorem tq {m:List UInt8} (h:m.map dI=kO) (k:Nat) (hk: 40 < k):bM.f k (az (60 :: (m ++ [62])))=some (false,[],fN,⟨#[]⟩,false,12,0):=by
 obtain ⟨h1,h2⟩:=DV (u:=[]) h
 have hi:gq (m ++ [62])=(true,[],fN,⟨#[]⟩,false,10):=by
  unfold gq
  rw [if_pos h1]
 have hd1:(60 :: (m ++ [62])).drop 1=m ++ [62]:=rfl
 have hdata:(az (60 :: (m ++ [62]))).data.toList=60 :: (m ++ [62]):=rfl
 have hsz:(az (60 :: (m ++ [62]))).size=12:=by
  rw [bT,List.length_cons,List.length_append,h2]
  rfl
 have Km:tL (60 :: (m ++ [62]))=false:=by
  unfold tL
  rw [hd1]
  cases m with
  |nil=>cases h2
  |cons b l=>
   have hb:=(DU h (b:=b) (List.mem_cons_self ..)).2.2
   show (60 == 60 && (b == 62))=false
   rw [beq_eq_false_iff_ne.mpr hb]
   rfl
 have Pv:GP (60 :: (m ++ [62]))=true:=by
  unfold GP
  rw [hd1,hi]
  have e:(60 :: (m ++ [62])).drop (1 + 10)= [62]:=by
   rw [show 1 + 10=m.length + 1 by omega,List.drop_succ_cons,List.drop_left]
  show (bO 60 (60 :: (m ++ [62])) && true && bO 62 ((60 :: (m ++ [62])).drop (1 + 10)))=true
  rw [e]
  rfl
 rw [yw _ ak k ak (by rw [hdata];exact Km) (by rw [hdata];exact Pv),hdata,hd1,hi]
 exact Kj k ak _ _
theorem extract_mk (l:List UInt8) (i j:Nat) (h:i≤j):(az l).extract i j=az ((l.drop i).take (j - i)):=gF (az l) i j h
theorem Gi (k:Nat) (hk: 110≤k) (s:ByteArray) (a:Bool) (R:List ByteArray) (lo dom great u:ByteArray) (lit:Bool) (g:Int) (hup:eA.f lo=some great) (hp:dK.f k a R great dom lit=some (u,g))
 (h1:g=0→((u.toList == s.toList) == (great.toList == lo.toList))=true) (h2:g≠0→(great.toList == lo.toList)=false):av.j2 (k + 1) s false a R lo dom lit=some true:=by
 rw [av.j2,if_neg bg,hup,Option.bind_some,hp,Option.bind_some]
 simp only
 by_cases hg:g=0
 ·rw [if_pos hg,if_pos (h1 hg),q9 k ak]
  rfl
 ·rw [if_neg hg,h2 hg,if_pos bg,q9 k ak]
  rfl
theorem Gj (k:Nat) (s t:ByteArray) (a:Bool) (R:List ByteArray) (lo dom:ByteArray) (lit:Bool) (hR:R.length + 2 < k) (hp:bM.f (k + 1) t=some (a,R,lo,dom,lit,(s.size:Int),0)) (h2:av.j2 (k + 1) s false a R lo dom lit=some true) (hR2:R.length < 4611686018427387904):
 av.j1 (k + 2) s t a R lo dom lit=some true:=by
 rw [av.j1,hp,Option.bind_some]
 simp only [if_true]
 rw [G0 a R lo dom lit (k + 1) ak hR2,Option.bind_some]
 exact h2
theorem He (r w:List UInt8):Lib.trimSuffix (r ++ w) w=r:=by
 unfold Lib.trimSuffix Lib.hasSuffix
 rw [if_pos (List.isSuffixOf_iff_suffix.mpr (List.suffix_append r w)),List.length_append,Nat.add_sub_cancel,List.take_left']
 rfl
theorem Hf (a:Bool) (R:List ByteArray) {lo dom:List UInt8} {lit:Bool} (hb:boxedB lo dom lit=true) (h64:(64:UInt8) ∉ tailD dom lit) (hlo:lo.length < 1000000000) (hl:dom.length < 1000000000) (k:Nat) (hk:lo.length + dom.length + 90 < k):
 cB.f k a R (az lo) (az dom) lit=some (az (gW lo)):=by
 have h1:=s8 lo
 have hsz:(gm lo dom lit).length=(gW lo).length + ((tailD dom lit).length + 1):=by rw [oa,List.length_append,List.length_cons]
 have h2:=Cj lo dom lit
 unfold cB.f
 rw [Ah lo dom lit ak ak k hk,hb,if_pos rfl,Option.bind_some]
 simp only
 rw [td _ ak,oa,yD 64 _ _ h64,Option.bind_some]
 have e:mx ((gW lo).length:Int) 0=((gW lo).length:Int):=by unfold mx;split<;>omega
 rw [e,if_pos ak,if_pos (by rw [← oa,bT];omega),Int.toNat_natCast,extract_mk _ _ _ (Nat.zero_le _),List.drop_zero,Nat.sub_zero,List.take_left]
theorem yF (lo:List UInt8) (h:∀ b,b∈lo→wG b) (hl:lo.length < 1000000000):eA.f (az lo)=some (az (Lib.toUpperA lo)):=by
 unfold eA.f
 rw [if_pos ⟨fS,List.all_eq_true.mpr fun b hb=>decide_eq_true (by
  have:=h b hb
  unfold wG at this
  have h2:b.toNat≤126:=by
   have h3: ¬ 126 < b:=fun h=>this (.inr h)
   have h4: ¬ (126:UInt8).toNat < b.toNat:=h3
   simpa using h4
  omega)⟩]
 rfl
theorem Kn (k:Nat) (ys:List Int) (s:ByteArray) (R:List ByteArray) (lo dom:ByteArray) (lit:Bool) (hp:dK.f k false R lo dom lit=some (s,0)) (hj:av.j0 k ys s false false R lo dom lit=some true):av.f k false R lo dom lit ys=some true:=by
 unfold av.f
 rw [hp,Option.bind_some]
 simp only [if_true]
 exact hj
theorem yG (k:Nat) (hk: 110≤k) (ys:List Int) (s:ByteArray) (a:Bool) (R:List ByteArray) (lo dom:ByteArray) (lit:Bool):av.j0 k ys s true a R lo dom lit=some true:=by
 obtain ⟨k,rfl⟩:∃ k',k=k' + 1:=⟨k - 1,ak⟩
 rw [av.j0,if_pos rfl,q9 k ak]
 rfl
theorem D7 (k:Nat) (hk: 3000000≤k) (ys:List Int) (hy:ys.length≤9223372036854775807):av.j0 (k + 3) ys (az oN) false false [] fN ⟨#[]⟩ false=some true:=by
 obtain ⟨m,hm,hc⟩:=oO ys (kO ++ [62]) bg hy
 have hml:=hc.len
 obtain ⟨m1,b',rfl,c1,c2⟩:=Case.append kO hc
 obtain ⟨b'',rfl,c3⟩:=c2.head bg
 have c3:b''= []:=c3
 subst c3
 have aby:m1.map dI=kO:=c1.low.trans ey
 have e1:(az oN).extract 1 (az oN).size=az (kO ++ [62]):=by
  rw [extract_mk _ _ _ bg]
  rfl
 have h2:av.j2 (k + 1) (az oN) false false [] fN ⟨#[]⟩ false=some true:=by
  have hr:=sZ false [] (Lib.toUpperA kO) [] false 1048576 (fun d hd=>by cases hd) bg bg ak k ak
  have hrb:lX false [] (Lib.toUpperA kO) [] false=false:=by
   rw [wX _ _ _ _ ey,Ci]
   rfl
  rw [hrb] at hr
  refine Gi k ak _ false [] fN ⟨#[]⟩ (az (Lib.toUpperA kO)) ⟨#[]⟩ false 150 (yF kO ey bg) (s7 hr) (fun h=>absurd h bg) (fun _ =>?_)
  rw [toList_mk,show fN=az kO from rfl,toList_mk]
  decide +kernel
 rw [av.j0,if_neg bg,if_neg (by rw [toList_mk];decide),td oN bg,G6 64 oN bg,Option.bind_some,if_pos bg,e1,hm,Option.bind_some,
  if_pos (by rw [bT,hml];decide),if_neg bg,show (⟨#[60]⟩:ByteArray) ++ az (m1 ++ [62])=az (60 :: (m1 ++ [62])) from jg [60] _]
 exact Gj k (az oN) _ false [] fN ⟨#[]⟩ false (by simp;omega) (tq aby (k + 1) ak) h2 bB
theorem Hg {ds:List (List UInt8)} {lo dom:List UInt8} {lit:Bool} (hr:lX false ds lo dom lit=true) (d1:∀ d,d∈ds→iV d) (d2:nZ lo dom lit) (d4:dom≠ []) (hd:∀ d,d∈ds→d.length≤1048576) (hlo:lo.length≤1048576) (hdom:dom.length≤1048576) (k:Nat) (hk: 3000000≤k):
 ∃ u g,dK.f k false (ds.map az) (az (Lib.toUpperA lo)) (az dom) lit=some (u,g)∧(g=0→((u.toList == (az (60 :: (fT ds lo dom lit ++ [62]))).toList) == ((az (Lib.toUpperA lo)).toList == (az lo).toList))=true)∧(g≠0→((az (Lib.toUpperA lo)).toList == (az lo).toList)=false):=by
 have hlen:(Lib.toUpperA lo).length=lo.length:=by
  unfold Lib.toUpperA
  rw [List.length_map]
 generalize Lib.toUpperA lo=Pt at hlen ⊢
 have hv:=sZ false ds Pt dom lit 1048576 hd ak hdom ak k ak
 cases hb:lX false ds Pt dom lit with
 |false=>
  rw [hb] at hv
  refine ⟨⟨#[]⟩,150,s7 hv,fun h=>absurd h bg,fun _ =>?_⟩
  rw [toList_mk,toList_mk]
  refine beq_eq_false_iff_ne.mpr fun e=>?_
  rw [e,hr] at hb
  cases hb
 |true=>
  obtain ⟨_,e1,e2,e3,e4⟩:=yB ak (fun h=>d4 h.2.1) hb
  have hw:=s9 e3
  refine ⟨_,0,Cb e1 e2 e3 e4 1048576 hd hdom ak ak k ak,fun _ =>?_,fun h=>absurd rfl h⟩
  rw [toList_mk,toList_mk,toList_mk,toList_mk]
  by_cases h:Pt=lo
  ·rw [h]
   simp
  ·have hne:((60 :: (fT ds Pt dom lit ++ [62]):List UInt8) == 60 :: (fT ds lo dom lit ++ [62]))=false:=beq_eq_false_iff_ne.mpr fun e=>h (by
    have eW:fT ds Pt dom lit=fT ds lo dom lit:=List.append_cancel_right (List.cons.inj e).2
    have i1:=wK e1 e2 []
    have i2:=wK d1 d2 []
    rw [eW,i2] at i1
    exact (mk_inj (congrArg (·.2.2.1) i1)).symm)
   rw [hne,beq_eq_false_iff_ne.mpr h]
   rfl
theorem Ko {ds:List (List UInt8)} {lo dom:List UInt8} {lit:Bool} (hr:lX false ds lo dom lit=true) (hb:boxedB lo dom lit=true) (d1:∀ d,d∈ds→iV d) (d2:nZ lo dom lit) (d3:Fits ds lo dom lit) (d4:dom≠ []) (hd:∀ d,d∈ds→d.length≤1048576) (hlo:lo.length≤1048576) (hdom:dom.length≤1048576)
 (k:Nat) (hk: 3000000≤k) (ys:List Int) (hy:ys.length≤9223372036854775807):
 av.j0 (k + 3) ys (az (60 :: (fT ds lo dom lit ++ [62]))) false false (ds.map az) (az lo) (az dom) lit=some true:=by
 have hw:=s9 d3
 have h20:=d3.many
 have h64:(64:UInt8) ∉ tailD dom lit:=(Ck d2 ak (Case.refl _)).SY
 have hwl:=s8 lo
 have afj:=d3.los
 obtain ⟨u,g,g1,g2,g3⟩:=Hg hr d1 d2 d4 hd hlo hdom k hk
 have hj2:=Gi k ak (az (60 :: (fT ds lo dom lit ++ [62]))) false (ds.map az) (az lo) (az dom) _ u lit g (yF lo d2.los ak) g1 g2 g3
 have hloc:=Hf false (ds.map az) hb h64 ak ak (k + 2) ak
 obtain ⟨R0,hR0⟩:∃ x,D4 ds=x:=⟨_,rfl⟩
 obtain ⟨w,hwx⟩:∃ x,gW lo=x:=⟨_,rfl⟩
 obtain ⟨D,hD⟩:∃ x,tailD dom lit=x:=⟨_,rfl⟩
 have hL: 60 :: (fT ds lo dom lit ++ [62])=(60 :: (R0 ++ w)) ++ 64 :: (D ++ [62]):=by
  rw [D5,hR0,hwx,hD]
  simp
 have hlen:(fT ds lo dom lit).length=R0.length + w.length + D.length + 1:=by
  have:=congrArg List.length hL
  simp only [List.length_cons,List.length_append,List.length_nil] at this
  omega
 rw [hwx] at hloc hwl
 obtain ⟨m0,t0,c0⟩:=oO ys ((R0 ++ w) ++ 64 :: (D ++ [62])) Eo hy
 obtain ⟨R,t1,c1⟩:=oO ys R0 ak hy
 obtain ⟨m,t2,c2⟩:=oO ys (D ++ [62]) Eo hy
 have l0:=c0.len
 have l1:=c1.len
 have l2:=c2.len
 obtain ⟨m1,b',rfl,c3,c4⟩:=Case.append D c2
 obtain ⟨b'',rfl,c5⟩:=c4.head bg
 have c5:b''= []:=c5
 subst c5
 have l3:=c3.len
 obtain ⟨xs,x1,x2⟩:=Nf d1 d2 ak (by rw [hR0];exact c1) (by rw [hD];exact c3)
 rw [hwx] at x1
 have hpar:=D6 x1 x2 d3 1048576 hd hdom zg (k + 1) ak zg
 simp only [List.length_cons,List.length_append,List.length_nil] at l0 l2
 have hsz:(az (60 :: (fT ds lo dom lit ++ [62]))).size=R0.length + w.length + D.length + 3:=by
  rw [bT,List.length_cons,List.length_append,hlen]
  rfl
 have hj1:=Gj k (az (60 :: (fT ds lo dom lit ++ [62]))) (az (60 :: (R ++ (w ++ 64 :: m1) ++ [62]))) false (ds.map az) (az lo) (az dom) lit kU (by
  rw [hpar,hsz]
  simp only [List.length_cons,List.length_append]
  rw [show R.length + (w.length + (m1.length + 1)) + 2=R0.length + w.length + D.length + 3 by omega]) hj2 kU
 have e0:(az (60 :: (fT ds lo dom lit ++ [62]))).extract 1 (az (60 :: (fT ds lo dom lit ++ [62]))).size=az ((R0 ++ w) ++ 64 :: (D ++ [62])):=by
  rw [extract_mk _ _ _ ak,hL]
  congr 1
  rw [List.cons_append,List.drop_one,List.tail_cons,List.take_of_length_le En]
 have e1:(az (60 :: (fT ds lo dom lit ++ [62]))).extract 1 (((60 :: (R0 ++ w)).length:Int)).toNat=az (R0 ++ w):=by
  rw [Int.toNat_natCast,extract_mk _ _ _ bB,hL]
  congr 1
  rw [List.cons_append,List.drop_one,List.tail_cons,List.length_cons,Nat.add_sub_cancel,List.take_left]
 have e2:strings_TrimSuffix.f (az (R0 ++ w)) (az w)=some (az R0):=by
  unfold strings_TrimSuffix.f
  rw [if_pos (by rw [bT,List.length_append];omega)]
  show some (az (Lib.trimSuffix (R0 ++ w) w))=_
  rw [He]
 have e3:wrap64 (((60 :: (R0 ++ w)).length:Int) + 1)=(((60 :: (R0 ++ w)).length + 1:Nat):Int):=lY _ zg
 have e4:(az (60 :: (fT ds lo dom lit ++ [62]))).extract ((((60 :: (R0 ++ w)).length + 1:Nat):Int)).toNat (az (60 :: (fT ds lo dom lit ++ [62]))).size=az (D ++ [62]):=by
  rw [Int.toNat_natCast,extract_mk _ _ _ (by rw [hsz];simp only [List.length_cons,List.length_append];omega),hL]
  congr 1
  rw [← List.drop_drop,List.drop_left,List.drop_one,List.tail_cons,List.take_of_length_le En]
 have hlast:qP 64 (az (60 :: (fT ds lo dom lit ++ [62])))=((60 :: (R0 ++ w)).length:Int):=by
  rw [hL]
  refine yD 64 _ _ fun h=>?_
  rcases List.mem_append.mp h with h|h
  ·exact h64 (by rw [hD];exact h)
  ·exact absurd (List.mem_singleton.mp h) bg
 have a1:(⟨#[60]⟩:ByteArray) ++ az R=az (60 :: R):=jg [60] R
 have a2:az (60 :: R) ++ az w=az (60 :: R ++ w):=jg _ _
 have a3:az (60 :: R ++ w) ++ (⟨#[64]⟩:ByteArray)=az (60 :: R ++ w ++ [64]):=jg _ [64]
 have a4:az (60 :: R ++ w ++ [64]) ++ az (m1 ++ [62])=az (60 :: (R ++ (w ++ 64 :: m1) ++ [62])):=by
  rw [jg]
  congr 1
  simp
 have adW:(60 :: (R0 ++ w)).length=R0.length + w.length + 1:=by rw [List.length_cons,List.length_append]
 rw [av.j0,if_neg bg,if_neg (by rw [toList_mk];exact fun h=>by cases h),td _ (by rw [hL];simp only [List.length_cons,List.length_append,List.length_nil];omega),hlast,Option.bind_some,if_pos (by rw [hsz];omega),e0,t0,Option.bind_some,
  if_pos fS,if_pos ak,if_pos ak,if_pos (by rw [hsz];omega),hloc,Option.bind_some,e1,e2,Option.bind_some,t1,Option.bind_some,if_pos fS,Option.bind_some,a1,
  if_pos (by rw [bT,bT,List.length_cons];omega),a2,if_pos (by rw [bT];simp only [List.length_cons,List.length_append];omega),e3,if_pos ak,if_pos (by rw [hsz];omega),e4,t2,Option.bind_some,a3,
  if_pos (by rw [bT,bT];simp only [List.length_cons,List.length_append,List.length_nil];omega),a4]
 exact hj1
theorem mk_data (s:ByteArray):az s.data.toList=s:=by
 obtain ⟨⟨l⟩⟩:=s
 rfl
theorem Pw (R:List ByteArray):(R.map fun y=>y.data.toList).map az=R:=by
 rw [List.map_map]
 have:az ∘(fun y:ByteArray=>y.data.toList)=id:=by
  funext y
  exact mk_data y
 rw [this,List.map_id]
theorem D8 (a:Bool) (ds:List (List UInt8)) (lo dom:List UInt8) (lit:Bool) (ys:List Int) (hd:∀ d,d∈ds→d.length≤1048576) (hlo:lo.length≤1048576) (hdom:dom.length≤1048576) (hy:ys.length≤9223372036854775807):
 av.f 3000003 a (ds.map az) (az lo) (az dom) lit ys=some true:=by
 have hv:=sZ a ds lo dom lit 1048576 hd hlo hdom ak 3000003 ak
 cases hr:lX a ds lo dom lit with
 |false=>
  rw [hr] at hv
  unfold av.f
  rw [s7 hv,Option.bind_some]
  simp only
  rw [if_neg bg]
  exact yG _ ak ..
 |true=>
  cases a with
  |true=>
   rw [tT] at hr
   simp only [Bool.and_eq_true,decide_eq_true_eq,Bool.not_eq_true'] at hr
   obtain ⟨⟨rfl,rfl,rfl⟩,rfl⟩:=hr
   unfold av.f
   rw [show dK.f 3000003 true (([]:List (List UInt8)).map az) (az []) (az []) false=_ from DZ 3000003,Option.bind_some]
   simp only [if_true]
   exact yG _ ak ..
  |false=>
   by_cases hp:lo= [112,111,115,116,109,97,115,116,101,114]∧dom= []∧lit=false
   ·obtain ⟨rfl,rfl,rfl⟩:=hp
    rw [sy] at hr
    obtain rfl:=of_decide_eq_true hr
    exact Kn _ ys (az oN) [] fN ⟨#[]⟩ false (Ce _) (D7 3000000 ak ys hy)
   ·obtain ⟨hb,d1,d2,d3,d4⟩:=yB ak hp hr
    have hw:=s9 d3
    exact Kn _ ys _ _ _ _ _ (Cb d1 d2 d3 d4 1048576 hd hdom ak ak _ ak) (Ko hr hb d1 d2 d3 d4 hd hlo hdom 3000000 ak ys hy)
theorem xA (a:Bool) (R:List ByteArray) (lo dom:ByteArray) (lit:Bool) (ys:List Int) (hRs:∀ y,y∈R→y.size≤1048576) (hlo:lo.size≤1048576) (hdom:dom.size≤1048576) (hy:ys.length≤1048576):
 ∃ k,av.f k a R lo dom lit ys=some true:=by
 refine ⟨3000003,?_⟩
 have h:=D8 a (R.map fun y=>y.data.toList) lo.data.toList dom.data.toList lit ys (fun d hd=>by
  obtain ⟨y,hy,rfl⟩:=List.mem_map.mp hd
  rw [dz]
  exact hRs y hy) (by rw [dz];exact hlo) (by rw [dz];exact hdom) ak
 rw [Pw,mk_data,mk_data] at h
 exact h
end Go.Proofs.YtokpnfljjjjikaaGreatDoor.ia
