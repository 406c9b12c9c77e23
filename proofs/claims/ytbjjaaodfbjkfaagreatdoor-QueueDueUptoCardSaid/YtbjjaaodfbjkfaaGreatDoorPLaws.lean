import Derived.Test.YtbjjaaodfbjkfaaGreatDoorQQux19
import Derived.Test.YtbjjaaodfbjkfaaGreatDoorRows
import Derived.OpenShut
import Derived.SliceStrings
namespace Go.Proofs.YtbjjaaodfbjkfaaGreatDoor.xG
open Go.RowKit Go.Proofs.YtbjjaaodfbjkfaaGreatDoor.ow Go.Proofs.ak.bY Go.Proofs.ak.dU Go.Proofs.ak.dJ
set_option linter.unusedVariables false
set_option linter.unusedSimpArgs false
theorem CF {α:Type} (p:α→Bool) (l:List α):(!(l.any fun x=>!p x))=l.all p:=by
 induction l with
 |nil=>rfl
 |cons x l ih=>rw [List.any_cons,List.all_cons,Bool.not_or,Bool.not_not,ih]
abbrev Pt:=VS
abbrev Bx:=GI
def tM (n:Int):Bool:=decide (0≤n) && decide (n≤1099511627776)
theorem YD (a:Int):nk.f a=some (!tM a):=by
 unfold nk.f tM
 by_cases h:a < 0
 ·rw [if_pos h];simp;omega
 ·rw [if_neg h,decide_eq_true (show 0≤a by omega),Bool.true_and,← decide_not];simp
theorem YE (l:List Int) (hm:l.length≤9223372036854775807):∀ (d k n:Nat),n + d=l.length→d < k→
 ∃ r,aV.l0 k l (l.length:Int) (n:Int)=some r∧(decide (0≤r))=(l.drop n).any fun x=>!tM x:=by
 intro d
 induction d with
 |zero=>
  intro k n hn hk
  obtain ⟨k,rfl⟩:∃ m,k=m + 1:=⟨k - 1,aA⟩
  exact ⟨-1,by simp only [aV.l0];rw [if_neg aA],by rw [List.drop_of_length_le aA];rfl⟩
 |succ d ih=>
  intro k n hn hk
  obtain ⟨k,rfl⟩:∃ m,k=m + 1:=⟨k - 1,aA⟩
  have hlt:n < l.length:=by omega
  have hrd:rd l (n:Int)=l[n]:=by unfold rd;simp [List.getD_eq_getElem?_getD,List.getElem?_eq_getElem hlt]
  have hw:wrap64 ((n:Int) + 1)=((n + 1:Nat):Int):=by unfold wrap64;omega
  rw [List.drop_eq_getElem_cons hlt,List.any_cons]
  simp only [aV.l0]
  rw [if_pos aA,if_pos aA,if_pos aA,YD,hrd]
  simp only [Option.bind_some]
  cases h:tM l[n] with
  |true=>
   obtain ⟨r,hr,hd⟩:=ih k (n + 1) aA aA
   exact ⟨r,PZ,by rw [hd];simp⟩
  |false=>exact ⟨(n:Int),dz,dz⟩
theorem Lp (l:List Int) (hm:l.length≤9223372036854775807) (k:Nat) (hk:l.length < k):dm.f k l=some (l.all tM):=by
 unfold dm.f cr.f aV.f
 obtain ⟨r,hr,hd⟩:=YE l hm l.length k 0 aA hk
 rw [List.drop_zero] at hd
 rw [show ((0:Nat):Int)=0 from rfl] at hr
 rw [hr]
 simp only [Option.bind_some,ge_iff_le]
 rw [hd,CF]
def uJ (ρ:Pt→Bool) (r:Rc):Bool:=ρ ⟨false,[],r.f0⟩ && (decide (r.f1≤2) && (tM r.f2 && tM r.f3))
def yu (ρ:Pt→Bool) (k0:Nat) (p:Pt):Prop:=∀ k,k0≤k→ez.f k p.f0 p.f1 p.f2.f0 p.f2.f1 p.f2.f2=some (ρ p)
theorem ad6 {ρ:Pt→Bool} {k0:Nat} {r:Rc} (h:yu ρ k0 ⟨false,[],r.f0⟩) (k:Nat) (hk:k0 + 3≤k):iL.f k r.f0.f0 r.f0.f1 r.f0.f2 r.f1 r.f2 r.f3=some (!uJ ρ r):=by
 unfold iL.f ld.f uJ
 rw [h k aA]
 simp only [Option.bind_some]
 cases ρ ⟨false,[],r.f0⟩ with
 |false=>rfl
 |true=>
  rw [if_pos rfl]
  by_cases h2:r.f1≤2
  ·rw [if_pos h2,Lp _ dz k sZ,decide_eq_true h2]
   simp
  ·rw [if_neg h2,decide_eq_false h2]
   rfl
theorem YF {ρ:Pt→Bool} {k0:Nat} (l:List Rc) (hm:l.length≤9223372036854775807) (h:∀ r∈l,yu ρ k0 ⟨false,[],r.f0⟩):∀ (d k n:Nat),n + d=l.length→d + k0 + 3 < k→
 ∃ r,aG.l0 k l (l.length:Int) (n:Int)=some r∧(decide (0≤r))=(l.drop n).any fun x=>!uJ ρ x:=by
 intro d
 induction d with
 |zero=>
  intro k n hn hk
  obtain ⟨k,rfl⟩:∃ m,k=m + 1:=⟨k - 1,aA⟩
  exact ⟨-1,by simp only [aG.l0];rw [if_neg aA],by rw [List.drop_of_length_le aA];rfl⟩
 |succ d ih=>
  intro k n hn hk
  obtain ⟨k,rfl⟩:∃ m,k=m + 1:=⟨k - 1,aA⟩
  have hlt:n < l.length:=by omega
  have hrd:bn l (n:Int)=l[n]:=by unfold bn;simp [List.getD_eq_getElem?_getD,List.getElem?_eq_getElem hlt]
  have hw:wrap64 ((n:Int) + 1)=((n + 1:Nat):Int):=by unfold wrap64;omega
  rw [List.drop_eq_getElem_cons hlt,List.any_cons]
  simp only [aG.l0]
  rw [if_pos aA,if_pos aA,if_pos aA,hrd,ad6 (h _ (List.getElem_mem hlt)) k aA]
  simp only [Option.bind_some]
  cases hv:uJ ρ l[n] with
  |true=>
   obtain ⟨r,hr,hd⟩:=ih k (n + 1) aA aA
   exact ⟨r,PZ,by rw [hd];simp⟩
  |false=>exact ⟨(n:Int),dz,dz⟩
theorem YG {ρ:Pt→Bool} {k0:Nat} (l:List Rc) (hm:l.length≤9223372036854775807) (h:∀ r∈l,yu ρ k0 ⟨false,[],r.f0⟩) (k:Nat) (hk:l.length + k0 + 3 < k):
 ((bh.f k l).bind fun t=>(some (!t)))=some (l.all (uJ ρ)):=by
 unfold bh.f aG.f
 obtain ⟨r,hr,hd⟩:=YF l hm h l.length k 0 aA aA
 rw [List.drop_zero] at hd
 rw [show ((0:Nat):Int)=0 from rfl] at hr
 rw [hr]
 simp only [Option.bind_some,ge_iff_le]
 rw [hd,CF]
def tN (ρ:Pt→Bool) (m:Ml):Bool:=
 decide (1≤m.f0) && (decide (m.f0 < 1099511627776) && (tM m.f4 && (decide (m.f1.f1.length=0) && (ρ m.f1 && ((m.f1.f0 || !decide (m.f1.f2.f1.toList= [])) && (decide (m.f3.length≤524288) && (decide (1≤m.f2.length) && (decide (m.f2.length≤100) && m.f2.all (uJ ρ)))))))))
structure Lq (ρ:Pt→Bool) (k0:Nat) (m:Ml):Prop where
 frm:yu ρ k0 m.f1
 rcs:∀ r∈m.f2,yu ρ k0 ⟨false,[],r.f0⟩
theorem VJ {ρ:Pt→Bool} {k0:Nat} {m:Ml} (h:Lq ρ k0 m) (hm:m.f2.length≤9223372036854775807) (k:Nat) (hk:k0 + 110≤k):
 (if (m.f3.length:Int) > 524288 then (some false) else (if (m.f2.length:Int)≥1 then (if (m.f2.length:Int)≤100 then ((bh.f k m.f2).bind fun t235=>(some (!t235))) else (some false)) else (some false)))=
   some (decide (m.f3.length≤524288) && (decide (1≤m.f2.length) && (decide (m.f2.length≤100) && m.f2.all (uJ ρ)))):=by
 by_cases h1:m.f3.length≤524288
 ·rw [if_neg aA,decide_eq_true h1,Bool.true_and]
  by_cases h2: 1≤m.f2.length
  ·rw [if_pos aA,decide_eq_true h2,Bool.true_and]
   by_cases h3:m.f2.length≤100
   ·rw [if_pos aA,decide_eq_true h3,Bool.true_and,YG m.f2 hm h.rcs k aA]
   ·rw [if_neg aA,decide_eq_false h3];rfl
  ·rw [if_neg aA,decide_eq_false h2];rfl
 ·rw [if_pos aA,decide_eq_false h1];rfl
theorem ad7 {ρ:Pt→Bool} {k0:Nat} {m:Ml} (h:Lq ρ k0 m) (hm:m.f2.length≤9223372036854775807) (k:Nat) (hk:k0 + 110≤k):
 ig.f k m.f0 m.f1.f0 m.f1.f1 m.f1.f2.f0 m.f1.f2.f1 m.f1.f2.f2 m.f2 m.f3 m.f4=some (tN ρ m):=by
 unfold ig.f tN
 by_cases h1: 1≤m.f0
 ·rw [if_neg aA,decide_eq_true h1,Bool.true_and]
  by_cases h2:m.f0 < 1099511627776
  ·rw [if_neg aA,decide_eq_true h2,Bool.true_and,Lp [m.f4] dz k sZ]
   simp only [Option.bind_some,List.all_cons,List.all_nil,Bool.and_true]
   cases tM m.f4 with
   |false=>rfl
   |true=>
    rw [if_pos rfl,Bool.true_and]
    by_cases h3:m.f1.f1.length=0
    ·rw [if_neg aA,decide_eq_true h3,Bool.true_and,h.frm k aA]
     simp only [Option.bind_some]
     cases ρ m.f1 with
     |false=>rfl
     |true=>
      rw [if_pos rfl,Bool.true_and]
      have ht:=VJ h hm k hk
      cases h4:m.f1.f0 with
      |true=>rw [if_pos rfl,Bool.true_or,Bool.true_and];exact ht
      |false=>
       rw [if_neg bC,Bool.false_or]
       by_cases h5:m.f1.f2.f1.toList= []
       ·rw [if_pos h5,decide_eq_true h5];rfl
       ·rw [if_neg h5,decide_eq_false h5,Bool.not_false,Bool.true_and];exact ht
    ·rw [if_pos aA,decide_eq_false h3];rfl
  ·rw [if_pos aA,decide_eq_false h2];rfl
 ·rw [if_pos aA,decide_eq_false h1];rfl
def jU (m:Ml):Bool:=decide (m.f0=0) && (decide (m.f4=0) && (!m.f1.f0 && (decide (m.f1.f1.length=0) && ((m.f1.f2.f0.toList == ([]:List UInt8) && (m.f1.f2.f1.toList == ([]:List UInt8) && (!m.f1.f2.f2))) && decide (m.f2.length + m.f3.length=0)))))
theorem zo (m:Ml) (h2:m.f2.length≤9223372036854775807) (h3:m.f3.length≤9223372036854775807):dK.f m.f0 m.f1.f0 m.f1.f1 m.f1.f2.f0 m.f1.f2.f1 m.f1.f2.f2 m.f2 m.f3 m.f4=some (jU m):=by
 unfold dK.f jU
 by_cases a:m.f0=0
 ·rw [if_pos a,decide_eq_true a,Bool.true_and]
  by_cases b:m.f4=0
  ·rw [if_pos b,decide_eq_true b,Bool.true_and]
   cases m.f1.f0 with
   |true=>rfl
   |false=>
    rw [if_neg bC,Bool.not_false,Bool.true_and]
    by_cases c:m.f1.f1.length=0
    ·rw [if_pos aA,decide_eq_true c,Bool.true_and]
     cases (m.f1.f2.f0.toList == ([]:List UInt8) && (m.f1.f2.f1.toList == ([]:List UInt8) && (!m.f1.f2.f2))) with
     |false=>rfl
     |true=>
      rw [if_pos rfl,Bool.true_and]
      congr 1
      rw [Bool.eq_iff_iff,beq_iff_eq,decide_eq_true_iff]
      unfold wrap64
      omega
    ·rw [if_neg aA,decide_eq_false c];rfl
  ·rw [if_neg b,decide_eq_false b];rfl
 ·rw [if_neg a,decide_eq_false a];rfl
def rT (ρ:Pt→Bool) (kind id at_ due:Int) (m:Ml):Bool:=
 [id,at_,due].all tM && (if kind=1 then decide (id + at_ + due=0) && tN ρ m else if kind=5 then decide (at_ + due=0) && (jU m || tN ρ m) else if kind=2 then jU m else if kind=3∨kind=4 then decide (due=0) && jU m else if kind=6 then decide (at_ + due=0) && jU m else false)
theorem VK {α:Type} (o:Option α):(o.bind fun t=>some t)=o:=by cases o<;>rfl
theorem change_eq {ρ:Pt→Bool} {k0:Nat} {m:Ml} (h:Lq ρ k0 m) (h2:m.f2.length≤9223372036854775807) (h3:m.f3.length≤9223372036854775807) (kind id at_ due:Int) (k:Nat) (hk:k0 + 112≤k):
 cW.f k kind id at_ due m.f0 m.f1.f0 m.f1.f1 m.f1.f2.f0 m.f1.f2.f1 m.f1.f2.f2 m.f2 m.f3 m.f4=some (rT ρ kind id at_ due m):=by
 obtain ⟨k,rfl⟩:∃ j,k=j + 1:=⟨k - 1,aA⟩
 unfold cW.f rT
 rw [Lp _ dz _ sZ]
 simp only [Option.bind_some]
 cases ht: [id,at_,due].all tM with
 |false=>rfl
 |true=>
  have hb:(0≤id∧id≤1099511627776)∧(0≤at_∧at_≤1099511627776)∧(0≤due∧due≤1099511627776):=by simpa [tM] using ht
  rw [if_pos rfl,Bool.true_and]
  simp only [zo m h2 h3,ad7 h h2 (k + 1) aA,cW.j0,Option.bind_some,VK]
  by_cases k1:kind=1
  ·rw [if_pos k1,if_pos k1]
   by_cases z:id + at_ + due=0
   ·rw [if_pos u7,decide_eq_true z,Bool.true_and]
   ·rw [if_neg u7,decide_eq_false z];rfl
  ·rw [if_neg k1,if_neg k1]
   by_cases k5:kind=5
   ·rw [if_pos k5,if_pos k5]
    by_cases z:at_ + due=0
    ·rw [if_pos u7,decide_eq_true z,Bool.true_and]
     cases jU m<;>rfl
    ·rw [if_neg u7,decide_eq_false z];rfl
   ·rw [if_neg k5,if_neg k5]
    by_cases k2:kind=2
    ·rw [if_pos k2,if_pos k2]
    ·rw [if_neg k2,if_neg k2]
     by_cases k3:kind=3
     ·subst k3
      simp
      by_cases z:due=0
      ·simp [z]
      ·simp [z]
     ·rw [if_neg k3]
      by_cases k4:kind=4
      ·subst k4
       simp
       by_cases z:due=0
       ·simp [z]
       ·simp [z]
      ·have e4:(kind == 4)=false:=by simpa using k4
       rw [e4,if_neg bC,if_neg (show ¬ (kind=3∨kind=4) by omega)]
       by_cases k6:kind=6
       ·rw [if_pos k6,if_pos k6]
        by_cases z:at_ + due=0
        ·rw [if_pos u7,decide_eq_true z,Bool.true_and]
        ·rw [if_neg u7,decide_eq_false z];rfl
       ·rw [if_neg k6,if_neg k6]
theorem MZ (ms:List Ml) (hl:ms.length≤1034834473200) (ho:∀ m∈ms,tu m) (n:Int):∀ (d k i:Nat),i + d=ms.length→d < k→
 cF.l0 k ms (ms.length:Int) (i:Int) n (ms.take i)=some (n,ms):=by
 intro d
 induction d with
 |zero=>
  intro k i hi hk
  obtain ⟨k,rfl⟩:∃ m,k=m + 1:=⟨k - 1,aA⟩
  simp only [cF.l0]
  rw [if_neg aA,List.take_of_length_le aA]
 |succ d ih=>
  intro k i hi hk
  obtain ⟨k,rfl⟩:∃ m,k=m + 1:=⟨k - 1,aA⟩
  have hlt:i < ms.length:=by omega
  have hrd:aj ms (i:Int)=ms[i]:=by unfold aj;simp [List.getD_eq_getElem?_getD,List.getElem?_eq_getElem hlt]
  have hw:wrap64 ((i:Int) + 1)=((i + 1:Nat):Int):=by unfold wrap64;omega
  simp only [cF.l0]
  rw [if_pos aA,if_pos aA,if_pos aA,hrd,Fq (ho _ (List.getElem_mem hlt))]
  simp only [Option.bind_some]
  rw [if_pos (by rw [List.length_take];omega),hw]
  have h1:=ih k (i + 1) aA aA
  rw [List.take_succ_eq_append_getElem hlt] at h1
  exact h1
theorem copied_eq (ms:List Ml) (hl:ms.length≤1034834473200) (ho:∀ m∈ms,tu m) (n:Int) (k:Nat) (hk:ms.length < k):cF.f k n ms=some (n,ms):=by
 unfold cF.f
 have h:=MZ ms hl ho n ms.length k 0 aA hk
 rw [List.take_zero] at h
 exact h
end Go.Proofs.YtbjjaaodfbjkfaaGreatDoor.xG
namespace Go.Proofs.YtbjjaaodfbjkfaaGreatDoor.YH
open Go.RowKit Go.Proofs.YtbjjaaodfbjkfaaGreatDoor Go.Proofs.YtbjjaaodfbjkfaaGreatDoor.ow Go.Proofs.ak.bY Go.Proofs.ak.dJ
set_option linter.unusedVariables false
set_option linter.unusedSimpArgs false
def rest (s:ByteArray) (p:Nat):List UInt8:=s.data.toList.drop p
theorem pM (s:ByteArray) (p:Nat):(rest s p).length=s.size - p:=by
 unfold rest
 rw [List.length_drop,jE]
theorem FO (s:ByteArray) (p n:Nat):rest s (p + n)=(rest s p).drop n:=by
 unfold rest
 rw [List.drop_drop]
theorem G1 {s:ByteArray} {p:Nat} {b:UInt8} {l:List UInt8} (h:rest s p=b :: l):p < s.size∧bt s (p:Int)=(b.toNat:Int)∧rest s (p + 1)=l:=by
 have hlen:=pM s p
 rw [h] at hlen
 have hp:p < s.size:=by simp at hlen;omega
 refine ⟨hp,?_,?_⟩
 ·have h0:(rest s p)[0]? =some b:=by rw [h];rfl
  unfold rest at h0
  rw [List.getElem?_drop] at h0
  unfold bt
  have hp':((p:Int)).toNat < s.size:=by omega
  rw [dif_pos hp']
  have h1:s[((p:Int)).toNat]'hp'=b:=by
   have h2:s.data.toList[p]? =some b:=by simpa using h0
   rw [List.getElem?_eq_getElem (by rw [jE];exact hp)] at h2
   have h3:=Option.some.inj h2
   rw [← h3]
   simp [ByteArray.getElem_eq_getElem_data]
  rw [h1]
 ·rw [FO,h]
  rfl
theorem M0 {s:ByteArray} {p:Nat} (h:rest s p= []):s.size≤p:=by
 have hlen:=pM s p
 rw [h] at hlen
 simp at hlen
 omega
theorem rU (s:ByteArray) (p q:Nat) (_h:p≤q):s.extract p q=dn ((rest s p).take (q - p)):=by
 apply ByteArray.ext
 rw [← Array.toList_inj]
 simp [dn,rest]
theorem xH {α:Type} (P:α→Bool):∀ l:List α,l.take (l.takeWhile P).length=l.takeWhile P
 | []=>rfl
 |b :: l=>by
  by_cases hb:P b=true
  ·simp [hb,xH P l]
  ·simp [hb]
theorem G3 (n:Nat) (h:n < 4611686018427387904):wrap64 ((n:Int) + 1)=((n + 1:Nat):Int):=by unfold wrap64;omega
def sH (c:UInt8):List UInt8→Bool
 | []=>false
 |b :: _ =>b == c
theorem ad8 (s:ByteArray) (p:Nat) (c:UInt8) (ci:Int) (hc:ci=(c.toNat:Int)) (hs:s.size < 4611686018427387904):
 jO.f s (p:Int) ci=some (sH c (rest s p),s,(((if sH c (rest s p)=true then p + 1 else p):Nat):Int)):=by
 subst hc
 unfold jO.f
 cases hr:rest s p with
 |nil=>
  have:=M0 hr
  rw [if_neg aA]
  rfl
 |cons b l=>
  obtain ⟨h1,h2,_⟩:=G1 hr
  rw [if_pos aA,if_pos aA,h2]
  by_cases hb:b=c
  ·subst hb
   rw [if_pos rfl,G3 p aA]
   simp [sH]
  ·rw [if_neg (by intro h;exact hb (UInt8.toNat_inj.mp aA))]
   simp [sH,hb]
def zq (b:UInt8):Bool:=(gj.f (b.toNat:Int)).getD false
theorem ad9 (b:UInt8):gj.f (b.toNat:Int)=some (zq b):=by
 unfold zq
 have h:(gj.f (b.toNat:Int)).isSome=true:=by
  have h2:∀ n,n < 256→(gj.f ((n:Nat):Int)).isSome=true:=by decide +kernel
  exact h2 _ (UInt8.toNat_lt b)
 cases hf:gj.f (b.toNat:Int) with
 |none=>rw [hf] at h;cases h
 |some x=>rfl
theorem Uw (s:ByteArray) (hs:s.size < 4611686018427387904) (a:Nat):∀ (k p:Nat),(rest s p).length < k→a≤p→p≤s.size→
 aU.l0 k (a:Int) s (p:Int)=some (s.extract a (p + ((rest s p).takeWhile zq).length),decide (a < p + ((rest s p).takeWhile zq).length),s,((p + ((rest s p).takeWhile zq).length:Nat):Int))
 | 0,p,h,_,_ =>absurd h (Nat.not_lt_zero _)
 |k + 1,p,h,ha,hp=>by
  unfold aU.l0
  cases hr:rest s p with
  |nil=>
   have:=M0 hr
   rw [if_neg aA,if_pos aA,if_pos aA,if_pos aA]
   simp
   try exact decide_eq_decide.mpr Iff.rfl
  |cons c l=>
   obtain ⟨h1,h2,h3⟩:=G1 hr
   rw [if_pos aA,if_pos aA,h2,ad9]
   simp only [Option.bind_some]
   by_cases hb:zq c=true
   ·rw [if_pos hb,G3 p aA,Uw s hs a k (p + 1) (by rw [h3];rw [hr] at h;simp at h;omega) aA aA,h3]
    have e:p + 1 + (l.takeWhile zq).length=p + ((c :: l).takeWhile zq).length:=by simp [hb];omega
    rw [e]
   ·rw [if_neg hb,if_pos aA,if_pos aA,if_pos aA]
    simp [hb]
theorem ah6 (s:ByteArray) (hs:s.size < 4611686018427387904) (k p:Nat) (hk:(rest s p).length < k) (hp:p≤s.size):
 aU.f k s (p:Int)=some (dn ((rest s p).takeWhile zq),decide (0 < ((rest s p).takeWhile zq).length),s,((p + ((rest s p).takeWhile zq).length:Nat):Int)):=by
 unfold aU.f
 rw [Uw s hs p k p hk (Nat.le_refl _) hp,rU _ _ _ aA,Nat.add_sub_cancel_left,xH]
 congr 2
 simp
theorem YI (l:List UInt8) (i:Nat) (h:i < l.length):bt (dn l) (i:Int)=((l.getD i 0).toNat:Int):=by
 unfold bt
 have h':((i:Int)).toNat < (dn l).size:=by show _ < l.length;omega
 rw [dif_pos h']
 have:(dn l)[((i:Int)).toNat]'(h')=l.getD i 0:=by
  simp only [Int.toNat_natCast]
  rw [List.getD_eq_getElem?_getD,List.getElem?_eq_getElem h]
  rfl
 rw [this]
theorem iQ (l:List UInt8):(dn l).size=l.length:=rfl
theorem Bj {α:Type} (P:α→Bool) (l:List α):(l.takeWhile P).length≤l.length:=(List.takeWhile_sublist P).length_le
def kL (l:List UInt8):Bool×Nat:=
 (match l.takeWhile zq with
  | []=>false
  |c :: t=>c != 45 && (c :: t).getD t.length 0 != 45,(l.takeWhile zq).length)
theorem toNat_eq {a b:UInt8} (h:(a.toNat:Int)=(b.toNat:Int)):a=b:=UInt8.toNat_inj.mp aA
theorem label_eq (s:ByteArray) (hs:s.size < 4611686018427387904) (k p:Nat) (hk:(rest s p).length < k) (hp:p≤s.size):
 fS.f k s (p:Int)=some ((kL (rest s p)).1,s,((p + (kL (rest s p)).2:Nat):Int)):=by
 unfold fS.f kL
 rw [ah6 s hs k p hk hp]
 simp only [Option.bind_some]
 have hle:=Bj zq (rest s p)
 have hrl:=pM s p
 generalize (rest s p).takeWhile zq=w at hle ⊢
 cases w with
 |nil=>simp
 |cons c t=>
  have h0:bt (dn (c :: t)) 0=(c.toNat:Int):=YI (c :: t) 0 dz
  have e1:wrap64 (((dn (c :: t)).size:Int) - 1)=(t.length:Int):=by
   rw [iQ]
   unfold wrap64
   simp at hle ⊢
   omega
  have h1:bt (dn (c :: t)) (t.length:Int)=(((c :: t).getD t.length 0).toNat:Int):=YI (c :: t) t.length dz
  rw [if_pos dz,if_pos (by rw [iQ];first|(simp;done)|(simp;omega)),h0,e1,h1]
  by_cases hc:c=45
  ·subst hc
   rw [if_pos (show ((UInt8.toNat 45:Nat):Int)=45 from rfl)]
   simp
  ·rw [if_neg (show ¬ (c.toNat:Int)=45 from fun h=>hc (toNat_eq (b:=45) h)),if_pos aA,if_pos (by rw [iQ];first|(simp;done)|(simp;omega))]
   have:((((c :: t).getD t.length 0).toNat:Int) != 45)=((c :: t).getD t.length 0 != 45):=by
    by_cases hl:(c :: t).getD t.length 0=45
    ·rw [hl];rfl
    ·rw [bne_iff_ne.mpr hl,bne_iff_ne.mpr (show (((c :: t).getD t.length 0).toNat:Int)≠45 from fun h=>hl (toNat_eq (b:=45) h))]
   rw [this]
   simp [hc]
theorem G5 (l:List UInt8):(kL l).2≤l.length:=Bj _ _
def FP (part:List UInt8→Bool×Nat) (c:UInt8):Nat→List UInt8→Bool×Nat
 | 0,_ =>(false,0)
 |n + 1,l=>if (part l).1=true then (if sH c (l.drop (part l).2)=true then ((FP part c n (l.drop ((part l).2 + 1))).1,(part l).2 + 1 + (FP part c n (l.drop ((part l).2 + 1))).2) else (true,(part l).2)) else (false,(part l).2)
def oX (part:List UInt8→Bool×Nat) (c:UInt8) (l:List UInt8):Bool×Nat:=FP part c (l.length + 1) l
theorem tO {c:UInt8} {l:List UInt8} {n:Nat} (h:sH c (l.drop n)=true):n < l.length:=by
 rcases Nat.lt_or_ge n l.length with h1|h1
 ·exact h1
 ·rw [List.drop_of_length_le h1] at h
  cases h
theorem G6 (part:List UInt8→Bool×Nat) (c:UInt8):∀ (n m:Nat) (l:List UInt8),l.length < n→l.length < m→FP part c n l=FP part c m l
 | 0,_,_,h,_ =>absurd h (Nat.not_lt_zero _)
 |_,0,_,_,h=>absurd h (Nat.not_lt_zero _)
 |n + 1,m + 1,l,h1,h2=>by
  unfold FP
  by_cases hp:(part l).1=true
  ·rw [if_pos hp,if_pos hp]
   by_cases hn:sH c (l.drop (part l).2)=true
   ·have:=tO hn
    rw [if_pos hn,if_pos hn,G6 part c n m _ xM xM]
   ·rw [if_neg hn,if_neg hn]
  ·rw [if_neg hp,if_neg hp]
theorem M3 (part:List UInt8→Bool×Nat) (c:UInt8) (l:List UInt8):
 oX part c l=if (part l).1=true then (if sH c (l.drop (part l).2)=true then ((oX part c (l.drop ((part l).2 + 1))).1,(part l).2 + 1 + (oX part c (l.drop ((part l).2 + 1))).2) else (true,(part l).2)) else (false,(part l).2):=by
 unfold oX
 rw [FP]
 by_cases hp:(part l).1=true
 ·rw [if_pos hp,if_pos hp]
  by_cases hn:sH c (l.drop (part l).2)=true
  ·have:=tO hn
   rw [if_pos hn,if_pos hn,G6 part c l.length ((l.drop ((part l).2 + 1)).length + 1) _ xM aA]
  ·rw [if_neg hn,if_neg hn]
 ·rw [if_neg hp,if_neg hp]
theorem M4 (part:List UInt8→Bool×Nat) (c:UInt8) (hpart:∀ l,(part l).2≤l.length):∀ (n:Nat) (l:List UInt8),l.length < n→(oX part c l).2≤l.length
 | 0,_,h=>absurd h (Nat.not_lt_zero _)
 |n + 1,l,h=>by
  rw [M3]
  have hl:=hpart l
  by_cases hp:(part l).1=true
  ·rw [if_pos hp]
   by_cases hn:sH c (l.drop (part l).2)=true
   ·have h1:=tO hn
    have h2:=M4 part c hpart n (l.drop ((part l).2 + 1)) xM
    rw [List.length_drop] at h2
    rw [if_pos hn]
    show _ + 1 + _≤_
    omega
   ·rw [if_neg hn]
    exact hl
  ·rw [if_neg hp]
   exact hl
theorem FQ (s:ByteArray) (hs:s.size < 4611686018427387904):∀ (k p:Nat),(rest s p).length + 1 < k→p≤s.size→
 bg.l0 k 46 s (p:Int)=some ((oX kL 46 (rest s p)).1,s,((p + (oX kL 46 (rest s p)).2:Nat):Int))
 | 0,p,h,_ =>absurd h aA
 |k + 1,p,h,hp=>by
  have hle:=G5 (rest s p)
  have hrl:=pM s p
  unfold bg.l0
  rw [label_eq s hs k p aA hp,M3]
  simp only [Option.bind_some]
  by_cases h1:(kL (rest s p)).1=true
  ·rw [if_pos h1,if_pos h1,ad8 s _ 46 46 rfl hs]
   simp only [Option.bind_some,FO]
   by_cases h2:sH 46 ((rest s p).drop (kL (rest s p)).2)=true
   ·have h3:=tO h2
    rw [if_pos h2,if_pos h2,if_pos h2]
    have h4:=FQ s hs k (p + (kL (rest s p)).2 + 1) (by rw [pM];omega) aA
    rw [h4,Nat.add_assoc p,FO]
    congr 3
    omega
   ·rw [if_neg h2,if_neg h2,if_neg h2]
  ·rw [if_neg h1,if_neg h1]
def O9 (l:List UInt8):Bool×ByteArray×Nat:=((oX kL 46 l).1,fM.g (dn (l.take (oX kL 46 l).2)),(oX kL 46 l).2)
theorem aea (l:List UInt8):(O9 l).2.2≤l.length:=M4 kL 46 G5 _ l (Nat.lt_succ_self _)
theorem domain_eq (s:ByteArray) (hs:s.size < 4611686018427387904) (k p:Nat) (hk:(rest s p).length + 1 < k) (hp:p≤s.size):
 cP.f k s (p:Int)=some ((O9 (rest s p)).2.1,(O9 (rest s p)).1,s,((p + (O9 (rest s p)).2.2:Nat):Int)):=by
 have hle:=aea (rest s p)
 have hrl:=pM s p
 unfold O9 at hle ⊢
 simp only at hle ⊢
 unfold cP.f bg.f
 rw [FQ s hs k p hk hp]
 simp only [Option.bind_some]
 rw [if_pos aA,if_pos aA,if_pos aA]
 have e:s.extract ((p:Int)).toNat (((p + (oX kL 46 (rest s p)).2:Nat):Int)).toNat=dn ((rest s p).take (oX kL 46 (rest s p)).2):=by
  rw [Int.toNat_natCast,Int.toNat_natCast,rU _ _ _ aA,Nat.add_sub_cancel_left]
 rw [e]
 have hf:fM.f (dn ((rest s p).take (oX kL 46 (rest s p)).2))=some (fM.g (dn ((rest s p).take (oX kL 46 (rest s p)).2))):=by
  unfold fM.f
  rw [if_pos]
  rw [iQ,List.length_take]
  omega
 rw [hf]
 rfl
theorem ltI {b c:UInt8}:((b.toNat:Int) < (c.toNat:Int))↔b < c:=by
 rw [UInt8.lt_iff_toNat_lt]
 omega
theorem aqy {b:UInt8}:((b.toNat:Int) < 32)↔b < 32:=ltI (c:=32)
theorem afp {b:UInt8}:((b.toNat:Int) > 126)↔126 < b:=ltI (b:=126)
theorem Bk (k0:Nat) {xs:List ByteArray} (hf:∀ y,y∈xs→∀ k,k0≤k→∃ r,nj.f y=some r):∀ (k i:Nat),xs.length - i + k0 < k→i≤xs.length→xs.length < 4611686018427387904→∃ r,aM.l0 k xs (xs.length:Int) (i:Int)=some r
 | 0,_,h,_,_ =>absurd h (Nat.not_lt_zero _)
 |k + 1,i,h,hi,hl=>by
  unfold aM.l0
  by_cases hlt:i < xs.length
  ·rw [if_pos aA,if_pos aA,if_pos aA]
   have hrd:oQ ByteArray.empty xs (i:Int)=xs[i]:=by simp [oQ,hlt]
   obtain ⟨r,hr⟩:=hf xs[i] (List.getElem_mem hlt) k aA
   rw [hrd,hr]
   simp only [Option.bind_some]
   split
   ·exact ⟨_,rfl⟩
   ·rw [G3 i aA]
    exact Bk k0 hf k (i + 1) aA aA hl
  ·rw [if_neg aA]
   exact ⟨_,rfl⟩
theorem Gm (k0 k:Nat) {xs:List ByteArray} (hf:∀ y,y∈xs→∀ k,k0≤k→∃ r,nj.f y=some r) (hk:xs.length + k0 < k) (hl:xs.length < 4611686018427387904):∃ r,aM.f k xs=some r:=Bk k0 hf k 0 aA (Nat.zero_le _) hl
theorem FT (x:ByteArray) (c:UInt8) (hx:x.size < 4294967281):strings_Split.f x ⟨#[c]⟩=some ((pieces c x.data.toList).map dn):=by
 unfold strings_Split.f
 rw [show one? ⟨#[c]⟩=some c from rfl]
 simp only [if_pos hx]
theorem Pb (c:UInt8) (x:ByteArray):((pieces c x.data.toList).map dn).length≤x.size + 1:=by
 rw [List.length_map,oV]
 have:=List.count_le_length (a:=c) (l:=x.data.toList)
 rw [jE] at this
 omega
theorem Pc (x:ByteArray) (k:Nat) (hk:x.size + 2 < k):∃ r,gK.f k x=some r:=by
 unfold gK.f
 split
 ·rename_i h
  have hn:=Pb 46 x
  rw [FT x 46 aA]
  simp only [Option.bind_some]
  obtain ⟨r,hr⟩:=Gm 0 k (xs:=(pieces 46 x.data.toList).map dn) (fun y _ _ _ =>⟨_,rfl⟩) aA aA
  unfold bZ.f
  rw [hr]
  exact ⟨_,rfl⟩
 ·exact ⟨_,rfl⟩
def Agree (n:Nat) (l l2:List UInt8):Prop:=l2.take (n + 1)=l.take (n + 1)
theorem Agree.le {n m:Nat} {l l2:List UInt8} (h:Agree n l l2) (hm:m≤n):Agree m l l2:=by
 unfold Agree at h ⊢
 have:=congrArg (List.take (m + 1)) h
 rwa [List.take_take,List.take_take,Nat.min_eq_left aA] at this
theorem Agree.drop {n a:Nat} {l l2:List UInt8} (h:Agree (a + n) l l2):Agree n (l.drop a) (l2.drop a):=by
 unfold Agree at h ⊢
 rw [List.take_drop,List.take_drop,show a + (n + 1)=a + n + 1 from rfl,h]
theorem Agree.take {n m:Nat} {l l2:List UInt8} (h:Agree n l l2) (hm:m≤n + 1):l2.take m=l.take m:=by
 cases m with
 |zero=>simp
 |succ m=>exact h.le aA
def FU (b:UInt8):UInt8:=UInt8.ofNat (Im (b.toNat:Int)).toNat
theorem M5 (l:List UInt8):fM.g (dn l)=dn (l.map FU):=by
 unfold fM.g strOfNums bytesOf dn
 congr 1
 simp only [List.map_map]
 rfl
def ah7 (b:UInt8):Prop:=¬ (b < 32∨126 < b)
instance (b:UInt8):Decidable (ah7 b):=by unfold ah7;infer_instance
def yT (d:List UInt8):Prop:=oX kL 46 d=(true,d.length)∧d.map FU=d
theorem G7 {g:ByteArray→Bool} {xs:List ByteArray} (hf:∀ y,y∈xs→iI.f y=some (g y)):∀ (k i:Nat),xs.length - i < k→i≤xs.length→xs.length < 4611686018427387904→
 ∃ r,aJ.l0 k xs (xs.length:Int) (i:Int)=some r∧decide (r≥0)=(xs.drop i).any g
 | 0,_,h,_,_ =>absurd h (Nat.not_lt_zero _)
 |k + 1,i,h,hi,hl=>by
  unfold aJ.l0
  by_cases hlt:i < xs.length
  ·rw [if_pos aA,if_pos aA,if_pos aA]
   have hrd:oQ ByteArray.empty xs (i:Int)=xs[i]:=by simp [oQ,hlt]
   have hd:xs.drop i=xs[i] :: xs.drop (i + 1):=List.drop_eq_getElem_cons hlt
   rw [hrd,hf xs[i] (List.getElem_mem hlt),hd,List.any_cons]
   simp only [Option.bind_some]
   cases hg:g xs[i] with
   |true=>exact ⟨_,if_pos rfl,dz⟩
   |false=>
    rw [if_neg bC,G3 i aA]
    obtain ⟨r,h1,h2⟩:=G7 hf k (i + 1) aA aA hl
    exact ⟨r,h1,by rw [h2];rfl⟩
  ·rw [if_neg aA,List.drop_of_length_le aA]
   exact ⟨_,rfl,rfl⟩
theorem ah8 {g:ByteArray→Bool} {xs:List ByteArray} (hf:∀ y,y∈xs→iI.f y=some (g y)) (k:Nat) (hk:xs.length < k) (hl:xs.length < 4611686018427387904):bR.f k xs=some (xs.any g):=by
 obtain ⟨r,h1,h2⟩:=G7 hf k 0 aA (Nat.zero_le _) hl
 unfold bR.f aJ.f
 rw [show (0:Int)=((0:Nat):Int) from rfl,h1]
 simp only [Option.bind_some]
 rw [show decide (r≥((0:Nat):Int))=decide (r≥0) from rfl,h2,List.drop_zero]
def En (l:List UInt8):Bool:=(pu 10 255 (dn l)).isNone || decide (3 < l.length)
def yF (l:List UInt8):Int:=if l.length=0 then 0 else if (pieces 58 l).any (fun p=>oW (dn p)) then -1 else ((pieces 58 l).length:Int)
def aeb (l:List UInt8):Bool:=
 if (Lib.cut l [58,58]).2.2=true then (decide (0≤yF (Lib.cut l [58,58]).1) && (decide (0≤yF (Lib.cut l [58,58]).2.1) && decide (yF (Lib.cut l [58,58]).1 + yF (Lib.cut l [58,58]).2.1≤6)))
 else yF (Lib.cut l [58,58]).1 == 8
def YJ (l:List UInt8):Bool:=decide ((pieces 46 l).length=4) && !((pieces 46 l).any En)
def FV (l:List UInt8):Bool:=decide (5 < l.length) && ((l.take 5).map FU == [105,112,118,54,58])
def aec (l:List UInt8):Bool:=if FV l=true then aeb (l.drop 5) else YJ l
theorem G8 (l:List UInt8) (hl:l.length < 4294967281):gB.f (dn l)=some (yF l):=by
 unfold gB.f yF
 rw [if_pos (by exact hl)]
 congr 1
 rw [iQ]
 by_cases h0:l.length=0
 ·rw [if_pos h0,if_pos h0]
 ·rw [if_neg h0,if_neg h0]
  rw [List.any_map]
  rfl
theorem FW (c:UInt8) (l:List UInt8):(pieces c l).length≤l.length + 1:=by
 rw [oV]
 have:=List.count_le_length (a:=c) (l:=l)
 omega
theorem CG (l:List UInt8): -1≤yF l∧yF l≤l.length + 1:=by
 have h:=FW 58 l
 unfold yF
 split
 ·omega
 ·split
  ·omega
  ·omega
theorem aed (l:List UInt8):(Lib.cut l [58,58]).1.length≤l.length∧(Lib.cut l [58,58]).2.1.length≤l.length:=by
 unfold Lib.cut
 split
 ·refine ⟨?_,?_⟩
  ·rw [List.length_take];omega
  ·rw [List.length_drop];omega
 ·exact ⟨Nat.le_refl _,Nat.zero_le _⟩
theorem ah9 (l:List UInt8) (hl:l.length < 4294967281):uA.f (dn l)=some (aeb l):=by
 obtain ⟨h1,h2⟩:=aed l
 have g1:=CG (Lib.cut l [58,58]).1
 have g2:=CG (Lib.cut l [58,58]).2.1
 unfold uA.f strings_Cut.f
 rw [if_pos (by exact hl)]
 simp only [Option.bind_some]
 show ((gB.f (dn (Lib.cut l [58,58]).1)).bind fun t151=>((gB.f (dn (Lib.cut l [58,58]).2.1)).bind fun t152=>_))=some (aeb l)
 rw [G8 _ aA,G8 _ aA]
 simp only [Option.bind_some]
 show (if (Lib.cut l [58,58]).2.2=true then _ else _)=_
 unfold aeb
 by_cases hg:(Lib.cut l [58,58]).2.2=true
 ·rw [if_pos hg,if_pos hg]
  by_cases ha: 0≤yF (Lib.cut l [58,58]).1
  ·rw [if_pos aA,decide_eq_true ha,Bool.true_and]
   by_cases hb: 0≤yF (Lib.cut l [58,58]).2.1
   ·rw [if_pos aA,decide_eq_true hb,Bool.true_and]
    have e:wrap64 (yF (Lib.cut l [58,58]).1 + yF (Lib.cut l [58,58]).2.1)=yF (Lib.cut l [58,58]).1 + yF (Lib.cut l [58,58]).2.1:=by unfold wrap64;omega
    rw [e]
   ·rw [if_neg aA,decide_eq_false hb,Bool.false_and]
  ·rw [if_neg aA,decide_eq_false ha,Bool.false_and]
 ·rw [if_neg hg,if_neg hg]
theorem YK (l:List UInt8) (hl:l.length < 4294967281):iI.f (dn l)=some (En l):=by
 unfold iI.f En
 rw [if_pos rJ]
 rfl
theorem YL (c:UInt8) (l x:List UInt8) (h:x∈pieces c l):x.length≤l.length:=qb c l x h
theorem Pd (l:List UInt8) (hl:l.length < 4294967281) (k:Nat) (hk:l.length + 4 < k):dH.f k (dn l)=some (aec l):=by
 obtain ⟨k,rfl⟩:∃ k',k=k' + 1:=⟨k - 1,aA⟩
 have afq:dH.j0 (k + 1) (dn l) false=some (YJ l):=by
  rw [dH.j0,if_neg bC,FT _ 46 (by rw [iQ];exact hl)]
  simp only [Option.bind_some]
  show (if (((pieces 46 l).map dn).length:Int)=4 then _ else _)=_
  unfold YJ
  have hp:=FW 46 l
  by_cases h4:(pieces 46 l).length=4
  ·rw [if_pos xN,decide_eq_true h4,Bool.true_and]
   have ha:=ah8 (g:=fun y=>En y.data.toList) (xs:=(pieces 46 l).map dn) (fun y hy=>by
    obtain ⟨p,hp,rfl⟩:=List.mem_map.mp hy
    have:=YL 46 l p hp
    exact YK p aA) k xN xN
   show ((bR.f k ((pieces 46 l).map dn)).bind _)=_
   rw [ha]
   simp only [Option.bind_some]
   rw [List.any_map]
   rfl
  ·rw [if_neg xN,decide_eq_false h4,Bool.false_and]
 unfold dH.f aec
 rw [iQ]
 by_cases h5: 5 < l.length
 ·rw [if_pos aA,if_pos bC,if_pos aA]
  have e1:(dn l).extract 0 5=dn (l.take 5):=by
   have:=rU (dn l) 0 5 aA
   exact this
  have hf:fM.f (dn (l.take 5))=some (dn ((l.take 5).map FU)):=by
   unfold fM.f
   rw [if_pos (by rw [iQ,List.length_take];omega),M5]
  rw [e1,hf]
  simp only [Option.bind_some]
  rw [show (dn ((l.take 5).map FU)).toList=(l.take 5).map FU from ByteArray.toList_eq ..]
  have hi:FV l=((l.take 5).map FU == [105,112,118,54,58]):=by unfold FV;rw [decide_eq_true h5,Bool.true_and]
  rw [← hi]
  cases hs:FV l with
  |true=>
   rw [if_pos rfl,dH.j0,if_pos rfl,if_pos rJ]
   have e2:(dn l).extract 5 (dn l).size=dn (l.drop 5):=by
    rw [rU (dn l) 5 (dn l).size rJ,iQ]
    congr 1
    show (l.drop 5).take (l.length - 5)=l.drop 5
    exact List.take_of_length_le xM
   rw [e2,ah9 _ xM]
   rfl
  |false=>
   rw [if_neg bC]
   exact afq
 ·rw [if_neg aA,afq,if_neg (by unfold FV;rw [decide_eq_false h5];simp)]
def qG (x:ByteArray):Bool:=(gK.f (x.size + 3) x).getD false
theorem M6 (x:ByteArray) (k:Nat) (hk:x.size + 2 < k):gK.f k x=some (qG x):=by
 obtain ⟨r,hr⟩:=Pc x (x.size + 3) aA
 have h1:qG x=r:=by unfold qG;rw [hr];rfl
 rw [h1]
 exact Bq (fun k=>gK.mono x k) aA hr
theorem CH {g:ByteArray→Bool} {k0:Nat} {xs:List ByteArray} (hf:∀ y,y∈xs→∀ k,k0≤k→iA.f k y=some (g y)):∀ (k i:Nat),xs.length - i + k0 < k→i≤xs.length→xs.length < 4611686018427387904→
 ∃ r,aN.l0 k xs (xs.length:Int) (i:Int)=some r∧decide (r≥0)=(xs.drop i).any g
 | 0,_,h,_,_ =>absurd h (Nat.not_lt_zero _)
 |k + 1,i,h,hi,hl=>by
  unfold aN.l0
  by_cases hlt:i < xs.length
  ·rw [if_pos aA,if_pos aA,if_pos aA]
   have hrd:oQ ByteArray.empty xs (i:Int)=xs[i]:=by simp [oQ,hlt]
   have hd:xs.drop i=xs[i] :: xs.drop (i + 1):=List.drop_eq_getElem_cons hlt
   rw [hrd,hf xs[i] (List.getElem_mem hlt) k aA,hd,List.any_cons]
   simp only [Option.bind_some]
   cases hg:g xs[i] with
   |true=>exact ⟨_,if_pos rfl,dz⟩
   |false=>
    rw [if_neg bC,G3 i aA]
    obtain ⟨r,h1,h2⟩:=CH hf k (i + 1) aA aA hl
    exact ⟨r,h1,by rw [h2];rfl⟩
  ·rw [if_neg aA,List.drop_of_length_le aA]
   exact ⟨_,rfl,rfl⟩
theorem YM {g:ByteArray→Bool} {k0:Nat} {xs:List ByteArray} (hf:∀ y,y∈xs→∀ k,k0≤k→iA.f k y=some (g y)) (k:Nat) (hk:xs.length + k0 < k) (hl:xs.length < 4611686018427387904):bN.f k xs=some (xs.any g):=by
 obtain ⟨r,h1,h2⟩:=CH hf k 0 aA (Nat.zero_le _) hl
 unfold bN.f aN.f
 rw [show (0:Int)=((0:Nat):Int) from rfl,h1]
 simp only [Option.bind_some]
 rw [show decide (r≥((0:Nat):Int))=decide (r≥0) from rfl,h2,List.drop_zero]
theorem G9 (lo dom:List UInt8) (lit:Bool) (k:Nat) (hk:dom.length + 2 < k):gS.f k (dn lo) (dn dom) lit=some (decide (lo.length≤64) && (lit || qG (dn dom))):=by
 unfold gS.f
 rw [iQ]
 by_cases h:lo.length≤64
 ·rw [if_pos aA,decide_eq_true h,Bool.true_and]
  cases lit with
  |true=>rfl
  |false=>
   rw [if_neg bC,M6 _ k (by rw [iQ];exact hk)]
   rfl
 ·rw [if_neg aA,decide_eq_false h]
  rfl
theorem Ux (l:List UInt8):rest (dn l) 0=l:=rfl
theorem toList_mk (l:List UInt8):(dn l).toList=l:=ByteArray.toList_eq ..
theorem Pe (d:List UInt8) (hl:d.length < 4294967281) (k:Nat) (hk:d.length + 3 < k):iU.f k (dn d)=some (decide (oX kL 46 d=(true,d.length)) && qG (dn d)):=by
 unfold iU.f
 have h1:=domain_eq (dn d) rJ k 0 (by rw [Ux];omega) (Nat.zero_le _)
 rw [Ux] at h1
 rw [show (0:Int)=((0:Nat):Int) from rfl,h1]
 simp only [Option.bind_some,Nat.zero_add]
 have e1:(O9 d).1=(oX kL 46 d).1:=rfl
 have e2:(O9 d).2.2=(oX kL 46 d).2:=rfl
 rw [e1,e2]
 by_cases h2:(oX kL 46 d).1=true
 ·rw [if_pos h2]
  by_cases h3:(oX kL 46 d).2=d.length
  ·rw [if_pos rJ,M6 _ k rJ,decide_eq_true (Prod.ext h2 h3)]
   rfl
  ·rw [if_neg rJ,decide_eq_false (fun e=>h3 (by rw [e]))]
   rfl
 ·rw [if_neg h2,decide_eq_false (fun e=>h2 (by rw [e]))]
  rfl
theorem He (d:List UInt8) (hl:d.length < 4294967281):fM.f (dn d)=some (dn (d.map FU)):=by
 unfold fM.f
 rw [if_pos rJ,M5]
instance (d:List UInt8):Decidable (yT d):=by unfold yT;infer_instance
theorem M7 (d:List UInt8) (hl:d.length < 4294967281) (k:Nat) (hk:d.length + 3 < k):jP.f k (dn d)=some (decide (yT d) && qG (dn d)):=by
 unfold jP.f
 rw [Pe d hl k hk]
 simp only [Option.bind_some]
 by_cases h1:oX kL 46 d=(true,d.length)
 ·rw [decide_eq_true h1,Bool.true_and]
  cases hs:qG (dn d) with
  |true=>
   rw [if_pos rfl,He d hl]
   simp only [Option.bind_some]
   rw [toList_mk,toList_mk,Bool.and_true]
   by_cases h2:d.map FU=d
   ·rw [h2,decide_eq_true ⟨h1,h2⟩]
    simp
   ·rw [decide_eq_false (fun h:yT d=>h2 h.2)]
    simp [h2]
  |false=>
   rw [if_neg bC,Bool.and_false]
 ·rw [decide_eq_false h1,Bool.false_and,if_neg bC,decide_eq_false (fun h:yT d=>h1 h.1)]
  rfl
def Lr (lo dom:List UInt8) (lit:Bool):Bool:=
 decide (lo.length≤64) && (if lit=true then aec dom && decide (dom.map FU=dom) else qG (dn dom) && decide (yT dom))
def M8 (b:UInt8):Bool:=decide (ah7 b)
theorem Hf (lo dom:List UInt8) (lit:Bool) (hlo:lo.length < 4294967281) (hl:dom.length < 4294967281):∀ (k i:Nat),lo.length - i + dom.length + 6 < k→i≤lo.length→
 cU.l0 k (lo.length:Int) (i:Int) (dn lo) (dn dom) lit=some ((lo.drop i).all M8 && Lr lo dom lit)
 | 0,_,h,_ =>absurd h (Nat.not_lt_zero _)
 |k + 1,i,hk,hi=>by
  unfold cU.l0
  by_cases hlt:i < lo.length
  ·have hd:lo.drop i=lo[i] :: lo.drop (i + 1):=List.drop_eq_getElem_cons hlt
   have hb:bt (dn lo) (i:Int)=(lo[i].toNat:Int):=by
    rw [YI lo i hlt,List.getD_eq_getElem?_getD,List.getElem?_eq_getElem hlt]
    rfl
   rw [if_pos aA,if_pos aA,if_pos rJ,hb,hd,List.all_cons]
   by_cases h1:lo[i] < 32
   ·rw [if_pos (aqy.mpr h1)]
    have:M8 lo[i]=false:=decide_eq_false (fun h=>h (.inl h1))
    rw [this]
    rfl
   ·rw [if_neg (fun h=>h1 (aqy.mp h))]
    by_cases h2: 126 < lo[i]
    ·rw [if_pos (afp.mpr h2)]
     have:M8 lo[i]=false:=decide_eq_false (fun h=>h (.inr h2))
     rw [this]
     rfl
    ·rw [if_neg (fun h=>h2 (afp.mp h)),G3 i aA]
     have:M8 lo[i]=true:=decide_eq_true (fun h=>h.elim h1 h2)
     rw [this,Bool.true_and]
     exact Hf lo dom lit hlo hl k (i + 1) aA aA
  ·rw [if_neg aA,List.drop_of_length_le aA,List.all_nil,Bool.true_and]
   unfold Lr
   cases lit with
   |true=>
    rw [if_pos rfl,if_pos rfl,G9 lo dom true k aA]
    simp only [Option.bind_some,Bool.true_or,Bool.and_true]
    by_cases h64:lo.length≤64
    ·rw [decide_eq_true h64,if_pos rfl,Pd dom hl k aA,Bool.true_and]
     simp only [Option.bind_some]
     cases hL:aec dom with
     |true=>
      rw [if_pos rfl,He dom hl]
      simp only [Option.bind_some,Bool.true_and]
      rw [toList_mk,toList_mk]
      by_cases h2:dom.map FU=dom
      ·rw [decide_eq_true h2,h2];simp
      ·rw [decide_eq_false h2];simp [h2]
     |false=>rw [if_neg bC];rfl
    ·rw [decide_eq_false h64,if_neg bC];rfl
   |false=>
    rw [if_neg bC,if_neg bC,G9 lo dom false k aA]
    simp only [Option.bind_some,Bool.false_or]
    by_cases h64:lo.length≤64
    ·rw [decide_eq_true h64,Bool.true_and,Bool.true_and]
     cases hs:qG (dn dom) with
     |true=>
      rw [if_pos rfl,M7 dom hl k aA,hs]
      simp
     |false=>rw [if_neg bC];rfl
    ·rw [decide_eq_false h64,Bool.false_and,if_neg bC];rfl
def boxedB (lo dom:List UInt8) (lit:Bool):Bool:=lo.all M8 && Lr lo dom lit
theorem YN (lo dom:List UInt8) (lit:Bool) (hlo:lo.length < 4294967281) (hl:dom.length < 4294967281) (k:Nat) (hk:lo.length + dom.length + 6 < k):cU.f k (dn lo) (dn dom) lit=some (boxedB lo dom lit):=by
 unfold cU.f boxedB
 rw [iQ]
 have:=Hf lo dom lit hlo hl k 0 aA (Nat.zero_le _)
 rw [List.drop_zero] at this
 exact this
def Cq (a:Bool) (ds:List (List UInt8)) (lo dom:List UInt8) (lit:Bool):Bool:=
 if a=true then decide (ds= []∧lo= []∧dom= []) && !lit
 else if lo= [112,111,115,116,109,97,115,116,101,114]∧dom= []∧lit=false then decide (ds= [])
 else boxedB lo dom lit && (decide (ds.length≤20) && ds.all fun d=>decide (yT d) && qG (dn d))
theorem YO (ds:List (List UInt8)) (M:Nat) (hM:∀ d,d∈ds→d.length≤M) (hl:M < 4294967281) (k:Nat) (hk:ds.length + M + 10 < k) (h20:ds.length≤20):
 bN.f k (ds.map dn)=some (!(ds.all fun d=>decide (yT d) && qG (dn d))):=by
 rw [YM (g:=fun y=>!(decide (yT y.data.toList) && qG y)) (k0:=M + 4) (fun y hy k hk=>by
  obtain ⟨d,hd',rfl⟩:=List.mem_map.mp hy
  have:=hM d hd'
  unfold iA.f
  rw [M7 d aA k aA]
  rfl) k xN xN]
 congr 1
 clear hM hk h20
 induction ds with
 |nil=>rfl
 |cons d ds ih=>
  rw [List.map_cons,List.any_cons,List.all_cons,ih]
  exact (Bool.not_and ..).symm
theorem M9 (ds:List (List UInt8)) (lo dom:List UInt8) (lit:Bool):Cq true ds lo dom lit=(decide (ds= []∧lo= []∧dom= []) && !lit):=rfl
theorem Ls (ds:List (List UInt8)):Cq false ds [112,111,115,116,109,97,115,116,101,114] [] false=decide (ds= []):=rfl
theorem Pf (ds:List (List UInt8)) (lo dom:List UInt8) (lit:Bool) (hp: ¬ (lo= [112,111,115,116,109,97,115,116,101,114]∧dom= []∧lit=false)):
 Cq false ds lo dom lit=(boxedB lo dom lit && (decide (ds.length≤20) && ds.all fun d=>decide (yT d) && qG (dn d))):=by
 unfold Cq
 rw [if_neg bC,if_neg hp]
theorem VL (a:Bool) (ds:List (List UInt8)) (lo dom:List UInt8) (lit:Bool) (M:Nat) (hM:∀ d,d∈ds→d.length≤M) (hlo:lo.length≤M) (hd:dom.length≤M) (hl:M < 4294967281) (k:Nat) (hk: 2 * M + 110 < k):
 ez.f k a (ds.map dn) (dn lo) (dn dom) lit=some (Cq a ds lo dom lit):=by
 cases a with
 |true=>
  unfold ez.f
  rw [toList_mk,toList_mk,List.length_map,M9,if_pos rfl]
  cases ds with
  |nil=>
   rw [if_pos (by rfl)]
   cases lo<;>cases dom<;>cases lit<;>rfl
  |cons d ds=>
   rw [if_neg (by rw [List.length_cons];omega)]
   simp
 |false=>
  by_cases hp:lo= [112,111,115,116,109,97,115,116,101,114]∧dom= []∧lit=false
  ·obtain ⟨rfl,rfl,rfl⟩:=hp
   unfold ez.f
   rw [toList_mk,toList_mk,List.length_map,Ls,if_neg bC,if_pos bC]
   cases ds with
   |nil=>rfl
   |cons d ds=>
    have e:(((d :: ds).length:Int) == 0)=false:=by
     rw [List.length_cons]
     exact beq_eq_false_iff_ne.mpr aA
    rw [e]
    simp
  ·unfold ez.f
   rw [toList_mk,toList_mk,List.length_map,Pf ds lo dom lit hp,if_neg bC,if_neg (by
    intro h
    apply hp
    simp only [Bool.and_eq_true,beq_iff_eq,Bool.not_eq_true'] at h
    exact h),YN lo dom lit aA aA k aA]
   simp only [Option.bind_some]
   cases hb:boxedB lo dom lit with
   |false=>
    rw [Bool.false_and]
    exact if_neg bC
   |true=>
    rw [if_pos rfl,Bool.true_and]
    by_cases h20:ds.length≤20
    ·rw [if_pos aA,YO ds M hM hl k aA h20,decide_eq_true h20,Bool.true_and]
     simp
    ·rw [if_neg aA,decide_eq_false h20,Bool.false_and]
end Go.Proofs.YtbjjaaodfbjkfaaGreatDoor.YH
namespace Go.Proofs.YtbjjaaodfbjkfaaGreatDoor.xG
open Go.RowKit Go.Proofs.YtbjjaaodfbjkfaaGreatDoor.ow Go.Proofs.ak.bY Go.Proofs.ak.dU Go.Proofs.ak.dJ
set_option linter.unusedVariables false
set_option linter.unusedSimpArgs false
def rz:Nat:=1048576
structure Lt (p:Pt):Prop where
 many:p.f1.length≤rz
 route:∀ d∈p.f1,d.size≤rz
 lo:p.f2.f0.size≤rz
 dom:p.f2.f1.size≤rz
structure ot (m:Ml):Prop where
 frm:Lt m.f1
 nto:m.f2.length≤rz
 body:m.f3.length≤rz
 rcs:∀ r∈m.f2,r.f0.f0.size≤rz∧r.f0.f1.size≤rz
def ro (p:Pt):Bool:=YH.Cq p.f0 (p.f1.map fun d=>d.data.toList) p.f2.f0.data.toList p.f2.f1.data.toList p.f2.f2
def K0:Nat:=2097264
theorem mk_data (s:ByteArray):dn s.data.toList=s:=by
 obtain ⟨⟨l⟩⟩:=s
 rfl
theorem FX (s:ByteArray):s.data.toList.length=s.size:=by
 obtain ⟨⟨l⟩⟩:=s
 rfl
theorem Na {p:Pt} (h:Lt p):yu ro K0 p:=by
 intro k hk
 have e1:(p.f1.map fun d=>d.data.toList).map dn=p.f1:=by
  rw [List.map_map]
  conv=>rhs;rw [← List.map_id p.f1]
  exact List.map_congr_left fun d _ =>mk_data d
 have:=YH.VL p.f0 (p.f1.map fun d=>d.data.toList) p.f2.f0.data.toList p.f2.f1.data.toList p.f2.f2 rz (fun d hd=>by
  obtain ⟨x,hx,rfl⟩:=List.mem_map.mp hd
  rw [FX];exact h.route x hx) (by rw [FX];exact h.lo) (by rw [FX];exact h.dom) bC k (by unfold K0 at hk;unfold rz;omega)
 rw [e1,mk_data,mk_data] at this
 exact this
theorem VM {b:Bx} (h0:b.f0.size≤rz) (h1:b.f1.size≤rz):Lt ⟨false,[],b⟩:=⟨Nat.zero_le _,fun d hd=>(by cases hd),h0,h1⟩
theorem aee {m:Ml} (h:ot m):Lq ro K0 m:=⟨Na h.frm,fun r hr=>Na (VM (h.rcs r hr).1 (h.rcs r hr).2)⟩
structure aqz (m:Ml):Prop where
 id0: 1≤m.f0
 id1:m.f0 < 1099511627776
 route:m.f1.f1= []
 body:m.f3.length≤524288
 to0: 1≤m.f2.length
 to1:m.f2.length≤100
 rcs:∀ r∈m.f2,uJ ro r=true
theorem qo {m:Ml} (h:tN ro m=true):aqz m:=by
 unfold tN at h
 simp only [Bool.and_eq_true,decide_eq_true_eq] at h
 obtain ⟨h1,h2,h3,h4,h5,h6,h7,h8,h9,h10⟩:=h
 exact ⟨h1,h2,List.eq_nil_of_length_eq_zero h4,h7,h8,h9,fun r hr=>List.all_eq_true.mp h10 r hr⟩
theorem Pg {m:Ml} (h:tN ro m=true):tu m:=by
 have g:=qo h
 have:=g.body
 have:=g.to1
 unfold tu
 rw [g.route]
 simp only [List.length_nil]
 omega
theorem Nb {m:Ml} (h:jU m=true):tu m:=by
 unfold jU at h
 simp only [Bool.and_eq_true,decide_eq_true_eq] at h
 obtain ⟨h1,h2,h3,h4,h5,h6⟩:=h
 unfold tu
 omega
structure aqB (r:Rc):Prop where
 st0:r.f1≤2
 tr0: 0≤r.f2
 tr1:r.f2≤1099511627776
 du0: 0≤r.f3
 du1:r.f3≤1099511627776
theorem Cr {n:Int}:tM n=true↔0≤n∧n≤1099511627776:=by simp [tM]
theorem afr {r:Rc} (h:uJ ro r=true):aqB r:=by
 unfold uJ at h
 simp only [Bool.and_eq_true,decide_eq_true_eq,Cr] at h
 exact ⟨h.2.1,h.2.2.1.1,h.2.2.1.2,h.2.2.2.1,h.2.2.2.2⟩
structure Inv (n:Int) (ms:List Ml):Prop where
 len:ms.length≤1000
 good:∀ m∈ms,tN ro m=true
 small:∀ m∈ms,ot m
 ids:(ms.map fun m=>m.f0).Pairwise (·< ·)
 below:∀ m∈ms,m.f0 < n
 n1: 1≤n
 top:n≤1099511627776
theorem VN:Inv 1 []:=⟨bC,fun m h=>(by cases h),fun m h=>(by cases h),List.Pairwise.nil,fun m h=>(by cases h),bC,bC⟩
theorem xI (id:Int):∀ (l:List Ml) (k:Nat),(mK id l k= -1∧∀ m∈l,m.f0≠id)∨∃ i x,mK id l k=((k + i:Nat):Int)∧l[i]? =some x∧x.f0=id
 | [],k=> .inl ⟨rfl,fun m h=>by cases h⟩
 |x :: l,k=>by
  unfold mK
  by_cases h:x.f0=id
  ·rw [if_pos h]
   exact .inr ⟨0,x,rfl,rfl,h⟩
  ·rw [if_neg h]
   rcases xI id l (k + 1) with ⟨h1,h2⟩|⟨i,y,h1,h2,h3⟩
   ·exact .inl ⟨h1,fun m hm=>by rcases List.mem_cons.1 hm with rfl|hm;exact h;exact h2 m hm⟩
   ·exact .inr ⟨i + 1,y,Dh,h2,h3⟩
theorem FY (m x:Ml) (n:Int) (hS:ot m):dV.f m.f0 m.f1.f0 m.f1.f1 m.f1.f2.f0 m.f1.f2.f1 m.f1.f2.f2 m.f2 m.f3 m.f4 x.f0 x.f1.f0 x.f1.f1 x.f1.f2.f0 x.f1.f2.f1 x.f1.f2.f2 x.f2 x.f3 x.f4 n=
 some (!jU m && (decide (n≤m.f0) && (m.f1.f0 && (decide (m.f2.length=1) && (((bn m.f2 0).f0.f0.toList == x.f1.f2.f0.toList && ((bn m.f2 0).f0.f1.toList == x.f1.f2.f1.toList && (bn m.f2 0).f0.f2 == x.f1.f2.f2)) && ((bn m.f2 0).f1 == 0 && (bn m.f2 0).f2 == 0)))))):=by
 unfold dV.f
 rw [zo m Il Ik]
 simp only [Option.bind_some]
 cases jU m with
 |true=>rfl
 |false=>
  rw [if_neg bC,Bool.not_false,Bool.true_and]
  by_cases h1:n≤m.f0
  ·rw [if_pos (show m.f0≥n from h1),decide_eq_true h1,Bool.true_and]
   cases m.f1.f0 with
   |false=>rfl
   |true=>
    rw [if_pos rfl,Bool.true_and]
    by_cases h2:m.f2.length=1
    ·rw [if_pos aA,if_pos aA,decide_eq_true h2,Bool.true_and]
    ·rw [if_neg aA,decide_eq_false h2];rfl
  ·rw [if_neg (show ¬ m.f0≥n from h1),decide_eq_false h1];rfl
theorem Nc (m x:Ml) (n:Int) (hS:ot m):∃ b,dV.f m.f0 m.f1.f0 m.f1.f1 m.f1.f2.f0 m.f1.f2.f1 m.f1.f2.f2 m.f2 m.f3 m.f4 x.f0 x.f1.f0 x.f1.f1 x.f1.f2.f0 x.f1.f2.f1 x.f1.f2.f2 x.f2 x.f3 x.f4 n=some b:=⟨_,FY m x n hS⟩
def Bl (m x:Ml) (n:Int):Bool:=(dV.f m.f0 m.f1.f0 m.f1.f1 m.f1.f2.f0 m.f1.f2.f1 m.f1.f2.f2 m.f2 m.f3 m.f4 x.f0 x.f1.f0 x.f1.f1 x.f1.f2.f0 x.f1.f2.f1 x.f1.f2.f2 x.f2 x.f3 x.f4 n).getD false
theorem VO {m x:Ml} {n:Int} (hS:ot m) (hb:Bl m x n=true):jU m=false∧n≤m.f0:=by
 unfold Bl at hb
 rw [FY m x n hS] at hb
 simp only [Option.getD_some,Bool.and_eq_true,decide_eq_true_eq,Bool.not_eq_true'] at hb
 exact ⟨hb.1,hb.2.1⟩
def put (ms:List Ml) (i:Nat) (x:Ml) (a:Nat) (r:Rc):List Ml:=ms.set i ⟨x.f0,x.f1,x.f2.set a r,x.f3,x.f4⟩
inductive Fits (n:Int) (ms:List Ml) (kind id at_ due:Int) (m:Ml):Bool→Int→List Ml→Prop
 |add (hk:kind=1) (hn:n≤m.f0) (hl:ms.length < 1000):Fits n ms kind id at_ due m true (m.f0 + 1) (ms ++ [m])
 |next (hk:kind=6) (hn:n < id):Fits n ms kind id at_ due m true id ms
 |gone (hk:kind=5) (i:Nat) (x:Ml) (hx:ms[i]? =some x) (hi:x.f0=id) (hs:hasB x.f2 0=false) (ho:(hasB x.f2 2 && !x.f1.f0)=false):Fits n ms kind id at_ due m true n (ms.eraseIdx i)
 |owes (hk:kind=5) (i:Nat) (x:Ml) (hx:ms[i]? =some x) (hi:x.f0=id) (hs:hasB x.f2 0=false) (ho:(hasB x.f2 2 && !x.f1.f0)=true) (hb:Bl m x n=true):Fits n ms kind id at_ due m true (m.f0 + 1) (ms.eraseIdx i ++ [m])
 |step (hk:kind=2∨kind=3∨kind=4) (i:Nat) (x:Ml) (hx:ms[i]? =some x) (hi:x.f0=id) (a:Nat) (r:Rc) (ha:at_=a) (hr:x.f2[a]? =some r) (h0:r.f1=0) (ht:kind=2→r.f2 + 1≤1099511627776):
   Fits n ms kind id at_ due m true n (put ms i x a (if kind=2 then ⟨r.f0,r.f1,r.f2 + 1,due⟩ else if kind=3 then ⟨r.f0,1,r.f2,r.f3⟩ else ⟨r.f0,2,r.f2,r.f3⟩))
 |no (n':Int) (ms':List Ml):Fits n ms kind id at_ due m false n' ms'
theorem Lu {n:Int} (h0: 0≤n) (h1:n≤1099511627776):wrap64 (n + 1)=n + 1:=by unfold wrap64;omega
theorem Hg {kind id at_ due:Int} {m:Ml} (h:rT ro kind id at_ due m=true):
 (0≤id∧id≤1099511627776)∧(0≤at_∧at_≤1099511627776)∧(0≤due∧due≤1099511627776)∧(kind=1∧tN ro m=true∨kind=5∧(jU m=true∨tN ro m=true)∨(kind=2∨kind=3∨kind=4∨kind=6)∧jU m=true):=by
 unfold rT at h
 rw [Bool.and_eq_true] at h
 obtain ⟨ht,h⟩:=h
 simp only [List.all_cons,List.all_nil,Bool.and_true,Bool.and_eq_true,Cr] at ht
 refine ⟨ht.1,ht.2.1,ht.2.2,?_⟩
 by_cases k1:kind=1
 ·rw [if_pos k1,Bool.and_eq_true] at h
  exact .inl ⟨k1,h.2⟩
 ·rw [if_neg k1] at h
  by_cases k5:kind=5
  ·rw [if_pos k5,Bool.and_eq_true,Bool.or_eq_true] at h
   exact .inr (.inl ⟨k5,h.2⟩)
  ·rw [if_neg k5] at h
   refine .inr (.inr ?_)
   by_cases k2:kind=2
   ·rw [if_pos k2] at h
    exact ⟨.inl k2,h⟩
   ·rw [if_neg k2] at h
    by_cases k3:kind=3∨kind=4
    ·rw [if_pos k3,Bool.and_eq_true] at h
     exact ⟨aA,h.2⟩
    ·rw [if_neg k3] at h
     by_cases k6:kind=6
     ·rw [if_pos k6,Bool.and_eq_true] at h
      exact ⟨aA,h.2⟩
     ·rw [if_neg k6] at h
      cases h
theorem Ph {m:Ml} (h:jU m=true):m.f0=0:=by
 unfold jU at h
 simp only [Bool.and_eq_true,decide_eq_true_eq] at h
 exact h.1
theorem fits_eq {n:Int} {ms:List Ml} (hI:Inv n ms) {kind id at_ due:Int} {m:Ml} (hS:ot m) (hc:rT ro kind id at_ due m=true):
 ∃ b n' ms',pG.f n ms kind id at_ due m=some (b,n',ms')∧Fits n ms kind id at_ due m b n' ms':=by
 obtain ⟨⟨i0,i1⟩,⟨a0,a1⟩,⟨d0,d1⟩,hk⟩:=Hg hc
 have hlen:=hI.len
 have hown:tu m:=by
  rcases hk with ⟨_,h⟩|⟨_,h|h⟩|⟨_,h⟩
  ·exact Pg h
  ·exact Nb h
  ·exact Pg h
  ·exact Nb h
 unfold pG.f
 rcases hk with ⟨k1,hm⟩|⟨k5,hm⟩|⟨kk,hm⟩
 ·have g:=qo hm
  rw [if_pos k1]
  unfold Kv
  rw [if_pos ⟨hown,aA⟩,Lu (by have:=g.id0;omega) (by have:=g.id1;omega)]
  refine ⟨_,_,_,rfl,?_⟩
  by_cases h1:n≤m.f0
  ·by_cases h2:ms.length < 1000
   ·rw [decide_eq_true h1,decide_eq_true h2]
    exact .add k1 h1 h2
   ·rw [decide_eq_false h2,Bool.and_false]
    exact .no _ _
  ·rw [decide_eq_false h1,Bool.false_and]
   exact .no _ _
 ·rw [if_neg aA,if_neg aA]
  rcases xI id ms 0 with ⟨h1,h2⟩|⟨i,x,h1,h2,h3⟩
  ·rw [h1,if_pos aA]
   exact ⟨_,_,_,rfl,.no _ _⟩
  ·rw [h1,if_neg aA,Nat.zero_add,Int.toNat_natCast,h2]
   simp only
   rw [if_pos k5]
   unfold BX
   have hid:m.f0=0∨1≤m.f0∧m.f0 < 1099511627776:=by
    rcases hm with h|h
    ·exact .inl (Ph h)
    ·exact .inr ⟨(qo h).id0,(qo h).id1⟩
   rw [if_pos ⟨hown,aA⟩,zo m Il Ik,Lu aA aA]
   simp only [Option.bind_some]
   cases hs:hasB x.f2 0 with
   |true=>
    rw [if_pos rfl]
    exact ⟨_,_,_,rfl,.no _ _⟩
   |false=>
    rw [if_neg bC]
    obtain ⟨b,hb⟩:=Nc m x n hS
    rw [hb]
    simp only [Option.bind_some]
    refine ⟨_,_,_,rfl,?_⟩
    have hbV:Bl m x n=b:=by unfold Bl;rw [hb];rfl
    cases ho:(hasB x.f2 2 && !x.f1.f0) with
    |true=>
     rw [if_pos rfl,if_pos rfl]
     cases b with
     |true=>exact .owes k5 i x h2 h3 hs ho hbV
     |false=>exact .no _ _
    |false=>
     rw [if_neg bC,if_neg bC]
     cases b with
     |true=>exact .no _ _
     |false=>
      cases hz:jU m with
      |true=>exact .gone k5 i x h2 h3 hs ho
      |false=>exact .no _ _
 ·by_cases k6:kind=6
  ·rw [if_neg aA,if_pos k6]
   refine ⟨_,_,_,rfl,?_⟩
   by_cases h1:n < id
   ·rw [decide_eq_true h1]
    exact .next k6 h1
   ·rw [decide_eq_false h1]
    exact .no _ _
  ·rw [if_neg aA,if_neg k6]
   rcases xI id ms 0 with ⟨h1,h2⟩|⟨i,x,h1,h2,h3⟩
   ·rw [h1,if_pos aA]
    exact ⟨_,_,_,rfl,.no _ _⟩
   ·rw [h1,if_neg aA,Nat.zero_add,Int.toNat_natCast,h2]
    simp only
    rw [if_neg aA,if_pos aA]
    unfold OT
    by_cases ha:(x.f2.length:Int)≤at_
    ·rw [if_pos ha]
     exact ⟨_,_,_,rfl,.no _ _⟩
    ·obtain ⟨a,rfl⟩:∃ a:Nat,at_=a:=⟨at_.toNat,aA⟩
     have hal:a < x.f2.length:=by omega
     rw [if_neg ha,if_neg aA,Int.toNat_natCast,List.getElem?_eq_getElem hal]
     simp only
     by_cases h0:x.f2[a].f1=0
     ·rw [if_pos h0]
      refine ⟨_,_,_,rfl,?_⟩
      have gr:=afr ((qo (hI.good x (List.mem_of_getElem? h2))).rcs _ (List.getElem_mem hal))
      have hw:=Lu gr.tr0 gr.tr1
      have hst:=fun (ht:kind=2→x.f2[a].f2 + 1≤1099511627776)=>Fits.step (n:=n) (ms:=ms) (kind:=kind) (id:=id) (at_ :=(a:Int)) (due:=due) (m:=m) aA i x h2 h3 a x.f2[a] rfl (List.getElem?_eq_getElem hal) h0 ht
      unfold put at hst
      unfold OS BV
      rw [hw]
      by_cases k2:kind=2
      ·rw [if_pos k2,if_pos k2]
       rw [if_pos k2] at hst
       by_cases ht:x.f2[a].f2 + 1≤1099511627776
       ·rw [decide_eq_true ht]
        exact hst fun _ =>ht
       ·rw [decide_eq_false ht]
        exact .no _ _
      ·rw [if_neg k2,if_neg k2]
       rw [if_neg k2] at hst
       exact hst fun e=>absurd e k2
     ·rw [if_neg h0]
      exact ⟨_,_,_,rfl,.no _ _⟩
theorem aef {ms:List Ml} {i:Nat} {x:Ml} (hx:ms[i]? =some x) (a:Nat) (r:Rc):(put ms i x a r).map (fun m=>m.f0)=ms.map fun m=>m.f0:=by
 unfold put
 rw [List.map_set]
 apply List.ext_getElem?
 intro j
 rw [List.getElem?_set]
 by_cases h:i=j
 ·subst h
  have hl:i < ms.length:=by
   by_cases hl:i < ms.length
   ·exact hl
   ·rw [List.getElem?_eq_none aA] at hx;cases hx
  rw [if_pos rfl,if_pos (by rw [List.length_map];exact hl),List.getElem?_map,hx]
  rfl
 ·rw [if_neg h]
theorem Lv {ms:List Ml} {i:Nat} {x:Ml} {a:Nat} {r:Rc} {y:Ml} (hy:y∈put ms i x a r):y∈ms∨y=⟨x.f0,x.f1,x.f2.set a r,x.f3,x.f4⟩:=List.mem_or_eq_of_mem_set hy
theorem VP {x:Ml} (h:tN ro x=true) (a:Nat) (r:Rc) (hr:uJ ro r=true):tN ro ⟨x.f0,x.f1,x.f2.set a r,x.f3,x.f4⟩=true:=by
 unfold tN at h ⊢
 simp only [Bool.and_eq_true,List.length_set,List.all_eq_true] at h ⊢
 obtain ⟨h1,h2,h3,h4,h5,h6,h7,h8,h9,h10⟩:=h
 exact ⟨h1,h2,h3,h4,h5,h6,h7,h8,h9,fun y hy=>by
  rcases List.mem_or_eq_of_mem_set hy with h|rfl
  ·exact h10 y h
  ·exact hr⟩
theorem VQ {x:Ml} (h:ot x) (a:Nat) (r:Rc) (h0:r.f0.f0.size≤rz) (h1:r.f0.f1.size≤rz):ot ⟨x.f0,x.f1,x.f2.set a r,x.f3,x.f4⟩:=
 ⟨h.frm,by rw [List.length_set];exact h.nto,h.body,fun y hy=>by
   rcases List.mem_or_eq_of_mem_set hy with h'|rfl
   ·exact h.rcs y h'
   ·exact ⟨h0,h1⟩⟩
theorem Gn {l:List Int} {y:Int} (h:l.Pairwise (·< ·)) (hy:∀ x∈l,x < y):(l ++ [y]).Pairwise (·< ·):=by
 rw [List.pairwise_append]
 exact ⟨h,List.pairwise_singleton _ _,fun a ha b hb=>by obtain rfl:=List.mem_singleton.1 hb;exact hy a ha⟩
theorem Uy {n:Int} {ms:List Ml} (hI:Inv n ms) {m:Ml} (hS:ot m) (hm:tN ro m=true) (hn:n≤m.f0) (hl:ms.length < 1000):Inv (m.f0 + 1) (ms ++ [m]):=by
 have g:=qo hm
 have h0:=g.id0
 have h1:=g.id1
 refine ⟨Dg,fun y hy=>?_,fun y hy=>?_,?_,fun y hy=>?_,aA,aA⟩
 ·rcases List.mem_append.1 hy with h|h
  ·exact hI.good y h
  ·obtain rfl:=List.mem_singleton.1 h;exact hm
 ·rcases List.mem_append.1 hy with h|h
  ·exact hI.small y h
  ·obtain rfl:=List.mem_singleton.1 h;exact hS
 ·rw [List.map_append]
  exact Gn hI.ids fun x hx=>by
   obtain ⟨y,hy,rfl⟩:=List.mem_map.1 hx
   have:=hI.below y hy
   show y.f0 < m.f0
   omega
 ·rcases List.mem_append.1 hy with h|h
  ·have:=hI.below y h;omega
  ·obtain rfl:=List.mem_singleton.1 h;omega
theorem Hh {n:Int} {ms:List Ml} (hI:Inv n ms) (i:Nat):Inv n (ms.eraseIdx i):=by
 have hs:=List.eraseIdx_sublist ms i
 exact ⟨Nat.le_trans hs.length_le hI.len,fun y hy=>hI.good y (hs.subset hy),fun y hy=>hI.small y (hs.subset hy),hI.ids.sublist (hs.map _),fun y hy=>hI.below y (hs.subset hy),hI.n1,hI.top⟩
theorem YP {n:Int} {ms:List Ml} (hI:Inv n ms) {kind id at_ due:Int} {m:Ml} (hS:ot m) (hc:rT ro kind id at_ due m=true) {n':Int} {ms':List Ml} (hF:Fits n ms kind id at_ due m true n' ms'):Inv n' ms':=by
 obtain ⟨⟨i0,i1⟩,⟨a0,a1⟩,⟨d0,d1⟩,hk⟩:=Hg hc
 cases hF with
 |add hk1 hn hl=>exact Uy hI hS (by rcases hk with ⟨_,h⟩|⟨k,_⟩|⟨k,_⟩;exact h;omega;omega) hn hl
 |next hk6 hn=>exact ⟨hI.len,hI.good,hI.small,hI.ids,fun y hy=>by have:=hI.below y hy;omega,by have:=hI.n1;omega,i1⟩
 |gone _ i x hx hi hs ho=>exact Hh hI i
 |owes hk5 i x hx hi hs ho hb=>
  obtain ⟨h1,h2⟩:=VO hS hb
  have hil:i < ms.length:=by
   by_cases hl:i < ms.length
   ·exact hl
   ·rw [List.getElem?_eq_none aA] at hx;cases hx
  have hlen:=hI.len
  refine Uy (Hh hI i) hS ?_ h2 (by rw [List.length_eraseIdx];rw [if_pos hil];omega)
  rcases hk with ⟨k,_⟩|⟨_,h|h⟩|⟨k,_⟩
  ·omega
  ·rw [h] at h1;cases h1
  ·exact h
  ·omega
 |step hkk i x hx hi a r ha hr h0 ht=>
  have hxm:=List.mem_of_getElem? hx
  have hrm:=List.mem_of_getElem? hr
  have hrg:=(qo (hI.good x hxm)).rcs r hrm
  have hrs:=(hI.small x hxm).rcs r hrm
  have gr:=afr hrg
  generalize hr':(if kind=2 then (⟨r.f0,r.f1,r.f2 + 1,due⟩:Rc) else if kind=3 then ⟨r.f0,1,r.f2,r.f3⟩ else ⟨r.f0,2,r.f2,r.f3⟩)=r'
  have hb:r'.f0=r.f0:=by
   rw [← hr']
   split
   ·rfl
   ·split<;>rfl
  have hg:uJ ro r'=true:=by
   unfold uJ at hrg ⊢
   rw [hb]
   simp only [Bool.and_eq_true,decide_eq_true_eq,Cr] at hrg ⊢
   refine ⟨hrg.1,?_⟩
   have:=gr.tr0;have:=gr.tr1;have:=gr.du0;have:=gr.du1
   rw [← hr']
   split
   ·rename_i k2
    have:=ht k2
    exact ⟨by show r.f1≤2;omega,⟨by show 0≤r.f2 + 1;omega,by show r.f2 + 1≤_;omega⟩,⟨d0,d1⟩⟩
   ·split
    ·exact ⟨by show (1:Int)≤2;omega,⟨nV,nV⟩,⟨nV,nV⟩⟩
    ·exact ⟨by show (2:Int)≤2;omega,⟨nV,nV⟩,⟨nV,nV⟩⟩
  refine ⟨by unfold put;rw [List.length_set];exact hI.len,fun y hy=>?_,fun y hy=>?_,by rw [aef hx];exact hI.ids,fun y hy=>?_,hI.n1,hI.top⟩
  ·rcases Lv hy with h|rfl
   ·exact hI.good y h
   ·exact VP (hI.good x hxm) a r' hg
  ·rcases Lv hy with h|rfl
   ·exact hI.small y h
   ·exact VQ (hI.small x hxm) a r' (by rw [hb];exact hrs.1) (by rw [hb];exact hrs.2)
  ·rcases Lv hy with h|rfl
   ·exact hI.below y h
   ·exact hI.below x hxm
theorem Nf {n:Int} {ms:List Ml} (hI:Inv n ms) (kind id at_ due:Int) {m:Ml} (hS:ot m):
 ∃ n' ms' e,(∀ k,K0 + 1200≤k→cz.f k n ms kind id at_ due m.f0 m.f1.f0 m.f1.f1 m.f1.f2.f0 m.f1.f2.f1 m.f1.f2.f2 m.f2 m.f3 m.f4=some (n',ms',e))∧Inv n' ms'∧
   (e=220∧n'=n∧ms'=ms∨e=0∧rT ro kind id at_ due m=true∧Fits n ms kind id at_ due m true n' ms'):=by
 have hlen:=hI.len
 have hcp:∀ k,K0 + 1200≤k→cF.f k n ms=some (n,ms):=fun k hk=>copied_eq ms aA (fun m hm=>Pg (hI.good m hm)) n k (Nat.lt_of_le_of_lt hlen (by unfold K0 at hk;omega))
 have hce:∀ k,K0 + 1200≤k→cW.f k kind id at_ due m.f0 m.f1.f0 m.f1.f1 m.f1.f2.f0 m.f1.f2.f1 m.f1.f2.f2 m.f2 m.f3 m.f4=some (rT ro kind id at_ due m):=fun k hk=>
  change_eq (aee hS) Il Ik kind id at_ due k (Nat.le_trans (Nat.add_le_add_left (bC: 112≤1200) K0) hk)
 have hm:(⟨m.f0,⟨m.f1.f0,m.f1.f1,⟨m.f1.f2.f0,m.f1.f2.f1,m.f1.f2.f2⟩⟩,m.f2,m.f3,m.f4⟩:Ml)=m:=rfl
 cases hc:rT ro kind id at_ due m with
 |false=>
  refine ⟨n,ms,220,fun k hk=>?_,hI,.inl ⟨rfl,rfl,rfl⟩⟩
  unfold cz.f
  rw [hcp k hk,hce k hk,hc]
  rfl
 |true=>
  obtain ⟨b,n',ms',hf,hF⟩:=fits_eq hI hS hc
  have hA:∀ k,K0 + 1200≤k→cz.f k n ms kind id at_ due m.f0 m.f1.f0 m.f1.f1 m.f1.f2.f0 m.f1.f2.f1 m.f1.f2.f2 m.f2 m.f3 m.f4=some (cz.end n ms (b,n',ms')):=fun k hk=>by
   unfold cz.f
   rw [hcp k hk,hce k hk,hc]
   simp only [Option.bind_some,if_true]
   rw [hm,hf]
   rfl
  cases b with
  |true=>exact ⟨n',ms',0,hA,YP hI hS hc hF,.inr ⟨rfl,rfl,hF⟩⟩
  |false=>exact ⟨n,ms,220,hA,hI,.inl ⟨rfl,rfl,rfl⟩⟩
end Go.Proofs.YtbjjaaodfbjkfaaGreatDoor.xG
namespace Go.Proofs.YtbjjaaodfbjkfaaGreatDoor.xG
open Go.RowKit Go.Proofs.YtbjjaaodfbjkfaaGreatDoor.ow Go.Proofs.ak.bY Go.Proofs.ak.dU Go.Proofs.ak.dJ
set_option linter.unusedVariables false
set_option linter.unusedSimpArgs false
abbrev Sp:=sO
def zx (id now:Int):List Rc→Nat→List Sp
 | [],_ =>[]
 |r :: l,k=>if r.f1=0∧r.f3≤now then ⟨id,(k:Int)⟩ :: zx id now l (k + 1) else zx id now l (k + 1)
def oO (now:Int):List Ml→List Sp
 | []=>[]
 |m :: ms=>zx m.f0 now m.f2 0 ++ oO now ms
def wS:List Ml→List Int
 | []=>[]
 |m :: ms=>if hasB m.f2 0=false then m.f0 :: wS ms else wS ms
theorem Eo (id now:Int):∀ (l:List Rc) (k:Nat),(zx id now l k).length≤l.length
 | [],_ =>Nat.le_refl _
 |r :: l,k=>by
  unfold zx
  have:=Eo id now l (k + 1)
  split
  ·simp only [List.length_cons];omega
  ·simp only [List.length_cons];omega
theorem FZ (now:Int):∀ (ms:List Ml),(∀ m∈ms,m.f2.length≤100)→(oO now ms).length≤100 * ms.length
 | [],_ =>Nat.le_refl _
 |m :: ms,h=>by
  unfold oO
  have h1:=Eo m.f0 now m.f2 0
  have h2:=h m (List.mem_cons_self ..)
  have h3:=FZ now ms fun y hy=>h y (List.mem_cons_of_mem _ hy)
  rw [List.length_append,List.length_cons]
  omega
theorem Hi:∀ ms:List Ml,(wS ms).length≤ms.length
 | []=>Nat.le_refl _
 |m :: ms=>by
  unfold wS
  have:=Hi ms
  split
  ·simp only [List.length_cons];omega
  ·simp only [List.length_cons];omega
theorem YQ {ms:List Ml} {i:Nat} (h:i < ms.length):aj ms (i:Int)=ms[i]:=by
 unfold aj;simp [List.getD_eq_getElem?_getD,List.getElem?_eq_getElem h]
theorem afs {l:List Rc} {i:Nat} (h:i < l.length):bn l (i:Int)=l[i]:=by
 unfold bn;simp [List.getD_eq_getElem?_getD,List.getElem?_eq_getElem h]
theorem aqD {l:List Sp} {i:Nat} (h:i < l.length):cT l (i:Int)=l[i]:=by
 unfold cT;simp [List.getD_eq_getElem?_getD,List.getElem?_eq_getElem h]
theorem Zd {n:Nat} (h:n < 4611686018427387904):wrap64 ((n:Int) + 1)=((n + 1:Nat):Int):=by unfold wrap64;omega
theorem aia (now:Int) (ms:List Ml) (L i:Int) (x:Ml) (hx:x.f2.length≤100):∀ (d k j:Nat) (acc:List Sp),j + d=x.f2.length→acc.length + d≤200000→
 cI.l1 (k + d + 1) now acc ms L i x.f2 (x.f2.length:Int) (j:Int) x.f0 x.f1.f0 x.f1.f1 x.f1.f2.f0 x.f1.f2.f1 x.f1.f2.f2 x.f2 x.f3 x.f4=cI.l0 k now (acc ++ zx x.f0 now (x.f2.drop j) j) ms L (wrap64 (i + 1)):=by
 intro d
 induction d with
 |zero=>
  intro k j acc hj _
  rw [cI.l1]
  rw [if_neg aA,List.drop_of_length_le aA]
  simp only [zx,List.append_nil]
 |succ d ih=>
  intro k j acc hj hacc
  have hlt:j < x.f2.length:=by omega
  rw [show k + (d + 1) + 1=(k + d + 1) + 1 by omega,cI.l1]
  rw [if_pos aA,if_pos aA,if_pos aA,afs hlt,Zd aA,List.drop_eq_getElem_cons hlt]
  have hn:=ih k (j + 1) acc aA aA
  by_cases h1:x.f2[j].f1=0
  ·rw [if_pos h1]
   by_cases h2:x.f2[j].f3≤now
   ·rw [if_pos h2,if_pos aA,ih k (j + 1) _ aA Dg,List.append_assoc]
    congr 2
    rw [zx,if_pos ⟨h1,h2⟩]
    rfl
   ·rw [if_neg h2,hn,zx,if_neg (fun h=>h2 h.2)]
  ·rw [if_neg h1,hn,zx,if_neg (fun h=>h1 h.1)]
theorem aeg (now:Int) (ms:List Ml) (hm:ms.length≤1000) (aib:∀ m∈ms,m.f2.length≤100):∀ (d k i:Nat) (acc:List Sp),i + d=ms.length→d * 102 < k→acc.length + d * 100≤100000→
 cI.l0 k now acc ms (ms.length:Int) (i:Int)=some (acc ++ oO now (ms.drop i)):=by
 intro d
 induction d with
 |zero=>
  intro k i acc hi hk _
  obtain ⟨k,rfl⟩:∃ m,k=m + 1:=⟨k - 1,aA⟩
  rw [cI.l0,if_neg aA,List.drop_of_length_le aA]
  simp only [oO,List.append_nil]
 |succ d ih=>
  intro k i acc hi hk hacc
  have hlt:i < ms.length:=by omega
  have hx:=aib _ (List.getElem_mem hlt)
  obtain ⟨k,rfl⟩:∃ m,k=m + ms[i].f2.length + 1 + 1:=⟨k - ms[i].f2.length - 2,aA⟩
  rw [cI.l0,if_pos aA,if_pos aA,if_pos aA,YQ hlt]
  have h1:=aia now ms (ms.length:Int) (i:Int) ms[i] hx ms[i].f2.length k 0 acc aA aA
  rw [show ((0:Nat):Int)=0 from rfl] at h1
  have hl:=Eo ms[i].f0 now ms[i].f2 0
  rw [h1,Zd aA,List.drop_zero,ih k (i + 1) _ aA aA (by rw [List.length_append];omega),List.drop_eq_getElem_cons hlt,List.append_assoc]
  rfl
theorem YR {n:Int} {ms:List Ml} (hI:Inv n ms) (now:Int) (k:Nat) (hk: 102001≤k):cI.f k n ms now=some (oO now ms):=by
 unfold cI.f
 have hl:=hI.len
 have:=aeg now ms hI.len (fun m hm=>(qo (hI.good m hm)).to1) ms.length k 0 [] aA aA sZ
 rw [show ((0:Nat):Int)=0 from rfl] at this
 rw [this,List.drop_zero,List.nil_append]
theorem aeh (ms:List Ml) (hm:ms.length≤1000):∀ (d k i:Nat) (acc:List Int),i + d=ms.length→d < k→acc.length + d≤1000→
 cM.l0 k acc ms (ms.length:Int) (i:Int)=some (acc ++ wS (ms.drop i)):=by
 intro d
 induction d with
 |zero=>
  intro k i acc hi hk _
  obtain ⟨k,rfl⟩:∃ m,k=m + 1:=⟨k - 1,aA⟩
  rw [cM.l0,if_neg aA,List.drop_of_length_le aA]
  simp only [wS,List.append_nil]
 |succ d ih=>
  intro k i acc hi hk hacc
  have hlt:i < ms.length:=by omega
  obtain ⟨k,rfl⟩:∃ m,k=m + 1:=⟨k - 1,aA⟩
  rw [cM.l0,if_pos aA,if_pos aA,if_pos aA,YQ hlt,List.drop_eq_getElem_cons hlt]
  unfold kM.f
  simp only [Option.bind_some,Zd (show i < 4611686018427387904 by omega)]
  have hn:=ih k (i + 1) acc aA aA aA
  cases h:hasB ms[i].f2 0 with
  |true=>
   rw [if_neg bC,hn,wS,h,if_neg bC]
  |false=>
   rw [if_pos bC,if_pos aA,ih k (i + 1) _ aA aA Dg,wS,h,if_pos rfl,List.append_assoc]
   rfl
theorem Pj {n:Int} {ms:List Ml} (hI:Inv n ms) (k:Nat) (hk: 1001≤k):cM.f k n ms=some (wS ms):=by
 unfold cM.f
 have hl:=hI.len
 have:=aeh ms hI.len ms.length k 0 [] aA aA sZ
 rw [show ((0:Nat):Int)=0 from rfl] at this
 rw [this,List.drop_zero,List.nil_append]
theorem Lx {id now:Int}:∀ {l:List Rc} {k:Nat} {s:Sp},s∈zx id now l k→s.f0=id∧∃ (a:Nat) (r:Rc),s.f1=((k + a:Nat):Int)∧l[a]? =some r∧r.f1=0∧r.f3≤now
 | [],_,_,h=>by cases h
 |r :: l,k,s,h=>by
  unfold zx at h
  split at h
  ·rename_i hr
   rcases List.mem_cons.1 h with rfl|h
   ·exact ⟨rfl,0,r,rfl,rfl,hr.1,hr.2⟩
   ·obtain ⟨h0,a,r',h1,h2,h3⟩:=Lx h
    exact ⟨h0,a + 1,r',Dh,h2,h3⟩
  ·obtain ⟨h0,a,r',h1,h2,h3⟩:=Lx h
   exact ⟨h0,a + 1,r',Dh,h2,h3⟩
theorem Ng {now:Int}:∀ {ms:List Ml} {s:Sp},s∈oO now ms→∃ (i:Nat) (x:Ml) (a:Nat) (r:Rc),ms[i]? =some x∧x.f0=s.f0∧s.f1=(a:Int)∧x.f2[a]? =some r∧r.f1=0∧r.f3≤now
 | [],_,h=>by cases h
 |m :: ms,s,h=>by
  unfold oO at h
  rcases List.mem_append.1 h with h|h
  ·obtain ⟨h0,a,r,h1,h2,h3,h4⟩:=Lx h
   exact ⟨0,m,a,r,rfl,h0.symm,Dh,h2,h3,h4⟩
  ·obtain ⟨i,x,a,r,h1,h2⟩:=Ng h
   exact ⟨i + 1,x,a,r,h1,h2⟩
theorem Uz (id now:Int):∀ (l:List Rc) (k a:Nat) (r r':Rc),l[a]? =some r→r.f1=0→r.f3≤now→r'.f1=0→
 (r'.f3≤now→zx id now (l.set a r') k=zx id now l k)∧(¬ r'.f3≤now→(zx id now (l.set a r') k).length + 1=(zx id now l k).length)
 | [],_,a,_,_,h,_,_,_ =>by simp at h
 |x :: l,k,0,r,r',h,h0,h1,h2=>by
  obtain rfl:x=r:=by simpa using h
  rw [List.set_cons_zero]
  refine ⟨fun h3=>?_,fun h3=>?_⟩
  ·rw [zx,zx,if_pos ⟨h2,h3⟩,if_pos ⟨h0,h1⟩]
  ·rw [zx,zx,if_neg (fun h=>h3 h.2),if_pos ⟨h0,h1⟩,List.length_cons]
 |x :: l,k,a + 1,r,r',h,h0,h1,h2=>by
  obtain ⟨i1,i2⟩:=Uz id now l (k + 1) a r r' (by simpa using h) h0 h1 h2
  rw [List.set_cons_succ]
  refine ⟨fun h3=>?_,fun h3=>?_⟩
  ·rw [zx,zx,i1 h3]
  ·have:=i2 h3
   rw [zx,zx]
   split
   ·simp only [List.length_cons];omega
   ·exact this
theorem Nh (now:Int):∀ (ms:List Ml) (i:Nat) (x:Ml) (a:Nat) (r r':Rc),ms[i]? =some x→x.f2[a]? =some r→r.f1=0→r.f3≤now→r'.f1=0→
 (r'.f3≤now→oO now (put ms i x a r')=oO now ms)∧(¬ r'.f3≤now→(oO now (put ms i x a r')).length + 1=(oO now ms).length)
 | [],i,_,_,_,_,h,_,_,_,_ =>by simp at h
 |m :: ms,0,x,a,r,r',h,hr,h0,h1,h2=>by
  obtain rfl:m=x:=by simpa using h
  obtain ⟨i1,i2⟩:=Uz m.f0 now m.f2 0 a r r' hr h0 h1 h2
  unfold put
  rw [List.set_cons_zero]
  refine ⟨fun h3=>?_,fun h3=>?_⟩
  ·rw [oO,oO,i1 h3]
  ·have:=i2 h3
   rw [oO,oO,List.length_append,List.length_append]
   simp only
   omega
 |m :: ms,i + 1,x,a,r,r',h,hr,h0,h1,h2=>by
  obtain ⟨i1,i2⟩:=Nh now ms i x a r r' (by simpa using h) hr h0 h1 h2
  unfold put at i1 i2 ⊢
  rw [List.set_cons_succ]
  refine ⟨fun h3=>?_,fun h3=>?_⟩
  ·rw [oO,oO,i1 h3]
  ·have:=i2 h3
   rw [oO,oO,List.length_append,List.length_append]
   omega
theorem aei {n:Int} {ms:List Ml} (hI:Inv n ms) {i j:Nat} {x y:Ml} (hx:ms[i]? =some x) (hy:ms[j]? =some y) (h:x.f0=y.f0):i=j∧x=y:=by
 have hp:=hI.ids
 have key:∀ (a b:Nat) (u v:Ml),ms[a]? =some u→ms[b]? =some v→a < b→u.f0 < v.f0:=by
  intro a b u v hu hv hab
  obtain ⟨ha,rfl⟩:=List.getElem?_eq_some_iff.1 hu
  obtain ⟨hb,rfl⟩:=List.getElem?_eq_some_iff.1 hv
  have:=List.pairwise_iff_getElem.1 hp a b (by simpa using ha) xU hab
  simpa using this
 have e:i=j:=by
  rcases Nat.lt_trichotomy i j with h1|h1|h1
  ·have:=key i j x y hx hy h1;omega
  ·exact h1
  ·have:=key j i y x hy hx h1;omega
 subst e
 exact ⟨rfl,Option.some.inj (hx.symm.trans hy)⟩
end Go.Proofs.YtbjjaaodfbjkfaaGreatDoor.xG
namespace Go.Proofs.YtbjjaaodfbjkfaaGreatDoor.xG
open Go.RowKit Go.Proofs.YtbjjaaodfbjkfaaGreatDoor.ow Go.Proofs.ak.bY Go.Proofs.ak.dU Go.Proofs.ak.dJ
set_option linter.unusedVariables false
set_option linter.unusedSimpArgs false
theorem aft {k:Nat} (h: 2098464≤k):K0 + 1200≤k:=h
abbrev Ch:=NV
theorem YS (k:Nat) (hk: 400≤k):eA.f k=some true:=
 Bq (fun k=>eA.mono k) hk (au:eA.f 400=some true)
theorem aqE {l:List Ch} {i:Nat} (h:i < l.length):bM l (i:Int)=l[i]:=by
 unfold bM;simp [List.getD_eq_getElem?_getD,List.getElem?_eq_getElem h]
end Go.Proofs.YtbjjaaodfbjkfaaGreatDoor.xG
namespace Go.Proofs.YtbjjaaodfbjkfaaGreatDoor.xG
open Go.RowKit Go.Proofs.YtbjjaaodfbjkfaaGreatDoor.ow Go.Proofs.ak.bY Go.Proofs.ak.dU Go.Proofs.ak.dJ
set_option linter.unusedVariables false
set_option linter.unusedSimpArgs false
theorem Pk (l:List Sp) (hl:l.length≤100000):∀ (d k i:Nat),i + d=l.length→d < k→cR.l0 k l l (l.length:Int) (i:Int)=some true:=by
 intro d
 induction d with
 |zero=>
  intro k i hi hk
  obtain ⟨k,rfl⟩:∃ m,k=m + 1:=⟨k - 1,aA⟩
  rw [cR.l0,if_neg aA]
 |succ d ih=>
  intro k i hi hk
  obtain ⟨k,rfl⟩:∃ m,k=m + 1:=⟨k - 1,aA⟩
  rw [cR.l0,if_pos aA,if_pos aA,if_pos aA,if_pos aA,if_neg dz,Zd aA]
  exact ih k (i + 1) aA aA
theorem Ni (l:List Sp) (hl:l.length≤100000) (k:Nat) (hk: 100001≤k):cR.f k l l=some true:=by
 unfold cR.f
 rw [if_pos rfl]
 exact Pk l hl l.length k 0 aA aA
theorem VR (l:List Int) (hl:l.length≤100000):∀ (d k i:Nat),i + d=l.length→d < k→dX.l0 k l l (l.length:Int) (i:Int)=some true:=by
 intro d
 induction d with
 |zero=>
  intro k i hi hk
  obtain ⟨k,rfl⟩:∃ m,k=m + 1:=⟨k - 1,aA⟩
  rw [dX.l0,if_neg aA]
 |succ d ih=>
  intro k i hi hk
  obtain ⟨k,rfl⟩:∃ m,k=m + 1:=⟨k - 1,aA⟩
  rw [dX.l0,if_pos aA,if_pos aA,if_pos aA,if_pos aA,if_pos rfl,Zd aA]
  exact ih k (i + 1) aA aA
theorem aej (l:List Int) (hl:l.length≤100000) (k:Nat) (hk: 100001≤k):dX.f k l l=some true:=by
 unfold dX.f
 rw [if_pos rfl]
 exact VR l hl l.length k 0 aA aA
def cnt:List Rc→Nat
 | []=>0
 |r :: l=>if r.f1=0 then cnt l + 1 else cnt l
theorem F3:∀ l:List Rc,cnt l=0↔hasB l 0=false
 | []=>by simp [cnt,hasB]
 |r :: l=>by
  have:=F3 l
  unfold hasB at this ⊢
  unfold cnt
  rw [List.any_cons]
  by_cases h:r.f1=0
  ·rw [if_pos h,decide_eq_true h];simp
  ·rw [if_neg h,decide_eq_false h,Bool.false_or];exact this
def nx (done:List Int) (id:Int) (n:Nat):List Int:=if n=0 then done ++ [id] else done
theorem aek {id now:Int} {r:Rc} (l:List Rc) (k:Nat) (h:r.f1=0∧r.f3≤now):zx id now (r :: l) k= [⟨id,(k:Int)⟩] ++ zx id now l (k + 1):=if_pos h
theorem YT {id now:Int} {r:Rc} (l:List Rc) (k:Nat) (h: ¬ (r.f1=0∧r.f3≤now)):zx id now (r :: l) k=zx id now l (k + 1):=if_neg h
theorem aic (now due:Int) (ms qs:List Ml) (n L i:Int) (x:Ml) (hx:x.f2.length≤100):∀ (d k j c:Nat) (acc:List Sp) (done:List Int),j + d=x.f2.length→acc.length + d≤200000→done.length≤1000→c + d≤100→
 aK.l2 (k + d + 1) now due acc done (c:Int) ms L i x.f2 (x.f2.length:Int) (j:Int) n qs x.f0 x.f1.f0 x.f1.f1 x.f1.f2.f0 x.f1.f2.f1 x.f1.f2.f2 x.f2 x.f3 x.f4=
   aK.l1 k now due (acc ++ zx x.f0 now (x.f2.drop j) j) (nx done x.f0 (c + cnt (x.f2.drop j))) ms L (wrap64 (i + 1)) n qs:=by
 intro d
 induction d with
 |zero=>
  intro k j c acc done hj _ hd hc
  rw [aK.l2]
  rw [if_neg aA,List.drop_of_length_le aA]
  show _=aK.l1 k now due (acc ++ []) (nx done x.f0 c) ms L (wrap64 (i + 1)) n qs
  rw [List.append_nil]
  unfold nx
  by_cases h:c=0
  ·rw [if_pos aA,if_pos aA,if_pos h]
  ·rw [if_neg aA,if_neg h]
 |succ d ih=>
  intro k j c acc done hj hacc hd hc
  have hlt:j < x.f2.length:=by omega
  rw [show k + (d + 1) + 1=(k + d + 1) + 1 by omega,aK.l2]
  rw [if_pos aA,if_pos aA,if_pos aA,afs hlt,Zd (show j < 4611686018427387904 by omega),Zd (show c < 4611686018427387904 by omega),List.drop_eq_getElem_cons hlt]
  by_cases h1:x.f2[j].f1=0
  ·rw [if_pos h1]
   have e:c + cnt (x.f2[j] :: x.f2.drop (j + 1))=c + 1 + cnt (x.f2.drop (j + 1)):=by rw [cnt,if_pos h1];omega
   rw [e]
   by_cases h2:x.f2[j].f3≤now
   ·rw [if_pos h2,if_pos aA,ih k (j + 1) (c + 1) _ done aA Dg hd aA,List.append_assoc,aek _ _ ⟨h1,h2⟩]
   ·rw [if_neg h2,ih k (j + 1) (c + 1) acc done aA aA hd aA,YT _ _ (fun h=>h2 h.2)]
  ·rw [if_neg h1,ih k (j + 1) c acc done aA aA hd aA,YT _ _ (fun h=>h1 h.1),cnt,if_neg h1]
theorem ael (now due:Int) (ms qs:List Ml) (n:Int) (hm:ms.length≤1000) (aib:∀ m∈ms,m.f2.length≤100):∀ (d i:Nat) (acc:List Sp) (done:List Int),i + d=ms.length→acc.length + d * 100≤100000→done.length + d≤1000→
 ∃ c,c≤d * 102∧∀ k,aK.l1 (k + c + 1) now due acc done ms (ms.length:Int) (i:Int) n qs=aK.l1 (k + 1) now due (acc ++ oO now (ms.drop i)) (done ++ wS (ms.drop i)) ms (ms.length:Int) (ms.length:Int) n qs:=by
 intro d
 induction d with
 |zero=>
  intro i acc done hi _ _
  refine ⟨0,aA,fun k=>?_⟩
  rw [List.drop_of_length_le aA,show (i:Int)=(ms.length:Int) by omega]
  simp only [oO,wS,List.append_nil,Nat.add_zero]
 |succ d ih=>
  intro i acc done hi hacc hdone
  have hlt:i < ms.length:=by omega
  have hx:=aib _ (List.getElem_mem hlt)
  have hl:=Eo ms[i].f0 now ms[i].f2 0
  obtain ⟨c,hc,he⟩:=ih (i + 1) (acc ++ zx ms[i].f0 now ms[i].f2 0) (nx done ms[i].f0 (cnt ms[i].f2)) aA (by rw [List.length_append];omega) (by unfold nx;split;(rw [List.length_append];simp;omega);omega)
  refine ⟨c + 1 + ms[i].f2.length + 1,aA,fun k=>?_⟩
  rw [show k + (c + 1 + ms[i].f2.length + 1) + 1=((k + c + 1) + ms[i].f2.length + 1) + 1 by omega,aK.l1,if_pos aA,if_pos aA,if_pos aA,YQ hlt]
  have h1:=aic now due ms qs n (ms.length:Int) (i:Int) ms[i] hx ms[i].f2.length (k + c + 1) 0 0 acc done aA aA aA aA
  rw [show ((0:Nat):Int)=0 from rfl,List.drop_zero,Nat.zero_add] at h1
  rw [h1,Zd aA,he,List.drop_eq_getElem_cons hlt,oO,wS,List.append_assoc]
  congr 1
  unfold nx
  by_cases h:cnt ms[i].f2=0
  ·rw [if_pos h,if_pos ((F3 _).1 h),List.append_assoc]
   rfl
  ·rw [if_neg h,if_neg (fun h'=>h ((F3 _).2 h'))]
def aFv:Ml:=⟨0,⟨false,[],⟨⟨#[]⟩,⟨#[]⟩,false⟩⟩,[],[],0⟩
theorem YU:ot aFv:=⟨⟨Nat.zero_le _,fun d hd=>(by cases hd),Nat.zero_le _,Nat.zero_le _⟩,Nat.zero_le _,Nat.zero_le _,fun r hr=>(by cases hr)⟩
theorem aem (now due:Int) (hd:wrap64 due=due) {n:Int} {ms:List Ml} (hI:Inv n ms) (haw:∀ k,400≤k→eA.f k=some true):∀ (d k i:Nat),i + d=(oO now ms).length→2300000 + d≤k→
 aK.l3 k now due (oO now ms) (oO now ms) ((oO now ms).length:Int) (i:Int) n ms=some true:=by
 have hwl:=FZ now ms fun m hm=>(qo (hI.good m hm)).to1
 have hml:=hI.len
 intro d
 induction d with
 |zero=>
  intro k i hi hk
  obtain ⟨k,rfl⟩:∃ m,k=m + 1:=⟨k - 1,aA⟩
  rw [aK.l3,if_neg aA,haw k aA]
  rfl
 |succ d ih=>
  intro k i hi hk
  obtain ⟨k,rfl⟩:∃ m,k=m + 1:=⟨k - 1,aA⟩
  have hlt:i < (oO now ms).length:=by omega
  have hn:=ih k (i + 1) aA aA
  rw [aK.l3,if_pos aA,if_pos aA,if_pos aA,aqD hlt,hd]
  obtain ⟨n',ms',e,hA,hI',aqG⟩:=Nf hI 2 (oO now ms)[i].f0 (oO now ms)[i].f1 due YU
  have hA':=hA k (aft aA)
  rw [show cz.f k n ms 2 (oO now ms)[i].f0 (oO now ms)[i].f1 due 0 false [] ⟨#[]⟩ ⟨#[]⟩ false [] [] 0=some (n',ms',e) from hA']
  simp only [Option.bind_some,Zd (show i < 4611686018427387904 by omega)]
  rcases aqG with ⟨rfl,rfl,rfl⟩|⟨rfl,hch,hF⟩
  ·rw [if_neg bC]
   exact hn
  ·rw [if_pos rfl,YR hI' now k aA]
   simp only [Option.bind_some]
   obtain ⟨i1,x1,a1,r1,q1,q2,q3,q4,q5,q6⟩:=Ng (List.getElem_mem hlt)
   cases hF with
   |add hk1=>cases hk1
   |next hk1=>cases hk1
   |gone hk1=>cases hk1
   |owes hk1=>cases hk1
   |step hkk i2 x2 hx2 hi2 a2 r2 ha2 hr2 h02 ht2=>
    obtain ⟨rfl,rfl⟩:=aei hI q1 hx2 (q2.trans hi2.symm)
    obtain rfl:a1=a2:=by omega
    obtain rfl:r1=r2:=Option.some.inj (q4.symm.trans hr2)
    rw [if_pos rfl] at hI' ⊢
    obtain ⟨p1,p2⟩:=Nh now ms i1 x1 a1 r1 ⟨r1.f0,r1.f1,r1.f2 + 1,due⟩ q1 q4 q5 q6 q5
    by_cases hdn:due≤now
    ·rw [if_pos hdn,p1 hdn,Ni _ aA k aA]
     simp only [Option.bind_some,if_true]
     rw [if_neg aA]
     exact hn
    ·have p3:=p2 hdn
     rw [if_neg hdn,if_pos aA,if_pos u7]
     exact hn
theorem YV (now due:Int) (hd:wrap64 due=due) {n:Int} {ms:List Ml} (hI:Inv n ms) (haw:∀ k,400≤k→eA.f k=some true) (k:Nat) (hk: 2600000≤k):
 aK.l1 k now due [] [] ms (ms.length:Int) 0 n ms=some true:=by
 have hwl:=FZ now ms fun m hm=>(qo (hI.good m hm)).to1
 have hml:=hI.len
 have hdl:=Hi ms
 obtain ⟨c,hc,he⟩:=ael now due ms ms n hml (fun m hm=>(qo (hI.good m hm)).to1) ms.length 0 [] [] aA sZ sZ
 obtain ⟨k',rfl⟩:∃ m,k=m + c + 1:=⟨k - c - 1,aA⟩
 have h1:=he k'
 rw [show ((0:Nat):Int)=0 from rfl,List.drop_zero,List.nil_append,List.nil_append] at h1
 rw [h1,aK.l1,if_neg aA,YR hI now k' aA]
 simp only [Option.bind_some]
 rw [Ni _ aA k' aA]
 simp only [Option.bind_some,if_true]
 rw [Pj hI k' aA]
 simp only [Option.bind_some]
 rw [aej _ aA k' aA]
 simp only [Option.bind_some,Bool.not_true]
 obtain ⟨k2,rfl⟩:∃ m,k'=m + 1:=⟨k' - 1,aA⟩
 rw [aK.j3,if_neg bC]
 have h2:=aem now due hd hI haw (oO now ms).length k2 0 aA aA
 rw [show ((0:Nat):Int)=0 from rfl] at h2
 exact h2
theorem YW (now due:Int) (hd:wrap64 due=due) (haw:∀ k,400≤k→eA.f k=some true) (l:List Ch) (hl:l.length≤40) (hs:∀ c∈l,ot c.f4):∀ (d k i:Nat) (n:Int) (ms:List Ml),Inv n ms→i + d=l.length→2600000 + d < k→
 aK.l0 k now due l (l.length:Int) (i:Int) n ms=some true:=by
 intro d
 induction d with
 |zero=>
  intro k i n ms hI hi hk
  obtain ⟨k,rfl⟩:∃ m,k=m + 1:=⟨k - 1,aA⟩
  rw [aK.l0,if_neg aA]
  exact YV now due hd hI haw k aA
 |succ d ih=>
  intro k i n ms hI hi hk
  obtain ⟨k,rfl⟩:∃ m,k=m + 1:=⟨k - 1,aA⟩
  have hlt:i < l.length:=by omega
  rw [aK.l0,if_pos aA,if_pos aA,if_pos aA,aqE hlt]
  obtain ⟨n',ms',e,hA,hI',_⟩:=Nf hI l[i].f0 l[i].f1 l[i].f2 l[i].f3 (hs _ (List.getElem_mem hlt))
  rw [hA k (aft aA)]
  simp only [Option.bind_some,Zd (show i < 4611686018427387904 by omega)]
  exact ih k (i + 1) n' ms' hI' aA aA
theorem YX (l:List Ch) (now due:Int) (hd0: 0≤due) (hd1:due≤4294967295) (hl:l.length≤9223372036854775807) (hs:∀ c∈l,ot c.f4):∃ k,aK.f k l now due=some true:=by
 have hd:wrap64 due=due:=by unfold wrap64;omega
 obtain ⟨k,hk⟩:∃ k,2700000≤k:=⟨_,Nat.le_refl _⟩
 refine ⟨k,?_⟩
 unfold aK.f iT.f
 simp only [Option.bind_some]
 have hmn:mn (l.length:Int) 40=((min l.length 40:Nat):Int):=by unfold mn;split<;>omega
 rw [hmn,if_pos aA,if_pos aA]
 simp only [Int.toNat_natCast]
 have hlen:(l.take (min l.length 40)).length=min l.length 40:=by rw [List.length_take];omega
 have:=YW now due hd YS (l.take (min l.length 40)) aA (fun c hc=>hs c (List.mem_of_mem_take hc)) (min l.length 40) k 0 1 [] VN aA aA
 rw [show ((0:Nat):Int)=0 from rfl] at this
 exact this
end Go.Proofs.YtbjjaaodfbjkfaaGreatDoor.xG
namespace Go.Proofs.YtbjjaaodfbjkfaaGreatDoor.aid
open Go.ChangeShapes Go.WideShapes Go.RowKit
open Go.Proofs.ak.bY Go.Proofs.YtbjjaaodfbjkfaaGreatDoor.ow Go.Proofs.YtbjjaaodfbjkfaaGreatDoor.xG
set_option linter.unusedVariables false
set_option linter.unusedSimpArgs false
set_option maxRecDepth 100000
theorem laidOut:laidOutB Tryz.prog=true:=by kernel_rfl
abbrev Ch:=NV
section
variable {H:Type}
def yU {α:Type} (enc:TypeId×Value→H) (W:World) (t:TypeId) (d:Kd α) (S:α→Prop):Prop:=
 ∀ fuel cs x,DataW.trod enc Tryz.prog W 0 (fun _ =>true) true fuel t cs=some x→∃ p,d.K W p cs∧(Rows.uptoBulk x.1≤rz→S p)
variable {enc:TypeId×Value→H} {W:World}
theorem aqH:∀ d:DataW H,1≤Rows.uptoBulk d
 | .lit l=>by cases l<;>simp [Rows.uptoBulk]
 | .nil=>by simp [Rows.uptoBulk]
 | .ptr _ =>by simp [Rows.uptoBulk]
 | .slice _ _ =>by simp [Rows.uptoBulk]
 | .agg _ =>by simp [Rows.uptoBulk]
 | .iface _ _ =>by simp [Rows.uptoBulk]
 | .map _ =>by simp [Rows.uptoBulk]
 | .held _ =>by simp [Rows.uptoBulk]
theorem F4:∀ (l:List (DataW H)) (d:DataW H),d∈l→Rows.uptoBulk d≤Rows.uptoBulkAll l
 |x :: l,d,h=>by
  rw [show Rows.uptoBulkAll (x :: l)=Rows.uptoBulk x + Rows.uptoBulkAll l from by simp only [Rows.uptoBulkAll]]
  rcases List.mem_cons.1 h with rfl|h
  ·omega
  ·have:=F4 l d h;omega
theorem Nj:∀ l:List (DataW H),l.length≤Rows.uptoBulkAll l
 | []=>Nat.zero_le _
 |x :: l=>by
  rw [show Rows.uptoBulkAll (x :: l)=Rows.uptoBulk x + Rows.uptoBulkAll l from by simp only [Rows.uptoBulkAll],List.length_cons]
  have:=aqH x
  have:=Nj l
  omega
theorem qp (l:List (DataW H)) (d:DataW H) (h:d∈l):Rows.uptoBulk d≤Rows.uptoBulk (.agg l):=by
 rw [show Rows.uptoBulk (.agg l:DataW H)=Rows.uptoBulkAll l + 1 from by simp only [Rows.uptoBulk]]
 have:=F4 l d h
 omega
theorem F5:yU enc W 9 Kd.string (fun s=>s.size≤rz):=by
 intro fuel cs x h
 obtain ⟨s,e,rfl,_⟩:=DataW.trod_string Tryz.underlying9 h
 refine ⟨s,e,fun hb=>?_⟩
 have hd:=jE s
 rw [show Rows.uptoBulk (.lit (.string s.data.toList):DataW H)=s.data.toList.length + 1 from by simp only [Rows.uptoBulk]] at hb
 omega
theorem oY {k:IntKind} {t:TypeId} (ht:Tryz.prog.underlying t=some (.int k)):yU enc W t (Kd.int k) (fun n=>(Lit.int k n).wf=true):=by
 intro fuel cs x h
 obtain ⟨n,e,rfl,hw⟩:=DataW.trod_int ht h
 exact ⟨n,e,fun _ =>hw⟩
theorem Nk:yU enc W 4 Kd.bool (fun _ =>True):=by
 intro fuel cs x h
 obtain ⟨n,e,rfl⟩:=DataW.trod_bool Tryz.underlying4 h
 exact ⟨n,e,fun _ =>trivial⟩
theorem Ep {α:Type} {d:Kd α} {S:α→Prop} (z:α) {t e:TypeId} (hu:Tryz.prog.underlying t=some (.slice e)) (hsz:Tryz.prog.cellsOf e=d.sz) (hel:yU enc W e d S):
 yU enc W t (Kd.slice e d) (fun l=>l.length≤rz∧∀ y∈l,S y):=by
 intro fuel cs x h
 rcases DataW.trod_slice hu h with ⟨rfl,rfl⟩|⟨a,len,cap,elems,rest,n,_,rfl,rfl,_,hl,hm,hlen,he,_,_⟩
 ·exact ⟨[],⟨none,0,rfl,Nat.le_refl _,rfl,Nat.zero_le _,fun h=>absurd h (Nat.lt_irrefl _)⟩,fun _ =>⟨Nat.zero_le _,fun y hy=>by cases hy⟩⟩
 ·have hq:∀ i,∃ p:α,i < len→(∃ c,c.length=d.sz∧d.K W p c∧∀ j u,c[j]? =some u→W.cell? (a.add (i * d.sz + j))=some u)∧∃ y,elems[i]? =some y∧(Rows.uptoBulk y.1≤rz→S p):=by
   intro i
   by_cases hi:i < len
   ·have hx:=he i hi
    rw [hsz] at hx
    have hi2:i < elems.length:=by omega
    rw [List.getElem?_eq_getElem hi2] at hx
    obtain ⟨c,h1,h2⟩:=Option.bind_eq_some_iff.mp hx
    obtain ⟨p,k1,k2⟩:=hel _ _ _ h2
    obtain ⟨_,hc1,hc2⟩:=World.cells?_some h1
    refine ⟨p,fun _ =>⟨⟨c,hc1,k1,fun j u hj=>?_⟩,_,List.getElem?_eq_getElem hi2,k2⟩⟩
    have hjl:j < d.sz:=by
     by_cases hjl:j < c.length
     ·omega
     ·rw [List.getElem?_eq_none aA] at hj;cases hj
    have:=hc2 j hjl
    rw [hj] at this
    rw [← this]
    congr 1
    unfold Addr.add
    by_cases hi0:i * d.sz=0
    ·rw [hi0];simp
    ·by_cases hj0:j=0
     ·subst hj0;simp
     ·rw [if_neg aA,if_neg hi0,if_neg hj0]
      simp only [Addr.mk.injEq,and_true,true_and]
      omega
   ·exact ⟨z,fun h=>absurd h hi⟩
  obtain ⟨f,hf⟩:=Classical.skolem.mp hq
  have hPl:((List.range len).map f).length=len:=by simp
  have hget:∀ j p,((List.range len).map f)[j]? =some p→j < len∧p=f j:=by
   intro j p hj
   rw [List.getElem?_map] at hj
   by_cases hjl:j < len
   ·rw [List.getElem?_range hjl] at hj
    exact ⟨hjl,(Option.some.inj hj).symm⟩
   ·rw [List.getElem?_eq_none sZ] at hj
    cases hj
  have hml:maxLen≤9223372036854775807:=by decide
  refine ⟨(List.range len).map f,⟨some a,cap,by rw [hPl],by rw [hPl];exact hl,by rw [hPl],by rw [hPl];omega,fun _ =>⟨a,rfl,fun j p hj=>?_⟩⟩,fun hb=>?_⟩
  ·obtain ⟨hjl,rfl⟩:=hget j p hj
   exact (hf j hjl).1
  ·rw [show Rows.uptoBulk (.slice (elems.map (·.1)) (rest.map (·.1)):DataW H)=Rows.uptoBulkAll (elems.map (·.1)) + Rows.uptoBulkAll (rest.map (·.1)) + 1 from by simp only [Rows.uptoBulk]] at hb
   have hbl:=Nj (elems.map (·.1))
   rw [List.length_map,hlen] at hbl
   refine ⟨by rw [hPl];omega,fun y hy=>?_⟩
   obtain ⟨j,hj,rfl⟩:=List.mem_map.1 hy
   obtain ⟨_,y',hy1,hy2⟩:=hf j (List.mem_range.1 hj)
   exact hy2 (by have:=F4 (elems.map (·.1)) y'.1 (List.mem_map_of_mem (List.mem_of_getElem? hy1));omega)
theorem L3 {α:Type} {l:List α} (h:l.length=3):∃ a b c,l= [a,b,c]:=by
 match l,h with
 | [a,b,c],_ =>exact ⟨a,b,c,rfl⟩
theorem L4 {α:Type} {l:List α} (h:l.length=4):∃ a b c d,l= [a,b,c,d]:=by
 match l,h with
 | [a,b,c,d],_ =>exact ⟨a,b,c,d,rfl⟩
theorem L5 {α:Type} {l:List α} (h:l.length=5):∃ a b c d e,l= [a,b,c,d,e]:=by
 match l,h with
 | [a,b,c,d,e],_ =>exact ⟨a,b,c,d,e,rfl⟩
theorem L6 {α:Type} {l:List α} (h:l.length=6):∃ a b c d e f,l= [a,b,c,d,e,f]:=by
 match l,h with
 | [a,b,c,d,e,f],_ =>exact ⟨a,b,c,d,e,f,rfl⟩
theorem L9 {α:Type} {l:List α} (h:l.length=9):∃ a b c d e f g i j,l= [a,b,c,d,e,f,g,i,j]:=by
 match l,h with
 | [a,b,c,d,e,f,g,i,j],_ =>exact ⟨a,b,c,d,e,f,g,i,j,rfl⟩
theorem L13 {α:Type} {l:List α} (h:l.length=13):∃ a b c d e f g i j k m n o,l= [a,b,c,d,e,f,g,i,j,k,m,n,o]:=by
 match l,h with
 | [a,b,c,d,e,f,g,i,j,k,m,n,o],_ =>exact ⟨a,b,c,d,e,f,g,i,j,k,m,n,o,rfl⟩
theorem aie:Tryz.prog.cellsOf 29=3:=by kernel_rfl
theorem afu:Tryz.prog.cellsOf 31=5:=by kernel_rfl
theorem afv:Tryz.prog.cellsOf 37=6:=by kernel_rfl
theorem afw:Tryz.prog.cellsOf 34=9:=by kernel_rfl
theorem UA:Tryz.prog.cellsOf 46=13:=by kernel_rfl
theorem aqJ:Tryz.prog.cellsOf 9=1:=by kernel_rfl
theorem afx:Tryz.prog.cellsOf 4=1:=by kernel_rfl
theorem aif:Tryz.prog.cellsOf 3=1:=by kernel_rfl
theorem cU8:Tryz.prog.cellsOf 5=1:=by kernel_rfl
theorem aqK:Tryz.prog.cellsOf 27=1:=by kernel_rfl
theorem aih:Tryz.prog.cellsOf 32=1:=by kernel_rfl
theorem aii:Tryz.prog.cellsOf 22=1:=by kernel_rfl
theorem UB:yU enc W 29 k29 (fun b=>b.f0.size≤rz∧b.f1.size≤rz):=by
 intro fuel cs x h
 obtain ⟨xs,n,_,rfl,hl,hlen,hf⟩:=DataW.trod_struct Tryz.underlying29 h
 rw [aie] at hl
 obtain ⟨c0,c1,c2,rfl⟩:=L3 hl
 obtain ⟨y0,y1,y2,rfl⟩:=L3 hlen
 have h0:DataW.trod enc Tryz.prog W 0 (fun _ =>true) true n 9 (([c0,c1,c2].drop 0).take (Tryz.prog.cellsOf 9))=some y0:=hf 0 _ rfl
 have h1:DataW.trod enc Tryz.prog W 0 (fun _ =>true) true n 9 (([c0,c1,c2].drop 1).take (Tryz.prog.cellsOf 9))=some y1:=hf 1 _ rfl
 have h2:DataW.trod enc Tryz.prog W 0 (fun _ =>true) true n 4 (([c0,c1,c2].drop 2).take (Tryz.prog.cellsOf 4))=some y2:=hf 2 _ rfl
 rw [aqJ] at h0 h1
 rw [afx] at h2
 obtain ⟨p0,k0,s0⟩:=F5 _ _ _ h0
 obtain ⟨p1,k1,s1⟩:=F5 _ _ _ h1
 obtain ⟨p2,k2,s2⟩:=Nk _ _ _ h2
 exact ⟨⟨p0,p1,p2⟩,⟨[c0],[c1,c2],rfl,k0,⟨[c1],[c2],rfl,k1,k2⟩⟩,fun hb=>⟨s0 (Nat.le_trans (qp _ _ dz) hb),s1 (Nat.le_trans (qp _ _ dz) hb)⟩⟩
theorem aen:yU enc W 31 k31 Lt:=by
 intro fuel cs x h
 obtain ⟨xs,n,_,rfl,hl,hlen,hf⟩:=DataW.trod_struct Tryz.underlying31 h
 rw [afu] at hl
 obtain ⟨c0,c1,c2,c3,c4,rfl⟩:=L5 hl
 obtain ⟨y0,y1,y2,rfl⟩:=L3 hlen
 have h0:DataW.trod enc Tryz.prog W 0 (fun _ =>true) true n 4 (([c0,c1,c2,c3,c4].drop 0).take (Tryz.prog.cellsOf 4))=some y0:=hf 0 _ rfl
 have h1:DataW.trod enc Tryz.prog W 0 (fun _ =>true) true n 27 (([c0,c1,c2,c3,c4].drop 1).take (Tryz.prog.cellsOf 27))=some y1:=hf 1 _ rfl
 have h2:DataW.trod enc Tryz.prog W 0 (fun _ =>true) true n 29 (([c0,c1,c2,c3,c4].drop 2).take (Tryz.prog.cellsOf 29))=some y2:=hf 2 _ rfl
 rw [afx] at h0
 rw [aqK] at h1
 rw [aie] at h2
 obtain ⟨p0,k0,s0⟩:=Nk _ _ _ h0
 obtain ⟨p1,k1,s1⟩:=Ep (ByteArray.mk #[]) Tryz.underlying27 aqJ F5 _ _ _ h1
 obtain ⟨p2,k2,s2⟩:=UB _ _ _ h2
 exact ⟨⟨p0,p1,p2⟩,⟨[c0],[c1,c2,c3,c4],rfl,k0,⟨[c1],[c2,c3,c4],rfl,k1,k2⟩⟩,fun hb=>
  have a1:=s1 (Nat.le_trans (qp _ _ dz) hb)
  have a2:=s2 (Nat.le_trans (qp _ _ dz) hb)
  ⟨a1.1,a1.2,a2.1,a2.2⟩⟩
theorem aeo:yU enc W 37 sN (fun r=>r.f0.f0.size≤rz∧r.f0.f1.size≤rz):=by
 intro fuel cs x h
 obtain ⟨xs,n,_,rfl,hl,hlen,hf⟩:=DataW.trod_struct Tryz.underlying37 h
 rw [afv] at hl
 obtain ⟨c0,c1,c2,c3,c4,c5,rfl⟩:=L6 hl
 obtain ⟨y0,y1,y2,y3,rfl⟩:=L4 hlen
 have h0:DataW.trod enc Tryz.prog W 0 (fun _ =>true) true n 29 (([c0,c1,c2,c3,c4,c5].drop 0).take (Tryz.prog.cellsOf 29))=some y0:=hf 0 _ rfl
 have h1:DataW.trod enc Tryz.prog W 0 (fun _ =>true) true n 5 (([c0,c1,c2,c3,c4,c5].drop 3).take (Tryz.prog.cellsOf 5))=some y1:=hf 1 _ rfl
 have h2:DataW.trod enc Tryz.prog W 0 (fun _ =>true) true n 3 (([c0,c1,c2,c3,c4,c5].drop 4).take (Tryz.prog.cellsOf 3))=some y2:=hf 2 _ rfl
 have h3:DataW.trod enc Tryz.prog W 0 (fun _ =>true) true n 3 (([c0,c1,c2,c3,c4,c5].drop 5).take (Tryz.prog.cellsOf 3))=some y3:=hf 3 _ rfl
 rw [aie] at h0
 rw [cU8] at h1
 rw [aif] at h2 h3
 obtain ⟨p0,k0,s0⟩:=UB _ _ _ h0
 obtain ⟨p1,k1,s1⟩:=oY Tryz.underlying5 _ _ _ h1
 obtain ⟨p2,k2,s2⟩:=oY Tryz.underlying3 _ _ _ h2
 obtain ⟨p3,k3,s3⟩:=oY Tryz.underlying3 _ _ _ h3
 exact ⟨⟨p0,p1,p2,p3⟩,⟨[c0,c1,c2],[c3,c4,c5],rfl,k0,⟨[c3],[c4,c5],rfl,k1,⟨[c4],[c5],rfl,k2,k3⟩⟩⟩,fun hb=>s0 (Nat.le_trans (qp _ _ dz) hb)⟩
theorem aep:yU enc W 34 Bz ot:=by
 intro fuel cs x h
 obtain ⟨xs,n,_,rfl,hl,hlen,hf⟩:=DataW.trod_struct Tryz.underlying34 h
 rw [afw] at hl
 obtain ⟨c0,c1,c2,c3,c4,c5,c6,c7,c8,rfl⟩:=L9 hl
 obtain ⟨y0,y1,y2,y3,y4,rfl⟩:=L5 hlen
 have h0:DataW.trod enc Tryz.prog W 0 (fun _ =>true) true n 3 (([c0,c1,c2,c3,c4,c5,c6,c7,c8].drop 0).take (Tryz.prog.cellsOf 3))=some y0:=hf 0 _ rfl
 have h1:DataW.trod enc Tryz.prog W 0 (fun _ =>true) true n 31 (([c0,c1,c2,c3,c4,c5,c6,c7,c8].drop 1).take (Tryz.prog.cellsOf 31))=some y1:=hf 1 _ rfl
 have h2:DataW.trod enc Tryz.prog W 0 (fun _ =>true) true n 32 (([c0,c1,c2,c3,c4,c5,c6,c7,c8].drop 6).take (Tryz.prog.cellsOf 32))=some y2:=hf 2 _ rfl
 have h3:DataW.trod enc Tryz.prog W 0 (fun _ =>true) true n 22 (([c0,c1,c2,c3,c4,c5,c6,c7,c8].drop 7).take (Tryz.prog.cellsOf 22))=some y3:=hf 3 _ rfl
 have h4:DataW.trod enc Tryz.prog W 0 (fun _ =>true) true n 3 (([c0,c1,c2,c3,c4,c5,c6,c7,c8].drop 8).take (Tryz.prog.cellsOf 3))=some y4:=hf 4 _ rfl
 rw [aif] at h0 h4
 rw [afu] at h1
 rw [aih] at h2
 rw [aii] at h3
 obtain ⟨p0,k0,s0⟩:=oY Tryz.underlying3 _ _ _ h0
 obtain ⟨p1,k1,s1⟩:=aen _ _ _ h1
 obtain ⟨p2,k2,s2⟩:=Ep z37 Tryz.underlying32 afv aeo _ _ _ h2
 obtain ⟨p3,k3,s3⟩:=Ep 0 Tryz.underlying22 cU8 (oY Tryz.underlying5) _ _ _ h3
 obtain ⟨p4,k4,s4⟩:=oY Tryz.underlying3 _ _ _ h4
 exact ⟨⟨p0,p1,p2,p3,p4⟩,⟨[c0],[c1,c2,c3,c4,c5,c6,c7,c8],rfl,k0,⟨[c1,c2,c3,c4,c5],[c6,c7,c8],rfl,k1,⟨[c6],[c7,c8],rfl,k2,⟨[c7],[c8],rfl,k3,k4⟩⟩⟩⟩,fun hb=>
  have a2:=s2 (Nat.le_trans (qp _ _ dz) hb)
  ⟨s1 (Nat.le_trans (qp _ _ dz) hb),a2.1,(s3 (Nat.le_trans (qp _ _ dz) hb)).1,a2.2⟩⟩
theorem aer:yU enc W 46 k46 (fun c=>ot c.f4):=by
 intro fuel cs x h
 obtain ⟨xs,n,_,rfl,hl,hlen,hf⟩:=DataW.trod_struct Tryz.underlying46 h
 rw [UA] at hl
 obtain ⟨c0,c1,c2,c3,c4,c5,c6,c7,c8,c9,c10,c11,c12,rfl⟩:=L13 hl
 obtain ⟨y0,y1,y2,y3,y4,rfl⟩:=L5 hlen
 have h0:DataW.trod enc Tryz.prog W 0 (fun _ =>true) true n 5 (([c0,c1,c2,c3,c4,c5,c6,c7,c8,c9,c10,c11,c12].drop 0).take (Tryz.prog.cellsOf 5))=some y0:=hf 0 _ rfl
 have h1:DataW.trod enc Tryz.prog W 0 (fun _ =>true) true n 3 (([c0,c1,c2,c3,c4,c5,c6,c7,c8,c9,c10,c11,c12].drop 1).take (Tryz.prog.cellsOf 3))=some y1:=hf 1 _ rfl
 have h2:DataW.trod enc Tryz.prog W 0 (fun _ =>true) true n 3 (([c0,c1,c2,c3,c4,c5,c6,c7,c8,c9,c10,c11,c12].drop 2).take (Tryz.prog.cellsOf 3))=some y2:=hf 2 _ rfl
 have h3:DataW.trod enc Tryz.prog W 0 (fun _ =>true) true n 3 (([c0,c1,c2,c3,c4,c5,c6,c7,c8,c9,c10,c11,c12].drop 3).take (Tryz.prog.cellsOf 3))=some y3:=hf 3 _ rfl
 have h4:DataW.trod enc Tryz.prog W 0 (fun _ =>true) true n 34 (([c0,c1,c2,c3,c4,c5,c6,c7,c8,c9,c10,c11,c12].drop 4).take (Tryz.prog.cellsOf 34))=some y4:=hf 4 _ rfl
 rw [cU8] at h0
 rw [aif] at h1 h2 h3
 rw [afw] at h4
 obtain ⟨p0,k0,s0⟩:=oY Tryz.underlying5 _ _ _ h0
 obtain ⟨p1,k1,s1⟩:=oY Tryz.underlying3 _ _ _ h1
 obtain ⟨p2,k2,s2⟩:=oY Tryz.underlying3 _ _ _ h2
 obtain ⟨p3,k3,s3⟩:=oY Tryz.underlying3 _ _ _ h3
 obtain ⟨p4,k4,s4⟩:=aep _ _ _ h4
 exact ⟨⟨p0,p1,p2,p3,p4⟩,⟨[c0],[c1,c2,c3,c4,c5,c6,c7,c8,c9,c10,c11,c12],rfl,k0,⟨[c1],[c2,c3,c4,c5,c6,c7,c8,c9,c10,c11,c12],rfl,k1,⟨[c2],[c3,c4,c5,c6,c7,c8,c9,c10,c11,c12],rfl,k2,⟨[c3],[c4,c5,c6,c7,c8,c9,c10,c11,c12],rfl,k3,k4⟩⟩⟩⟩,fun hb=>s4 (Nat.le_trans (qp _ _ dz) hb)⟩
theorem Lz {b0:Nat} {v:Value} {d:DataW H} {ps:List MemPlace} (hv:Value.okWide Tryz.prog W .any b0 58 v) (h:DataW.Trod enc Tryz.prog W 0 (fun _ =>true) true 58 v d ps):
 ∃ (A:Option Addr) (c:Nat) (l:List Ch),v= .slice A l.length c∧k46.C W A l.length l∧l.length≤c∧(Rows.uptoBulk d≤rz→∀ c∈l,ot c.f4):=by
 obtain ⟨A,n,c,rfl⟩:=okWide_slice Tryz.underlying58 hv
 obtain ⟨fuel,hf⟩:=h
 obtain ⟨l,⟨A',c',e,hl,hC⟩,hs⟩:=Ep z46 Tryz.underlying58 UA aer _ _ _ hf
 have e': [Value.slice A n c]= [Value.slice A' l.length c']:=e
 simp only [List.cons.injEq,Value.slice.injEq,and_true] at e'
 obtain ⟨rfl,rfl,rfl⟩:=e'
 exact ⟨A,c,l,rfl,hC,hl,fun hb=>(hs hb).2⟩
end
end Go.Proofs.YtbjjaaodfbjkfaaGreatDoor.aid
