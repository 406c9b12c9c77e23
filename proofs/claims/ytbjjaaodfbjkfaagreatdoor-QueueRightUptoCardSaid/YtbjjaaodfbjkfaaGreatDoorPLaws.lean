import Derived.Test.YtbjjaaodfbjkfaaGreatDoorERight
import Derived.Test.YtbjjaaodfbjkfaaGreatDoorRows
import Derived.OpenShut
import Derived.SliceStrings
namespace Go.Proofs.YtbjjaaodfbjkfaaGreatDoor.vD
open Go.RowKit Go.Proofs.YtbjjaaodfbjkfaaGreatDoor.mN Go.Proofs.ak.bQ Go.Proofs.ak.dA Go.Proofs.ak.cX
set_option linter.unusedVariables false
set_option linter.unusedSimpArgs false
theorem Br {α:Type} (p:α→Bool) (l:List α):(!(l.any fun x=>!p x))=l.all p:=by
 induction l with
 |nil=>rfl
 |cons x l ih=>rw [List.any_cons,List.all_cons,Bool.not_or,Bool.not_not,ih]
abbrev Pt:=Rz
abbrev Bx:=E2
def sw (n:Int):Bool:=decide (0≤n) && decide (n≤1099511627776)
theorem TV (a:Int):lN.f a=some (!sw a):=by
 unfold lN.f sw
 by_cases h:a < 0
 ·rw [if_pos h];simp;omega
 ·rw [if_neg h,decide_eq_true (show 0≤a by omega),Bool.true_and,← decide_not];simp
theorem TW (l:List Int) (hm:l.length≤9223372036854775807):∀ (d k n:Nat),n + d=l.length→d < k→
 ∃ r,aR.l0 k l (l.length:Int) (n:Int)=some r∧(decide (0≤r))=(l.drop n).any fun x=>!sw x:=by
 intro d
 induction d with
 |zero=>
  intro k n hn hk
  obtain ⟨k,rfl⟩:∃ m,k=m + 1:=⟨k - 1,aA⟩
  exact ⟨-1,by simp only [aR.l0];rw [if_neg aA],by rw [List.drop_of_length_le aA];rfl⟩
 |succ d ih=>
  intro k n hn hk
  obtain ⟨k,rfl⟩:∃ m,k=m + 1:=⟨k - 1,aA⟩
  have hlt:n < l.length:=by omega
  have hrd:rd l (n:Int)=l[n]:=by unfold rd;simp [List.getD_eq_getElem?_getD,List.getElem?_eq_getElem hlt]
  have hw:wrap64 ((n:Int) + 1)=((n + 1:Nat):Int):=by unfold wrap64;omega
  rw [List.drop_eq_getElem_cons hlt,List.any_cons]
  simp only [aR.l0]
  rw [if_pos aA,if_pos aA,if_pos aA,TV,hrd]
  simp only [Option.bind_some]
  cases h:sw l[n] with
  |true=>
   obtain ⟨r,hr,hd⟩:=ih k (n + 1) aA aA
   exact ⟨r,M6,by rw [hd];simp⟩
  |false=>exact ⟨(n:Int),cP,cP⟩
theorem IC (l:List Int) (hm:l.length≤9223372036854775807) (k:Nat) (hk:l.length < k):cR.f k l=some (l.all sw):=by
 unfold cR.f bZ.f aR.f
 obtain ⟨r,hr,hd⟩:=TW l hm l.length k 0 aA hk
 rw [List.drop_zero] at hd
 rw [show ((0:Nat):Int)=0 from rfl] at hr
 rw [hr]
 simp only [Option.bind_some,ge_iff_le]
 rw [hd,Br]
def tD (ρ:Pt→Bool) (r:Rc):Bool:=ρ ⟨false,[],r.f0⟩ && (decide (r.f1≤2) && (sw r.f2 && sw r.f3))
def xd (ρ:Pt→Bool) (k0:Nat) (p:Pt):Prop:=∀ k,k0≤k→dL.f k p.f0 p.f1 p.f2.f0 p.f2.f1 p.f2.f2=some (ρ p)
theorem YI {ρ:Pt→Bool} {k0:Nat} {r:Rc} (h:xd ρ k0 ⟨false,[],r.f0⟩) (k:Nat) (hk:k0 + 3≤k):gY.f k r.f0.f0 r.f0.f1 r.f0.f2 r.f1 r.f2 r.f3=some (!tD ρ r):=by
 unfold gY.f jZ.f tD
 rw [h k aA]
 simp only [Option.bind_some]
 cases ρ ⟨false,[],r.f0⟩ with
 |false=>rfl
 |true=>
  rw [if_pos rfl]
  by_cases h2:r.f1≤2
  ·rw [if_pos h2,IC _ cP k (by simp;omega),decide_eq_true h2]
   simp
  ·rw [if_neg h2,decide_eq_false h2]
   rfl
theorem TX {ρ:Pt→Bool} {k0:Nat} (l:List Rc) (hm:l.length≤9223372036854775807) (h:∀ r∈l,xd ρ k0 ⟨false,[],r.f0⟩):∀ (d k n:Nat),n + d=l.length→d + k0 + 3 < k→
 ∃ r,aG.l0 k l (l.length:Int) (n:Int)=some r∧(decide (0≤r))=(l.drop n).any fun x=>!tD ρ x:=by
 intro d
 induction d with
 |zero=>
  intro k n hn hk
  obtain ⟨k,rfl⟩:∃ m,k=m + 1:=⟨k - 1,aA⟩
  exact ⟨-1,by simp only [aG.l0];rw [if_neg aA],by rw [List.drop_of_length_le aA];rfl⟩
 |succ d ih=>
  intro k n hn hk
  obtain ⟨k,rfl⟩:∃ m,k=m + 1:=⟨k - 1,aA⟩
  have hlt:n < l.length:=by omega
  have hrd:bR l (n:Int)=l[n]:=by unfold bR;simp [List.getD_eq_getElem?_getD,List.getElem?_eq_getElem hlt]
  have hw:wrap64 ((n:Int) + 1)=((n + 1:Nat):Int):=by unfold wrap64;omega
  rw [List.drop_eq_getElem_cons hlt,List.any_cons]
  simp only [aG.l0]
  rw [if_pos aA,if_pos aA,if_pos aA,hrd,YI (h _ (List.getElem_mem hlt)) k aA]
  simp only [Option.bind_some]
  cases hv:tD ρ l[n] with
  |true=>
   obtain ⟨r,hr,hd⟩:=ih k (n + 1) aA aA
   exact ⟨r,M6,by rw [hd];simp⟩
  |false=>exact ⟨(n:Int),cP,cP⟩
theorem TY {ρ:Pt→Bool} {k0:Nat} (l:List Rc) (hm:l.length≤9223372036854775807) (h:∀ r∈l,xd ρ k0 ⟨false,[],r.f0⟩) (k:Nat) (hk:l.length + k0 + 3 < k):
 ((aY.f k l).bind fun t=>(some (!t)))=some (l.all (tD ρ)):=by
 unfold aY.f aG.f
 obtain ⟨r,hr,hd⟩:=TX l hm h l.length k 0 aA aA
 rw [List.drop_zero] at hd
 rw [show ((0:Nat):Int)=0 from rfl] at hr
 rw [hr]
 simp only [Option.bind_some,ge_iff_le]
 rw [hd,Br]
def pz (ρ:Pt→Bool) (m:Ml):Bool:=
 decide (1≤m.f0) && (decide (m.f0 < 1099511627776) && (sw m.f4 && (decide (m.f1.f1.length=0) && (ρ m.f1 && ((m.f1.f0 || !decide (m.f1.f2.f1.toList= [])) && (decide (m.f3.length≤524288) && (decide (1≤m.f2.length) && (decide (m.f2.length≤100) && m.f2.all (tD ρ)))))))))
structure ID (ρ:Pt→Bool) (k0:Nat) (m:Ml):Prop where
 frm:xd ρ k0 m.f1
 rcs:∀ r∈m.f2,xd ρ k0 ⟨false,[],r.f0⟩
theorem QZ {ρ:Pt→Bool} {k0:Nat} {m:Ml} (h:ID ρ k0 m) (hm:m.f2.length≤9223372036854775807) (k:Nat) (hk:k0 + 110≤k):
 (if (m.f3.length:Int) > 524288 then (some false) else (if (m.f2.length:Int)≥1 then (if (m.f2.length:Int)≤100 then ((aY.f k m.f2).bind fun t235=>(some (!t235))) else (some false)) else (some false)))=
   some (decide (m.f3.length≤524288) && (decide (1≤m.f2.length) && (decide (m.f2.length≤100) && m.f2.all (tD ρ)))):=by
 by_cases h1:m.f3.length≤524288
 ·rw [if_neg aA,decide_eq_true h1,Bool.true_and]
  by_cases h2: 1≤m.f2.length
  ·rw [if_pos aA,decide_eq_true h2,Bool.true_and]
   by_cases h3:m.f2.length≤100
   ·rw [if_pos aA,decide_eq_true h3,Bool.true_and,TY m.f2 hm h.rcs k aA]
   ·rw [if_neg aA,decide_eq_false h3];rfl
  ·rw [if_neg aA,decide_eq_false h2];rfl
 ·rw [if_pos aA,decide_eq_false h1];rfl
theorem PB {ρ:Pt→Bool} {k0:Nat} {m:Ml} (h:ID ρ k0 m) (hm:m.f2.length≤9223372036854775807) (k:Nat) (hk:k0 + 110≤k):
 fQ.f k m.f0 m.f1.f0 m.f1.f1 m.f1.f2.f0 m.f1.f2.f1 m.f1.f2.f2 m.f2 m.f3 m.f4=some (pz ρ m):=by
 unfold fQ.f pz
 by_cases h1: 1≤m.f0
 ·rw [if_neg aA,decide_eq_true h1,Bool.true_and]
  by_cases h2:m.f0 < 1099511627776
  ·rw [if_neg aA,decide_eq_true h2,Bool.true_and,IC [m.f4] cP k (by simp;omega)]
   simp only [Option.bind_some,List.all_cons,List.all_nil,Bool.and_true]
   cases sw m.f4 with
   |false=>rfl
   |true=>
    rw [if_pos rfl,Bool.true_and]
    by_cases h3:m.f1.f1.length=0
    ·rw [if_neg aA,decide_eq_true h3,Bool.true_and,h.frm k aA]
     simp only [Option.bind_some]
     cases ρ m.f1 with
     |false=>rfl
     |true=>
      rw [if_pos rfl,Bool.true_and]
      have ht:=QZ h hm k hk
      cases h4:m.f1.f0 with
      |true=>rw [if_pos rfl,Bool.true_or,Bool.true_and];exact ht
      |false=>
       rw [if_neg bB,Bool.false_or]
       by_cases h5:m.f1.f2.f1.toList= []
       ·rw [if_pos h5,decide_eq_true h5];rfl
       ·rw [if_neg h5,decide_eq_false h5,Bool.not_false,Bool.true_and];exact ht
    ·rw [if_pos aA,decide_eq_false h3];rfl
  ·rw [if_pos aA,decide_eq_false h2];rfl
 ·rw [if_pos aA,decide_eq_false h1];rfl
def jq (m:Ml):Bool:=decide (m.f0=0) && (decide (m.f4=0) && (!m.f1.f0 && (decide (m.f1.f1.length=0) && ((m.f1.f2.f0.toList == ([]:List UInt8) && (m.f1.f2.f1.toList == ([]:List UInt8) && (!m.f1.f2.f2))) && decide (m.f2.length + m.f3.length=0)))))
theorem yg (m:Ml) (h2:m.f2.length≤9223372036854775807) (h3:m.f3.length≤9223372036854775807):cY.f m.f0 m.f1.f0 m.f1.f1 m.f1.f2.f0 m.f1.f2.f1 m.f1.f2.f2 m.f2 m.f3 m.f4=some (jq m):=by
 unfold cY.f jq
 by_cases a:m.f0=0
 ·rw [if_pos a,decide_eq_true a,Bool.true_and]
  by_cases b:m.f4=0
  ·rw [if_pos b,decide_eq_true b,Bool.true_and]
   cases m.f1.f0 with
   |true=>rfl
   |false=>
    rw [if_neg bB,Bool.not_false,Bool.true_and]
    by_cases c:m.f1.f1.length=0
    ·rw [if_pos aA,decide_eq_true c,Bool.true_and]
     cases (m.f1.f2.f0.toList == ([]:List UInt8) && (m.f1.f2.f1.toList == ([]:List UInt8) && (!m.f1.f2.f2))) with
     |false=>rfl
     |true=>
      rw [if_pos rfl,Bool.true_and]
      congr 1
      rw [Bool.eq_iff_iff,beq_iff_eq,decide_eq_true_iff]
      unfold wrap64
      omega
    ·rw [if_neg aA,decide_eq_false c];rfl
  ·rw [if_neg b,decide_eq_false b];rfl
 ·rw [if_neg a,decide_eq_false a];rfl
def qH (ρ:Pt→Bool) (kind id at_ due:Int) (m:Ml):Bool:=
 [id,at_,due].all sw && (if kind=1 then decide (id + at_ + due=0) && pz ρ m else if kind=5 then decide (at_ + due=0) && (jq m || pz ρ m) else if kind=2 then jq m else if kind=3∨kind=4 then decide (due=0) && jq m else if kind=6 then decide (at_ + due=0) && jq m else false)
theorem Q0 {α:Type} (o:Option α):(o.bind fun t=>some t)=o:=by cases o<;>rfl
theorem change_eq {ρ:Pt→Bool} {k0:Nat} {m:Ml} (h:ID ρ k0 m) (h2:m.f2.length≤9223372036854775807) (h3:m.f3.length≤9223372036854775807) (kind id at_ due:Int) (k:Nat) (hk:k0 + 112≤k):
 cK.f k kind id at_ due m.f0 m.f1.f0 m.f1.f1 m.f1.f2.f0 m.f1.f2.f1 m.f1.f2.f2 m.f2 m.f3 m.f4=some (qH ρ kind id at_ due m):=by
 obtain ⟨k,rfl⟩:∃ j,k=j + 1:=⟨k - 1,aA⟩
 unfold cK.f qH
 rw [IC _ cP _ (by simp;omega)]
 simp only [Option.bind_some]
 cases ht: [id,at_,due].all sw with
 |false=>rfl
 |true=>
  have hb:(0≤id∧id≤1099511627776)∧(0≤at_∧at_≤1099511627776)∧(0≤due∧due≤1099511627776):=by simpa [sw] using ht
  rw [if_pos rfl,Bool.true_and]
  simp only [yg m h2 h3,PB h h2 (k + 1) aA,cK.j0,Option.bind_some,Q0]
  by_cases k1:kind=1
  ·rw [if_pos k1,if_pos k1]
   by_cases z:id + at_ + due=0
   ·rw [if_pos wF,decide_eq_true z,Bool.true_and]
   ·rw [if_neg wF,decide_eq_false z];rfl
  ·rw [if_neg k1,if_neg k1]
   by_cases k5:kind=5
   ·rw [if_pos k5,if_pos k5]
    by_cases z:at_ + due=0
    ·rw [if_pos wF,decide_eq_true z,Bool.true_and]
     cases jq m<;>rfl
    ·rw [if_neg wF,decide_eq_false z];rfl
   ·rw [if_neg k5,if_neg k5]
    by_cases k2:kind=2
    ·rw [if_pos k2,if_pos k2]
    ·rw [if_neg k2,if_neg k2]
     by_cases k3:kind=3
     ·subst k3
      simp
      by_cases z:due=0
      ·simp [z]
      ·simp [z]
     ·rw [if_neg k3]
      by_cases k4:kind=4
      ·subst k4
       simp
       by_cases z:due=0
       ·simp [z]
       ·simp [z]
      ·have e4:(kind == 4)=false:=by simpa using k4
       rw [e4,if_neg bB,if_neg (show ¬ (kind=3∨kind=4) by omega)]
       by_cases k6:kind=6
       ·rw [if_pos k6,if_pos k6]
        by_cases z:at_ + due=0
        ·rw [if_pos wF,decide_eq_true z,Bool.true_and]
        ·rw [if_neg wF,decide_eq_false z];rfl
       ·rw [if_neg k6,if_neg k6]
theorem Ks (ms:List Ml) (hl:ms.length≤1034834473200) (ho:∀ m∈ms,rP m) (n:Int):∀ (d k i:Nat),i + d=ms.length→d < k→
 cy.l0 k ms (ms.length:Int) (i:Int) n (ms.take i)=some (n,ms):=by
 intro d
 induction d with
 |zero=>
  intro k i hi hk
  obtain ⟨k,rfl⟩:∃ m,k=m + 1:=⟨k - 1,aA⟩
  simp only [cy.l0]
  rw [if_neg aA,List.take_of_length_le aA]
 |succ d ih=>
  intro k i hi hk
  obtain ⟨k,rfl⟩:∃ m,k=m + 1:=⟨k - 1,aA⟩
  have hlt:i < ms.length:=by omega
  have hrd:aj ms (i:Int)=ms[i]:=by unfold aj;simp [List.getD_eq_getElem?_getD,List.getElem?_eq_getElem hlt]
  have hw:wrap64 ((i:Int) + 1)=((i + 1:Nat):Int):=by unfold wrap64;omega
  simp only [cy.l0]
  rw [if_pos aA,if_pos aA,if_pos aA,hrd,DV (ho _ (List.getElem_mem hlt))]
  simp only [Option.bind_some]
  rw [if_pos (by rw [List.length_take];omega),hw]
  have h1:=ih k (i + 1) aA aA
  rw [List.take_succ_eq_append_getElem hlt] at h1
  exact h1
theorem copied_eq (ms:List Ml) (hl:ms.length≤1034834473200) (ho:∀ m∈ms,rP m) (n:Int) (k:Nat) (hk:ms.length < k):cy.f k n ms=some (n,ms):=by
 unfold cy.f
 have h:=Ks ms hl ho n ms.length k 0 aA hk
 rw [List.take_zero] at h
 exact h
end Go.Proofs.YtbjjaaodfbjkfaaGreatDoor.vD
namespace Go.Proofs.YtbjjaaodfbjkfaaGreatDoor.TZ
open Go.RowKit Go.Proofs.YtbjjaaodfbjkfaaGreatDoor Go.Proofs.YtbjjaaodfbjkfaaGreatDoor.mN Go.Proofs.ak.bQ Go.Proofs.ak.cX
set_option linter.unusedVariables false
set_option linter.unusedSimpArgs false
def rest (s:ByteArray) (p:Nat):List UInt8:=s.data.toList.drop p
theorem nW (s:ByteArray) (p:Nat):(rest s p).length=s.size - p:=by
 unfold rest
 rw [List.length_drop,iX]
theorem Ea (s:ByteArray) (p n:Nat):rest s (p + n)=(rest s p).drop n:=by
 unfold rest
 rw [List.drop_drop]
theorem Fi {s:ByteArray} {p:Nat} {b:UInt8} {l:List UInt8} (h:rest s p=b :: l):p < s.size∧bt s (p:Int)=(b.toNat:Int)∧rest s (p + 1)=l:=by
 have hlen:=nW s p
 rw [h] at hlen
 have hp:p < s.size:=by simp at hlen;omega
 refine ⟨hp,?_,?_⟩
 ·have h0:(rest s p)[0]? =some b:=by rw [h];rfl
  unfold rest at h0
  rw [List.getElem?_drop] at h0
  unfold bt
  have hp':((p:Int)).toNat < s.size:=by omega
  rw [dif_pos hp']
  have h1:s[((p:Int)).toNat]'hp'=b:=by
   have h2:s.data.toList[p]? =some b:=by simpa using h0
   rw [List.getElem?_eq_getElem (by rw [iX];exact hp)] at h2
   have h3:=Option.some.inj h2
   rw [← h3]
   simp [ByteArray.getElem_eq_getElem_data]
  rw [h1]
 ·rw [Ea,h]
  rfl
theorem Kt {s:ByteArray} {p:Nat} (h:rest s p= []):s.size≤p:=by
 have hlen:=nW s p
 rw [h] at hlen
 simp at hlen
 omega
theorem qI (s:ByteArray) (p q:Nat) (_h:p≤q):s.extract p q=cS ((rest s p).take (q - p)):=by
 apply ByteArray.ext
 rw [← Array.toList_inj]
 simp [cS,rest]
theorem wm {α:Type} (P:α→Bool):∀ l:List α,l.take (l.takeWhile P).length=l.takeWhile P
 | []=>rfl
 |b :: l=>by
  by_cases hb:P b=true
  ·simp [hb,wm P l]
  ·simp [hb]
theorem Fj (n:Nat) (h:n < 4611686018427387904):wrap64 ((n:Int) + 1)=((n + 1:Nat):Int):=by unfold wrap64;omega
def qX (c:UInt8):List UInt8→Bool
 | []=>false
 |b :: _ =>b == c
theorem YJ (s:ByteArray) (p:Nat) (c:UInt8) (ci:Int) (hc:ci=(c.toNat:Int)) (hs:s.size < 4611686018427387904):
 ji.f s (p:Int) ci=some (qX c (rest s p),s,(((if qX c (rest s p)=true then p + 1 else p):Nat):Int)):=by
 subst hc
 unfold ji.f
 cases hr:rest s p with
 |nil=>
  have:=Kt hr
  rw [if_neg aA]
  rfl
 |cons b l=>
  obtain ⟨h1,h2,_⟩:=Fi hr
  rw [if_pos aA,if_pos aA,h2]
  by_cases hb:b=c
  ·subst hb
   rw [if_pos rfl,Fj p aA]
   simp [qX]
  ·rw [if_neg (by intro h;exact hb (UInt8.toNat_inj.mp aA))]
   simp [qX,hb]
def yh (b:UInt8):Bool:=(fK.f (b.toNat:Int)).getD false
theorem YK (b:UInt8):fK.f (b.toNat:Int)=some (yh b):=by
 unfold yh
 have h:(fK.f (b.toNat:Int)).isSome=true:=by
  have h2:∀ n,n < 256→(fK.f ((n:Nat):Int)).isSome=true:=by decide +kernel
  exact h2 _ (UInt8.toNat_lt b)
 cases hf:fK.f (b.toNat:Int) with
 |none=>rw [hf] at h;cases h
 |some x=>rfl
theorem PC (s:ByteArray) (hs:s.size < 4611686018427387904) (a:Nat):∀ (k p:Nat),(rest s p).length < k→a≤p→p≤s.size→
 aQ.l0 k (a:Int) s (p:Int)=some (s.extract a (p + ((rest s p).takeWhile yh).length),decide (a < p + ((rest s p).takeWhile yh).length),s,((p + ((rest s p).takeWhile yh).length:Nat):Int))
 | 0,p,h,_,_ =>absurd h (Nat.not_lt_zero _)
 |k + 1,p,h,ha,hp=>by
  unfold aQ.l0
  cases hr:rest s p with
  |nil=>
   have:=Kt hr
   rw [if_neg aA,if_pos aA,if_pos aA,if_pos aA]
   simp
   try exact decide_eq_decide.mpr Iff.rfl
  |cons c l=>
   obtain ⟨h1,h2,h3⟩:=Fi hr
   rw [if_pos aA,if_pos aA,h2,YK]
   simp only [Option.bind_some]
   by_cases hb:yh c=true
   ·rw [if_pos hb,Fj p aA,PC s hs a k (p + 1) (by rw [h3];rw [hr] at h;simp at h;omega) aA aA,h3]
    have e:p + 1 + (l.takeWhile yh).length=p + ((c :: l).takeWhile yh).length:=by simp [hb];omega
    rw [e]
   ·rw [if_neg hb,if_pos aA,if_pos aA,if_pos aA]
    simp [hb]
theorem acU (s:ByteArray) (hs:s.size < 4611686018427387904) (k p:Nat) (hk:(rest s p).length < k) (hp:p≤s.size):
 aQ.f k s (p:Int)=some (cS ((rest s p).takeWhile yh),decide (0 < ((rest s p).takeWhile yh).length),s,((p + ((rest s p).takeWhile yh).length:Nat):Int)):=by
 unfold aQ.f
 rw [PC s hs p k p hk (Nat.le_refl _) hp,qI _ _ _ aA,Nat.add_sub_cancel_left,wm]
 congr 2
 simp
theorem T4 (l:List UInt8) (i:Nat) (h:i < l.length):bt (cS l) (i:Int)=((l.getD i 0).toNat:Int):=by
 unfold bt
 have h':((i:Int)).toNat < (cS l).size:=by show _ < l.length;omega
 rw [dif_pos h']
 have:(cS l)[((i:Int)).toNat]'(h')=l.getD i 0:=by
  simp only [Int.toNat_natCast]
  rw [List.getD_eq_getElem?_getD,List.getElem?_eq_getElem h]
  rfl
 rw [this]
theorem iq (l:List UInt8):(cS l).size=l.length:=rfl
theorem zE {α:Type} (P:α→Bool) (l:List α):(l.takeWhile P).length≤l.length:=(List.takeWhile_sublist P).length_le
def jM (l:List UInt8):Bool×Nat:=
 (match l.takeWhile yh with
  | []=>false
  |c :: t=>c != 45 && (c :: t).getD t.length 0 != 45,(l.takeWhile yh).length)
theorem toNat_eq {a b:UInt8} (h:(a.toNat:Int)=(b.toNat:Int)):a=b:=UInt8.toNat_inj.mp aA
theorem label_eq (s:ByteArray) (hs:s.size < 4611686018427387904) (k p:Nat) (hk:(rest s p).length < k) (hp:p≤s.size):
 eZ.f k s (p:Int)=some ((jM (rest s p)).1,s,((p + (jM (rest s p)).2:Nat):Int)):=by
 unfold eZ.f jM
 rw [acU s hs k p hk hp]
 simp only [Option.bind_some]
 have hle:=zE yh (rest s p)
 have hrl:=nW s p
 generalize (rest s p).takeWhile yh=w at hle ⊢
 cases w with
 |nil=>simp
 |cons c t=>
  have h0:bt (cS (c :: t)) 0=(c.toNat:Int):=T4 (c :: t) 0 cP
  have e1:wrap64 (((cS (c :: t)).size:Int) - 1)=(t.length:Int):=by
   rw [iq]
   unfold wrap64
   simp at hle ⊢
   omega
  have h1:bt (cS (c :: t)) (t.length:Int)=(((c :: t).getD t.length 0).toNat:Int):=T4 (c :: t) t.length cP
  rw [if_pos cP,if_pos (by rw [iq];first|(simp;done)|(simp;omega)),h0,e1,h1]
  by_cases hc:c=45
  ·subst hc
   rw [if_pos (show ((UInt8.toNat 45:Nat):Int)=45 from rfl)]
   simp
  ·rw [if_neg (show ¬ (c.toNat:Int)=45 from fun h=>hc (toNat_eq (b:=45) h)),if_pos aA,if_pos (by rw [iq];first|(simp;done)|(simp;omega))]
   have:((((c :: t).getD t.length 0).toNat:Int) != 45)=((c :: t).getD t.length 0 != 45):=by
    by_cases hl:(c :: t).getD t.length 0=45
    ·rw [hl];rfl
    ·rw [bne_iff_ne.mpr hl,bne_iff_ne.mpr (show (((c :: t).getD t.length 0).toNat:Int)≠45 from fun h=>hl (toNat_eq (b:=45) h))]
   rw [this]
   simp [hc]
theorem Fk (l:List UInt8):(jM l).2≤l.length:=zE _ _
def Eb (part:List UInt8→Bool×Nat) (c:UInt8):Nat→List UInt8→Bool×Nat
 | 0,_ =>(false,0)
 |n + 1,l=>if (part l).1=true then (if qX c (l.drop (part l).2)=true then ((Eb part c n (l.drop ((part l).2 + 1))).1,(part l).2 + 1 + (Eb part c n (l.drop ((part l).2 + 1))).2) else (true,(part l).2)) else (false,(part l).2)
def ny (part:List UInt8→Bool×Nat) (c:UInt8) (l:List UInt8):Bool×Nat:=Eb part c (l.length + 1) l
theorem sx {c:UInt8} {l:List UInt8} {n:Nat} (h:qX c (l.drop n)=true):n < l.length:=by
 rcases Nat.lt_or_ge n l.length with h1|h1
 ·exact h1
 ·rw [List.drop_of_length_le h1] at h
  cases h
theorem Fl (part:List UInt8→Bool×Nat) (c:UInt8):∀ (n m:Nat) (l:List UInt8),l.length < n→l.length < m→Eb part c n l=Eb part c m l
 | 0,_,_,h,_ =>absurd h (Nat.not_lt_zero _)
 |_,0,_,_,h=>absurd h (Nat.not_lt_zero _)
 |n + 1,m + 1,l,h1,h2=>by
  unfold Eb
  by_cases hp:(part l).1=true
  ·rw [if_pos hp,if_pos hp]
   by_cases hn:qX c (l.drop (part l).2)=true
   ·have:=sx hn
    rw [if_pos hn,if_pos hn,Fl part c n m _ wC wC]
   ·rw [if_neg hn,if_neg hn]
  ·rw [if_neg hp,if_neg hp]
theorem Ku (part:List UInt8→Bool×Nat) (c:UInt8) (l:List UInt8):
 ny part c l=if (part l).1=true then (if qX c (l.drop (part l).2)=true then ((ny part c (l.drop ((part l).2 + 1))).1,(part l).2 + 1 + (ny part c (l.drop ((part l).2 + 1))).2) else (true,(part l).2)) else (false,(part l).2):=by
 unfold ny
 rw [Eb]
 by_cases hp:(part l).1=true
 ·rw [if_pos hp,if_pos hp]
  by_cases hn:qX c (l.drop (part l).2)=true
  ·have:=sx hn
   rw [if_pos hn,if_pos hn,Fl part c l.length ((l.drop ((part l).2 + 1)).length + 1) _ wC aA]
  ·rw [if_neg hn,if_neg hn]
 ·rw [if_neg hp,if_neg hp]
theorem Kv (part:List UInt8→Bool×Nat) (c:UInt8) (hpart:∀ l,(part l).2≤l.length):∀ (n:Nat) (l:List UInt8),l.length < n→(ny part c l).2≤l.length
 | 0,_,h=>absurd h (Nat.not_lt_zero _)
 |n + 1,l,h=>by
  rw [Ku]
  have hl:=hpart l
  by_cases hp:(part l).1=true
  ·rw [if_pos hp]
   by_cases hn:qX c (l.drop (part l).2)=true
   ·have h1:=sx hn
    have h2:=Kv part c hpart n (l.drop ((part l).2 + 1)) wC
    rw [List.length_drop] at h2
    rw [if_pos hn]
    show _ + 1 + _≤_
    omega
   ·rw [if_neg hn]
    exact hl
  ·rw [if_neg hp]
   exact hl
theorem Ec (s:ByteArray) (hs:s.size < 4611686018427387904):∀ (k p:Nat),(rest s p).length + 1 < k→p≤s.size→
 aX.l0 k 46 s (p:Int)=some ((ny jM 46 (rest s p)).1,s,((p + (ny jM 46 (rest s p)).2:Nat):Int))
 | 0,p,h,_ =>absurd h aA
 |k + 1,p,h,hp=>by
  have hle:=Fk (rest s p)
  have hrl:=nW s p
  unfold aX.l0
  rw [label_eq s hs k p aA hp,Ku]
  simp only [Option.bind_some]
  by_cases h1:(jM (rest s p)).1=true
  ·rw [if_pos h1,if_pos h1,YJ s _ 46 46 rfl hs]
   simp only [Option.bind_some,Ea]
   by_cases h2:qX 46 ((rest s p).drop (jM (rest s p)).2)=true
   ·have h3:=sx h2
    rw [if_pos h2,if_pos h2,if_pos h2]
    have h4:=Ec s hs k (p + (jM (rest s p)).2 + 1) (by rw [nW];omega) aA
    rw [h4,Nat.add_assoc p,Ea]
    congr 3
    omega
   ·rw [if_neg h2,if_neg h2,if_neg h2]
  ·rw [if_neg h1,if_neg h1]
def Mb (l:List UInt8):Bool×ByteArray×Nat:=((ny jM 46 l).1,eW.g (cS (l.take (ny jM 46 l).2)),(ny jM 46 l).2)
theorem YL (l:List UInt8):(Mb l).2.2≤l.length:=Kv jM 46 Fk _ l (Nat.lt_succ_self _)
theorem domain_eq (s:ByteArray) (hs:s.size < 4611686018427387904) (k p:Nat) (hk:(rest s p).length + 1 < k) (hp:p≤s.size):
 cF.f k s (p:Int)=some ((Mb (rest s p)).2.1,(Mb (rest s p)).1,s,((p + (Mb (rest s p)).2.2:Nat):Int)):=by
 have hle:=YL (rest s p)
 have hrl:=nW s p
 unfold Mb at hle ⊢
 simp only at hle ⊢
 unfold cF.f aX.f
 rw [Ec s hs k p hk hp]
 simp only [Option.bind_some]
 rw [if_pos aA,if_pos aA,if_pos aA]
 have e:s.extract ((p:Int)).toNat (((p + (ny jM 46 (rest s p)).2:Nat):Int)).toNat=cS ((rest s p).take (ny jM 46 (rest s p)).2):=by
  rw [Int.toNat_natCast,Int.toNat_natCast,qI _ _ _ aA,Nat.add_sub_cancel_left]
 rw [e]
 have hf:eW.f (cS ((rest s p).take (ny jM 46 (rest s p)).2))=some (eW.g (cS ((rest s p).take (ny jM 46 (rest s p)).2))):=by
  unfold eW.f
  rw [if_pos]
  rw [iq,List.length_take]
  omega
 rw [hf]
 rfl
theorem ltI {b c:UInt8}:((b.toNat:Int) < (c.toNat:Int))↔b < c:=by
 rw [UInt8.lt_iff_toNat_lt]
 omega
theorem aiR {b:UInt8}:((b.toNat:Int) < 32)↔b < 32:=ltI (c:=32)
theorem aaK {b:UInt8}:((b.toNat:Int) > 126)↔126 < b:=ltI (b:=126)
theorem zF (k0:Nat) {xs:List ByteArray} (hf:∀ y,y∈xs→∀ k,k0≤k→∃ r,lM.f y=some r):∀ (k i:Nat),xs.length - i + k0 < k→i≤xs.length→xs.length < 4611686018427387904→∃ r,aK.l0 k xs (xs.length:Int) (i:Int)=some r
 | 0,_,h,_,_ =>absurd h (Nat.not_lt_zero _)
 |k + 1,i,h,hi,hl=>by
  unfold aK.l0
  by_cases hlt:i < xs.length
  ·rw [if_pos aA,if_pos aA,if_pos aA]
   have hrd:nj ByteArray.empty xs (i:Int)=xs[i]:=by simp [nj,hlt]
   obtain ⟨r,hr⟩:=hf xs[i] (List.getElem_mem hlt) k aA
   rw [hrd,hr]
   simp only [Option.bind_some]
   split
   ·exact ⟨_,rfl⟩
   ·rw [Fj i aA]
    exact zF k0 hf k (i + 1) aA aA hl
  ·rw [if_neg aA]
   exact ⟨_,rfl⟩
theorem EM (k0 k:Nat) {xs:List ByteArray} (hf:∀ y,y∈xs→∀ k,k0≤k→∃ r,lM.f y=some r) (hk:xs.length + k0 < k) (hl:xs.length < 4611686018427387904):∃ r,aK.f k xs=some r:=zF k0 hf k 0 aA (Nat.zero_le _) hl
theorem Ed (x:ByteArray) (c:UInt8) (hx:x.size < 4294967281):strings_Split.f x ⟨#[c]⟩=some ((pieces c x.data.toList).map cS):=by
 unfold strings_Split.f
 rw [show one? ⟨#[c]⟩=some c from rfl]
 simp only [if_pos hx]
theorem Mc (c:UInt8) (x:ByteArray):((pieces c x.data.toList).map cS).length≤x.size + 1:=by
 rw [List.length_map,nu]
 have:=List.count_le_length (a:=c) (l:=x.data.toList)
 rw [iX] at this
 omega
theorem Md (x:ByteArray) (k:Nat) (hk:x.size + 2 < k):∃ r,gj.f k x=some r:=by
 unfold gj.f
 split
 ·rename_i h
  have hn:=Mc 46 x
  rw [Ed x 46 aA]
  simp only [Option.bind_some]
  obtain ⟨r,hr⟩:=EM 0 k (xs:=(pieces 46 x.data.toList).map cS) (fun y _ _ _ =>⟨_,rfl⟩) aA aA
  unfold bS.f
  rw [hr]
  exact ⟨_,rfl⟩
 ·exact ⟨_,rfl⟩
def Agree (n:Nat) (l l2:List UInt8):Prop:=l2.take (n + 1)=l.take (n + 1)
theorem Agree.le {n m:Nat} {l l2:List UInt8} (h:Agree n l l2) (hm:m≤n):Agree m l l2:=by
 unfold Agree at h ⊢
 have:=congrArg (List.take (m + 1)) h
 rwa [List.take_take,List.take_take,Nat.min_eq_left aA] at this
theorem Agree.drop {n a:Nat} {l l2:List UInt8} (h:Agree (a + n) l l2):Agree n (l.drop a) (l2.drop a):=by
 unfold Agree at h ⊢
 rw [List.take_drop,List.take_drop,show a + (n + 1)=a + n + 1 from rfl,h]
theorem Agree.take {n m:Nat} {l l2:List UInt8} (h:Agree n l l2) (hm:m≤n + 1):l2.take m=l.take m:=by
 cases m with
 |zero=>simp
 |succ m=>exact h.le aA
def Ee (b:UInt8):UInt8:=UInt8.ofNat (Gb (b.toNat:Int)).toNat
theorem Kw (l:List UInt8):eW.g (cS l)=cS (l.map Ee):=by
 unfold eW.g strOfNums bytesOf cS
 congr 1
 simp only [List.map_map]
 rfl
def acV (b:UInt8):Prop:=¬ (b < 32∨126 < b)
instance (b:UInt8):Decidable (acV b):=by unfold acV;infer_instance
def xB (d:List UInt8):Prop:=ny jM 46 d=(true,d.length)∧d.map Ee=d
theorem Fm {g:ByteArray→Bool} {xs:List ByteArray} (hf:∀ y,y∈xs→gW.f y=some (g y)):∀ (k i:Nat),xs.length - i < k→i≤xs.length→xs.length < 4611686018427387904→
 ∃ r,aI.l0 k xs (xs.length:Int) (i:Int)=some r∧decide (r≥0)=(xs.drop i).any g
 | 0,_,h,_,_ =>absurd h (Nat.not_lt_zero _)
 |k + 1,i,h,hi,hl=>by
  unfold aI.l0
  by_cases hlt:i < xs.length
  ·rw [if_pos aA,if_pos aA,if_pos aA]
   have hrd:nj ByteArray.empty xs (i:Int)=xs[i]:=by simp [nj,hlt]
   have hd:xs.drop i=xs[i] :: xs.drop (i + 1):=List.drop_eq_getElem_cons hlt
   rw [hrd,hf xs[i] (List.getElem_mem hlt),hd,List.any_cons]
   simp only [Option.bind_some]
   cases hg:g xs[i] with
   |true=>exact ⟨_,if_pos rfl,cP⟩
   |false=>
    rw [if_neg bB,Fj i aA]
    obtain ⟨r,h1,h2⟩:=Fm hf k (i + 1) aA aA hl
    exact ⟨r,h1,by rw [h2];rfl⟩
  ·rw [if_neg aA,List.drop_of_length_le aA]
   exact ⟨_,rfl,rfl⟩
theorem acW {g:ByteArray→Bool} {xs:List ByteArray} (hf:∀ y,y∈xs→gW.f y=some (g y)) (k:Nat) (hk:xs.length < k) (hl:xs.length < 4611686018427387904):bL.f k xs=some (xs.any g):=by
 obtain ⟨r,h1,h2⟩:=Fm hf k 0 aA (Nat.zero_le _) hl
 unfold bL.f aI.f
 rw [show (0:Int)=((0:Nat):Int) from rfl,h1]
 simp only [Option.bind_some]
 rw [show decide (r≥((0:Nat):Int))=decide (r≥0) from rfl,h2,List.drop_zero]
def C7 (l:List UInt8):Bool:=(pu 10 255 (cS l)).isNone || decide (3 < l.length)
def xp (l:List UInt8):Int:=if l.length=0 then 0 else if (pieces 58 l).any (fun p=>nv (cS p)) then -1 else ((pieces 58 l).length:Int)
def YM (l:List UInt8):Bool:=
 if (Lib.cut l [58,58]).2.2=true then (decide (0≤xp (Lib.cut l [58,58]).1) && (decide (0≤xp (Lib.cut l [58,58]).2.1) && decide (xp (Lib.cut l [58,58]).1 + xp (Lib.cut l [58,58]).2.1≤6)))
 else xp (Lib.cut l [58,58]).1 == 8
def T6 (l:List UInt8):Bool:=decide ((pieces 46 l).length=4) && !((pieces 46 l).any C7)
def Ef (l:List UInt8):Bool:=decide (5 < l.length) && ((l.take 5).map Ee == [105,112,118,54,58])
def YN (l:List UInt8):Bool:=if Ef l=true then YM (l.drop 5) else T6 l
theorem Fp (l:List UInt8) (hl:l.length < 4294967281):fP.f (cS l)=some (xp l):=by
 unfold fP.f xp
 rw [if_pos (by exact hl)]
 congr 1
 rw [iq]
 by_cases h0:l.length=0
 ·rw [if_pos h0,if_pos h0]
 ·rw [if_neg h0,if_neg h0]
  rw [List.any_map]
  rfl
theorem Eg (c:UInt8) (l:List UInt8):(pieces c l).length≤l.length + 1:=by
 rw [nu]
 have:=List.count_le_length (a:=c) (l:=l)
 omega
theorem Bt (l:List UInt8): -1≤xp l∧xp l≤l.length + 1:=by
 have h:=Eg 58 l
 unfold xp
 split
 ·omega
 ·split
  ·omega
  ·omega
theorem YO (l:List UInt8):(Lib.cut l [58,58]).1.length≤l.length∧(Lib.cut l [58,58]).2.1.length≤l.length:=by
 unfold Lib.cut
 split
 ·refine ⟨?_,?_⟩
  ·rw [List.length_take];omega
  ·rw [List.length_drop];omega
 ·exact ⟨Nat.le_refl _,Nat.zero_le _⟩
theorem acX (l:List UInt8) (hl:l.length < 4294967281):tu.f (cS l)=some (YM l):=by
 obtain ⟨h1,h2⟩:=YO l
 have g1:=Bt (Lib.cut l [58,58]).1
 have g2:=Bt (Lib.cut l [58,58]).2.1
 unfold tu.f strings_Cut.f
 rw [if_pos (by exact hl)]
 simp only [Option.bind_some]
 show ((fP.f (cS (Lib.cut l [58,58]).1)).bind fun t151=>((fP.f (cS (Lib.cut l [58,58]).2.1)).bind fun t152=>_))=some (YM l)
 rw [Fp _ aA,Fp _ aA]
 simp only [Option.bind_some]
 show (if (Lib.cut l [58,58]).2.2=true then _ else _)=_
 unfold YM
 by_cases hg:(Lib.cut l [58,58]).2.2=true
 ·rw [if_pos hg,if_pos hg]
  by_cases ha: 0≤xp (Lib.cut l [58,58]).1
  ·rw [if_pos aA,decide_eq_true ha,Bool.true_and]
   by_cases hb: 0≤xp (Lib.cut l [58,58]).2.1
   ·rw [if_pos aA,decide_eq_true hb,Bool.true_and]
    have e:wrap64 (xp (Lib.cut l [58,58]).1 + xp (Lib.cut l [58,58]).2.1)=xp (Lib.cut l [58,58]).1 + xp (Lib.cut l [58,58]).2.1:=by unfold wrap64;omega
    rw [e]
   ·rw [if_neg aA,decide_eq_false hb,Bool.false_and]
  ·rw [if_neg aA,decide_eq_false ha,Bool.false_and]
 ·rw [if_neg hg,if_neg hg]
theorem T7 (l:List UInt8) (hl:l.length < 4294967281):gW.f (cS l)=some (C7 l):=by
 unfold gW.f C7
 rw [if_pos qz]
 rfl
theorem Ua (c:UInt8) (l x:List UInt8) (h:x∈pieces c l):x.length≤l.length:=oD c l x h
theorem Me (l:List UInt8) (hl:l.length < 4294967281) (k:Nat) (hk:l.length + 4 < k):cV.f k (cS l)=some (YN l):=by
 obtain ⟨k,rfl⟩:∃ k',k=k' + 1:=⟨k - 1,aA⟩
 have aaL:cV.j0 (k + 1) (cS l) false=some (T6 l):=by
  rw [cV.j0,if_neg bB,Ed _ 46 (by rw [iq];exact hl)]
  simp only [Option.bind_some]
  show (if (((pieces 46 l).map cS).length:Int)=4 then _ else _)=_
  unfold T6
  have hp:=Eg 46 l
  by_cases h4:(pieces 46 l).length=4
  ·rw [if_pos wD,decide_eq_true h4,Bool.true_and]
   have ha:=acW (g:=fun y=>C7 y.data.toList) (xs:=(pieces 46 l).map cS) (fun y hy=>by
    obtain ⟨p,hp,rfl⟩:=List.mem_map.mp hy
    have:=Ua 46 l p hp
    exact T7 p aA) k wD wD
   show ((bL.f k ((pieces 46 l).map cS)).bind _)=_
   rw [ha]
   simp only [Option.bind_some]
   rw [List.any_map]
   rfl
  ·rw [if_neg wD,decide_eq_false h4,Bool.false_and]
 unfold cV.f YN
 rw [iq]
 by_cases h5: 5 < l.length
 ·rw [if_pos aA,if_pos bB,if_pos aA]
  have e1:(cS l).extract 0 5=cS (l.take 5):=by
   have:=qI (cS l) 0 5 aA
   exact this
  have hf:eW.f (cS (l.take 5))=some (cS ((l.take 5).map Ee)):=by
   unfold eW.f
   rw [if_pos (by rw [iq,List.length_take];omega),Kw]
  rw [e1,hf]
  simp only [Option.bind_some]
  rw [show (cS ((l.take 5).map Ee)).toList=(l.take 5).map Ee from ByteArray.toList_eq ..]
  have hi:Ef l=((l.take 5).map Ee == [105,112,118,54,58]):=by unfold Ef;rw [decide_eq_true h5,Bool.true_and]
  rw [← hi]
  cases hs:Ef l with
  |true=>
   rw [if_pos rfl,cV.j0,if_pos rfl,if_pos qz]
   have e2:(cS l).extract 5 (cS l).size=cS (l.drop 5):=by
    rw [qI (cS l) 5 (cS l).size qz,iq]
    congr 1
    show (l.drop 5).take (l.length - 5)=l.drop 5
    exact List.take_of_length_le wC
   rw [e2,acX _ wC]
   rfl
  |false=>
   rw [if_neg bB]
   exact aaL
 ·rw [if_neg aA,aaL,if_neg (by unfold Ef;rw [decide_eq_false h5];simp)]
def pJ (x:ByteArray):Bool:=(gj.f (x.size + 3) x).getD false
theorem Ky (x:ByteArray) (k:Nat) (hk:x.size + 2 < k):gj.f k x=some (pJ x):=by
 obtain ⟨r,hr⟩:=Md x (x.size + 3) aA
 have h1:pJ x=r:=by unfold pJ;rw [hr];rfl
 rw [h1]
 exact Aa (fun k=>gj.mono x k) aA hr
theorem Bu {g:ByteArray→Bool} {k0:Nat} {xs:List ByteArray} (hf:∀ y,y∈xs→∀ k,k0≤k→gK.f k y=some (g y)):∀ (k i:Nat),xs.length - i + k0 < k→i≤xs.length→xs.length < 4611686018427387904→
 ∃ r,aM.l0 k xs (xs.length:Int) (i:Int)=some r∧decide (r≥0)=(xs.drop i).any g
 | 0,_,h,_,_ =>absurd h (Nat.not_lt_zero _)
 |k + 1,i,h,hi,hl=>by
  unfold aM.l0
  by_cases hlt:i < xs.length
  ·rw [if_pos aA,if_pos aA,if_pos aA]
   have hrd:nj ByteArray.empty xs (i:Int)=xs[i]:=by simp [nj,hlt]
   have hd:xs.drop i=xs[i] :: xs.drop (i + 1):=List.drop_eq_getElem_cons hlt
   rw [hrd,hf xs[i] (List.getElem_mem hlt) k aA,hd,List.any_cons]
   simp only [Option.bind_some]
   cases hg:g xs[i] with
   |true=>exact ⟨_,if_pos rfl,cP⟩
   |false=>
    rw [if_neg bB,Fj i aA]
    obtain ⟨r,h1,h2⟩:=Bu hf k (i + 1) aA aA hl
    exact ⟨r,h1,by rw [h2];rfl⟩
  ·rw [if_neg aA,List.drop_of_length_le aA]
   exact ⟨_,rfl,rfl⟩
theorem Ub {g:ByteArray→Bool} {k0:Nat} {xs:List ByteArray} (hf:∀ y,y∈xs→∀ k,k0≤k→gK.f k y=some (g y)) (k:Nat) (hk:xs.length + k0 < k) (hl:xs.length < 4611686018427387904):bF.f k xs=some (xs.any g):=by
 obtain ⟨r,h1,h2⟩:=Bu hf k 0 aA (Nat.zero_le _) hl
 unfold bF.f aM.f
 rw [show (0:Int)=((0:Nat):Int) from rfl,h1]
 simp only [Option.bind_some]
 rw [show decide (r≥((0:Nat):Int))=decide (r≥0) from rfl,h2,List.drop_zero]
theorem Fq (lo dom:List UInt8) (lit:Bool) (k:Nat) (hk:dom.length + 2 < k):gz.f k (cS lo) (cS dom) lit=some (decide (lo.length≤64) && (lit || pJ (cS dom))):=by
 unfold gz.f
 rw [iq]
 by_cases h:lo.length≤64
 ·rw [if_pos aA,decide_eq_true h,Bool.true_and]
  cases lit with
  |true=>rfl
  |false=>
   rw [if_neg bB,Ky _ k (by rw [iq];exact hk)]
   rfl
 ·rw [if_neg aA,decide_eq_false h]
  rfl
theorem PD (l:List UInt8):rest (cS l) 0=l:=rfl
theorem toList_mk (l:List UInt8):(cS l).toList=l:=ByteArray.toList_eq ..
theorem Mf (d:List UInt8) (hl:d.length < 4294967281) (k:Nat) (hk:d.length + 3 < k):iy.f k (cS d)=some (decide (ny jM 46 d=(true,d.length)) && pJ (cS d)):=by
 unfold iy.f
 have h1:=domain_eq (cS d) qz k 0 (by rw [PD];omega) (Nat.zero_le _)
 rw [PD] at h1
 rw [show (0:Int)=((0:Nat):Int) from rfl,h1]
 simp only [Option.bind_some,Nat.zero_add]
 have e1:(Mb d).1=(ny jM 46 d).1:=rfl
 have e2:(Mb d).2.2=(ny jM 46 d).2:=rfl
 rw [e1,e2]
 by_cases h2:(ny jM 46 d).1=true
 ·rw [if_pos h2]
  by_cases h3:(ny jM 46 d).2=d.length
  ·rw [if_pos qz,Ky _ k qz,decide_eq_true (Prod.ext h2 h3)]
   rfl
  ·rw [if_neg qz,decide_eq_false (fun e=>h3 (by rw [e]))]
   rfl
 ·rw [if_neg h2,decide_eq_false (fun e=>h2 (by rw [e]))]
  rfl
theorem Fu (d:List UInt8) (hl:d.length < 4294967281):eW.f (cS d)=some (cS (d.map Ee)):=by
 unfold eW.f
 rw [if_pos qz,Kw]
instance (d:List UInt8):Decidable (xB d):=by unfold xB;infer_instance
theorem Kz (d:List UInt8) (hl:d.length < 4294967281) (k:Nat) (hk:d.length + 3 < k):jk.f k (cS d)=some (decide (xB d) && pJ (cS d)):=by
 unfold jk.f
 rw [Mf d hl k hk]
 simp only [Option.bind_some]
 by_cases h1:ny jM 46 d=(true,d.length)
 ·rw [decide_eq_true h1,Bool.true_and]
  cases hs:pJ (cS d) with
  |true=>
   rw [if_pos rfl,Fu d hl]
   simp only [Option.bind_some]
   rw [toList_mk,toList_mk,Bool.and_true]
   by_cases h2:d.map Ee=d
   ·rw [h2,decide_eq_true ⟨h1,h2⟩]
    simp
   ·rw [decide_eq_false (fun h:xB d=>h2 h.2)]
    simp [h2]
  |false=>
   rw [if_neg bB,Bool.and_false]
 ·rw [decide_eq_false h1,Bool.false_and,if_neg bB,decide_eq_false (fun h:xB d=>h1 h.1)]
  rfl
def IE (lo dom:List UInt8) (lit:Bool):Bool:=
 decide (lo.length≤64) && (if lit=true then YN dom && decide (dom.map Ee=dom) else pJ (cS dom) && decide (xB dom))
def KA (b:UInt8):Bool:=decide (acV b)
theorem Fv (lo dom:List UInt8) (lit:Bool) (hlo:lo.length < 4294967281) (hl:dom.length < 4294967281):∀ (k i:Nat),lo.length - i + dom.length + 6 < k→i≤lo.length→
 cI.l0 k (lo.length:Int) (i:Int) (cS lo) (cS dom) lit=some ((lo.drop i).all KA && IE lo dom lit)
 | 0,_,h,_ =>absurd h (Nat.not_lt_zero _)
 |k + 1,i,hk,hi=>by
  unfold cI.l0
  by_cases hlt:i < lo.length
  ·have hd:lo.drop i=lo[i] :: lo.drop (i + 1):=List.drop_eq_getElem_cons hlt
   have hb:bt (cS lo) (i:Int)=(lo[i].toNat:Int):=by
    rw [T4 lo i hlt,List.getD_eq_getElem?_getD,List.getElem?_eq_getElem hlt]
    rfl
   rw [if_pos aA,if_pos aA,if_pos qz,hb,hd,List.all_cons]
   by_cases h1:lo[i] < 32
   ·rw [if_pos (aiR.mpr h1)]
    have:KA lo[i]=false:=decide_eq_false (fun h=>h (.inl h1))
    rw [this]
    rfl
   ·rw [if_neg (fun h=>h1 (aiR.mp h))]
    by_cases h2: 126 < lo[i]
    ·rw [if_pos (aaK.mpr h2)]
     have:KA lo[i]=false:=decide_eq_false (fun h=>h (.inr h2))
     rw [this]
     rfl
    ·rw [if_neg (fun h=>h2 (aaK.mp h)),Fj i aA]
     have:KA lo[i]=true:=decide_eq_true (fun h=>h.elim h1 h2)
     rw [this,Bool.true_and]
     exact Fv lo dom lit hlo hl k (i + 1) aA aA
  ·rw [if_neg aA,List.drop_of_length_le aA,List.all_nil,Bool.true_and]
   unfold IE
   cases lit with
   |true=>
    rw [if_pos rfl,if_pos rfl,Fq lo dom true k aA]
    simp only [Option.bind_some,Bool.true_or,Bool.and_true]
    by_cases h64:lo.length≤64
    ·rw [decide_eq_true h64,if_pos rfl,Me dom hl k aA,Bool.true_and]
     simp only [Option.bind_some]
     cases hL:YN dom with
     |true=>
      rw [if_pos rfl,Fu dom hl]
      simp only [Option.bind_some,Bool.true_and]
      rw [toList_mk,toList_mk]
      by_cases h2:dom.map Ee=dom
      ·rw [decide_eq_true h2,h2];simp
      ·rw [decide_eq_false h2];simp [h2]
     |false=>rw [if_neg bB];rfl
    ·rw [decide_eq_false h64,if_neg bB];rfl
   |false=>
    rw [if_neg bB,if_neg bB,Fq lo dom false k aA]
    simp only [Option.bind_some,Bool.false_or]
    by_cases h64:lo.length≤64
    ·rw [decide_eq_true h64,Bool.true_and,Bool.true_and]
     cases hs:pJ (cS dom) with
     |true=>
      rw [if_pos rfl,Kz dom hl k aA,hs]
      simp
     |false=>rw [if_neg bB];rfl
    ·rw [decide_eq_false h64,Bool.false_and,if_neg bB];rfl
def boxedB (lo dom:List UInt8) (lit:Bool):Bool:=lo.all KA && IE lo dom lit
theorem Uc (lo dom:List UInt8) (lit:Bool) (hlo:lo.length < 4294967281) (hl:dom.length < 4294967281) (k:Nat) (hk:lo.length + dom.length + 6 < k):cI.f k (cS lo) (cS dom) lit=some (boxedB lo dom lit):=by
 unfold cI.f boxedB
 rw [iq]
 have:=Fv lo dom lit hlo hl k 0 aA (Nat.zero_le _)
 rw [List.drop_zero] at this
 exact this
def AA (a:Bool) (ds:List (List UInt8)) (lo dom:List UInt8) (lit:Bool):Bool:=
 if a=true then decide (ds= []∧lo= []∧dom= []) && !lit
 else if lo= [112,111,115,116,109,97,115,116,101,114]∧dom= []∧lit=false then decide (ds= [])
 else boxedB lo dom lit && (decide (ds.length≤20) && ds.all fun d=>decide (xB d) && pJ (cS d))
theorem Ud (ds:List (List UInt8)) (M:Nat) (hM:∀ d,d∈ds→d.length≤M) (hl:M < 4294967281) (k:Nat) (hk:ds.length + M + 10 < k) (h20:ds.length≤20):
 bF.f k (ds.map cS)=some (!(ds.all fun d=>decide (xB d) && pJ (cS d))):=by
 rw [Ub (g:=fun y=>!(decide (xB y.data.toList) && pJ y)) (k0:=M + 4) (fun y hy k hk=>by
  obtain ⟨d,hd',rfl⟩:=List.mem_map.mp hy
  have:=hM d hd'
  unfold gK.f
  rw [Kz d aA k aA]
  rfl) k wD wD]
 congr 1
 clear hM hk h20
 induction ds with
 |nil=>rfl
 |cons d ds ih=>
  rw [List.map_cons,List.any_cons,List.all_cons,ih]
  exact (Bool.not_and ..).symm
theorem KB (ds:List (List UInt8)) (lo dom:List UInt8) (lit:Bool):AA true ds lo dom lit=(decide (ds= []∧lo= []∧dom= []) && !lit):=rfl
theorem IG (ds:List (List UInt8)):AA false ds [112,111,115,116,109,97,115,116,101,114] [] false=decide (ds= []):=rfl
theorem Mg (ds:List (List UInt8)) (lo dom:List UInt8) (lit:Bool) (hp: ¬ (lo= [112,111,115,116,109,97,115,116,101,114]∧dom= []∧lit=false)):
 AA false ds lo dom lit=(boxedB lo dom lit && (decide (ds.length≤20) && ds.all fun d=>decide (xB d) && pJ (cS d))):=by
 unfold AA
 rw [if_neg bB,if_neg hp]
theorem Q3 (a:Bool) (ds:List (List UInt8)) (lo dom:List UInt8) (lit:Bool) (M:Nat) (hM:∀ d,d∈ds→d.length≤M) (hlo:lo.length≤M) (hd:dom.length≤M) (hl:M < 4294967281) (k:Nat) (hk: 2 * M + 110 < k):
 dL.f k a (ds.map cS) (cS lo) (cS dom) lit=some (AA a ds lo dom lit):=by
 cases a with
 |true=>
  unfold dL.f
  rw [toList_mk,toList_mk,List.length_map,KB,if_pos rfl]
  cases ds with
  |nil=>
   rw [if_pos (by rfl)]
   cases lo<;>cases dom<;>cases lit<;>rfl
  |cons d ds=>
   rw [if_neg (by rw [List.length_cons];omega)]
   simp
 |false=>
  by_cases hp:lo= [112,111,115,116,109,97,115,116,101,114]∧dom= []∧lit=false
  ·obtain ⟨rfl,rfl,rfl⟩:=hp
   unfold dL.f
   rw [toList_mk,toList_mk,List.length_map,IG,if_neg bB,if_pos bB]
   cases ds with
   |nil=>rfl
   |cons d ds=>
    have e:(((d :: ds).length:Int) == 0)=false:=by
     rw [List.length_cons]
     exact beq_eq_false_iff_ne.mpr aA
    rw [e]
    simp
  ·unfold dL.f
   rw [toList_mk,toList_mk,List.length_map,Mg ds lo dom lit hp,if_neg bB,if_neg (by
    intro h
    apply hp
    simp only [Bool.and_eq_true,beq_iff_eq,Bool.not_eq_true'] at h
    exact h),Uc lo dom lit aA aA k aA]
   simp only [Option.bind_some]
   cases hb:boxedB lo dom lit with
   |false=>
    rw [Bool.false_and]
    exact if_neg bB
   |true=>
    rw [if_pos rfl,Bool.true_and]
    by_cases h20:ds.length≤20
    ·rw [if_pos aA,Ud ds M hM hl k aA h20,decide_eq_true h20,Bool.true_and]
     simp
    ·rw [if_neg aA,decide_eq_false h20,Bool.false_and]
end Go.Proofs.YtbjjaaodfbjkfaaGreatDoor.TZ
namespace Go.Proofs.YtbjjaaodfbjkfaaGreatDoor.vD
open Go.RowKit Go.Proofs.YtbjjaaodfbjkfaaGreatDoor.mN Go.Proofs.ak.bQ Go.Proofs.ak.dA Go.Proofs.ak.cX
set_option linter.unusedVariables false
set_option linter.unusedSimpArgs false
def nZ:Nat:=1048576
structure II (p:Pt):Prop where
 many:p.f1.length≤nZ
 route:∀ d∈p.f1,d.size≤nZ
 lo:p.f2.f0.size≤nZ
 dom:p.f2.f1.size≤nZ
structure jB (m:Ml):Prop where
 frm:II m.f1
 nto:m.f2.length≤nZ
 body:m.f3.length≤nZ
 rcs:∀ r∈m.f2,r.f0.f0.size≤nZ∧r.f0.f1.size≤nZ
def ro (p:Pt):Bool:=TZ.AA p.f0 (p.f1.map fun d=>d.data.toList) p.f2.f0.data.toList p.f2.f1.data.toList p.f2.f2
def K0:Nat:=2097264
theorem mk_data (s:ByteArray):cS s.data.toList=s:=by
 obtain ⟨⟨l⟩⟩:=s
 rfl
theorem Eh (s:ByteArray):s.data.toList.length=s.size:=by
 obtain ⟨⟨l⟩⟩:=s
 rfl
theorem KC {p:Pt} (h:II p):xd ro K0 p:=by
 intro k hk
 have e1:(p.f1.map fun d=>d.data.toList).map cS=p.f1:=by
  rw [List.map_map]
  conv=>rhs;rw [← List.map_id p.f1]
  exact List.map_congr_left fun d _ =>mk_data d
 have:=TZ.Q3 p.f0 (p.f1.map fun d=>d.data.toList) p.f2.f0.data.toList p.f2.f1.data.toList p.f2.f2 nZ (fun d hd=>by
  obtain ⟨x,hx,rfl⟩:=List.mem_map.mp hd
  rw [Eh];exact h.route x hx) (by rw [Eh];exact h.lo) (by rw [Eh];exact h.dom) bB k (by unfold K0 at hk;unfold nZ;omega)
 rw [e1,mk_data,mk_data] at this
 exact this
theorem Q4 {b:Bx} (h0:b.f0.size≤nZ) (h1:b.f1.size≤nZ):II ⟨false,[],b⟩:=⟨Nat.zero_le _,fun d hd=>(by cases hd),h0,h1⟩
theorem PE {m:Ml} (h:jB m):ID ro K0 m:=⟨KC h.frm,fun r hr=>KC (Q4 (h.rcs r hr).1 (h.rcs r hr).2)⟩
structure aiS (m:Ml):Prop where
 id0: 1≤m.f0
 id1:m.f0 < 1099511627776
 route:m.f1.f1= []
 body:m.f3.length≤524288
 to0: 1≤m.f2.length
 to1:m.f2.length≤100
 rcs:∀ r∈m.f2,tD ro r=true
theorem sy {m:Ml} (h:pz ro m=true):aiS m:=by
 unfold pz at h
 simp only [Bool.and_eq_true,decide_eq_true_eq] at h
 obtain ⟨h1,h2,h3,h4,h5,h6,h7,h8,h9,h10⟩:=h
 exact ⟨h1,h2,List.eq_nil_of_length_eq_zero h4,h7,h8,h9,fun r hr=>List.all_eq_true.mp h10 r hr⟩
theorem Mh {m:Ml} (h:pz ro m=true):rP m:=by
 have g:=sy h
 have:=g.body
 have:=g.to1
 unfold rP
 rw [g.route]
 simp only [List.length_nil]
 omega
theorem KD {m:Ml} (h:jq m=true):rP m:=by
 unfold jq at h
 simp only [Bool.and_eq_true,decide_eq_true_eq] at h
 obtain ⟨h1,h2,h3,h4,h5,h6⟩:=h
 unfold rP
 omega
structure aiT (r:Rc):Prop where
 st0:r.f1≤2
 tr0: 0≤r.f2
 tr1:r.f2≤1099511627776
 du0: 0≤r.f3
 du1:r.f3≤1099511627776
theorem AB {n:Int}:sw n=true↔0≤n∧n≤1099511627776:=by simp [sw]
theorem aaM {r:Rc} (h:tD ro r=true):aiT r:=by
 unfold tD at h
 simp only [Bool.and_eq_true,decide_eq_true_eq,AB] at h
 exact ⟨h.2.1,h.2.2.1.1,h.2.2.1.2,h.2.2.2.1,h.2.2.2.2⟩
structure Inv (n:Int) (ms:List Ml):Prop where
 len:ms.length≤1000
 good:∀ m∈ms,pz ro m=true
 small:∀ m∈ms,jB m
 ids:(ms.map fun m=>m.f0).Pairwise (·< ·)
 below:∀ m∈ms,m.f0 < n
 n1: 1≤n
 top:n≤1099511627776
theorem wq (id:Int):∀ (l:List Ml) (k:Nat),(lu id l k= -1∧∀ m∈l,m.f0≠id)∨∃ i x,lu id l k=((k + i:Nat):Int)∧l[i]? =some x∧x.f0=id
 | [],k=> .inl ⟨rfl,fun m h=>by cases h⟩
 |x :: l,k=>by
  unfold lu
  by_cases h:x.f0=id
  ·rw [if_pos h]
   exact .inr ⟨0,x,rfl,rfl,h⟩
  ·rw [if_neg h]
   rcases wq id l (k + 1) with ⟨h1,h2⟩|⟨i,y,h1,h2,h3⟩
   ·exact .inl ⟨h1,fun m hm=>by rcases List.mem_cons.1 hm with rfl|hm;exact h;exact h2 m hm⟩
   ·exact .inr ⟨i + 1,y,by rw [h1];congr 1;omega,h2,h3⟩
theorem Ei (m x:Ml) (n:Int) (hS:jB m):dB.f m.f0 m.f1.f0 m.f1.f1 m.f1.f2.f0 m.f1.f2.f1 m.f1.f2.f2 m.f2 m.f3 m.f4 x.f0 x.f1.f0 x.f1.f1 x.f1.f2.f0 x.f1.f2.f1 x.f1.f2.f2 x.f2 x.f3 x.f4 n=
 some (!jq m && (decide (n≤m.f0) && (m.f1.f0 && (decide (m.f2.length=1) && (((bR m.f2 0).f0.f0.toList == x.f1.f2.f0.toList && ((bR m.f2 0).f0.f1.toList == x.f1.f2.f1.toList && (bR m.f2 0).f0.f2 == x.f1.f2.f2)) && ((bR m.f2 0).f1 == 0 && (bR m.f2 0).f2 == 0)))))):=by
 unfold dB.f
 rw [yg m Ga F9]
 simp only [Option.bind_some]
 cases jq m with
 |true=>rfl
 |false=>
  rw [if_neg bB,Bool.not_false,Bool.true_and]
  by_cases h1:n≤m.f0
  ·rw [if_pos (show m.f0≥n from h1),decide_eq_true h1,Bool.true_and]
   cases m.f1.f0 with
   |false=>rfl
   |true=>
    rw [if_pos rfl,Bool.true_and]
    by_cases h2:m.f2.length=1
    ·rw [if_pos aA,if_pos aA,decide_eq_true h2,Bool.true_and]
    ·rw [if_neg aA,decide_eq_false h2];rfl
  ·rw [if_neg (show ¬ m.f0≥n from h1),decide_eq_false h1];rfl
theorem KE (m x:Ml) (n:Int) (hS:jB m):∃ b,dB.f m.f0 m.f1.f0 m.f1.f1 m.f1.f2.f0 m.f1.f2.f1 m.f1.f2.f2 m.f2 m.f3 m.f4 x.f0 x.f1.f0 x.f1.f1 x.f1.f2.f0 x.f1.f2.f1 x.f1.f2.f2 x.f2 x.f3 x.f4 n=some b:=⟨_,Ei m x n hS⟩
def zG (m x:Ml) (n:Int):Bool:=(dB.f m.f0 m.f1.f0 m.f1.f1 m.f1.f2.f0 m.f1.f2.f1 m.f1.f2.f2 m.f2 m.f3 m.f4 x.f0 x.f1.f0 x.f1.f1 x.f1.f2.f0 x.f1.f2.f1 x.f1.f2.f2 x.f2 x.f3 x.f4 n).getD false
theorem Q5 {m x:Ml} {n:Int} (hS:jB m) (hb:zG m x n=true):jq m=false∧n≤m.f0:=by
 unfold zG at hb
 rw [Ei m x n hS] at hb
 simp only [Option.getD_some,Bool.and_eq_true,decide_eq_true_eq,Bool.not_eq_true'] at hb
 exact ⟨hb.1,hb.2.1⟩
def put (ms:List Ml) (i:Nat) (x:Ml) (a:Nat) (r:Rc):List Ml:=ms.set i ⟨x.f0,x.f1,x.f2.set a r,x.f3,x.f4⟩
inductive Fits (n:Int) (ms:List Ml) (kind id at_ due:Int) (m:Ml):Bool→Int→List Ml→Prop
 |add (hk:kind=1) (hn:n≤m.f0) (hl:ms.length < 1000):Fits n ms kind id at_ due m true (m.f0 + 1) (ms ++ [m])
 |next (hk:kind=6) (hn:n < id):Fits n ms kind id at_ due m true id ms
 |gone (hk:kind=5) (i:Nat) (x:Ml) (hx:ms[i]? =some x) (hi:x.f0=id) (hs:hasB x.f2 0=false) (ho:(hasB x.f2 2 && !x.f1.f0)=false):Fits n ms kind id at_ due m true n (ms.eraseIdx i)
 |owes (hk:kind=5) (i:Nat) (x:Ml) (hx:ms[i]? =some x) (hi:x.f0=id) (hs:hasB x.f2 0=false) (ho:(hasB x.f2 2 && !x.f1.f0)=true) (hb:zG m x n=true):Fits n ms kind id at_ due m true (m.f0 + 1) (ms.eraseIdx i ++ [m])
 |step (hk:kind=2∨kind=3∨kind=4) (i:Nat) (x:Ml) (hx:ms[i]? =some x) (hi:x.f0=id) (a:Nat) (r:Rc) (ha:at_=a) (hr:x.f2[a]? =some r) (h0:r.f1=0) (ht:kind=2→r.f2 + 1≤1099511627776):
   Fits n ms kind id at_ due m true n (put ms i x a (if kind=2 then ⟨r.f0,r.f1,r.f2 + 1,due⟩ else if kind=3 then ⟨r.f0,1,r.f2,r.f3⟩ else ⟨r.f0,2,r.f2,r.f3⟩))
 |no (n':Int) (ms':List Ml):Fits n ms kind id at_ due m false n' ms'
theorem IJ {n:Int} (h0: 0≤n) (h1:n≤1099511627776):wrap64 (n + 1)=n + 1:=by unfold wrap64;omega
theorem AE {kind id at_ due:Int} {m:Ml} (h:qH ro kind id at_ due m=true):
 (0≤id∧id≤1099511627776)∧(0≤at_∧at_≤1099511627776)∧(0≤due∧due≤1099511627776)∧(kind=1∧pz ro m=true∨kind=5∧(jq m=true∨pz ro m=true)∨(kind=2∨kind=3∨kind=4∨kind=6)∧jq m=true):=by
 unfold qH at h
 rw [Bool.and_eq_true] at h
 obtain ⟨ht,h⟩:=h
 simp only [List.all_cons,List.all_nil,Bool.and_true,Bool.and_eq_true,AB] at ht
 refine ⟨ht.1,ht.2.1,ht.2.2,?_⟩
 by_cases k1:kind=1
 ·rw [if_pos k1,Bool.and_eq_true] at h
  exact .inl ⟨k1,h.2⟩
 ·rw [if_neg k1] at h
  by_cases k5:kind=5
  ·rw [if_pos k5,Bool.and_eq_true,Bool.or_eq_true] at h
   exact .inr (.inl ⟨k5,h.2⟩)
  ·rw [if_neg k5] at h
   refine .inr (.inr ?_)
   by_cases k2:kind=2
   ·rw [if_pos k2] at h
    exact ⟨.inl k2,h⟩
   ·rw [if_neg k2] at h
    by_cases k3:kind=3∨kind=4
    ·rw [if_pos k3,Bool.and_eq_true] at h
     exact ⟨aA,h.2⟩
    ·rw [if_neg k3] at h
     by_cases k6:kind=6
     ·rw [if_pos k6,Bool.and_eq_true] at h
      exact ⟨aA,h.2⟩
     ·rw [if_neg k6] at h
      cases h
theorem Mi {m:Ml} (h:jq m=true):m.f0=0:=by
 unfold jq at h
 simp only [Bool.and_eq_true,decide_eq_true_eq] at h
 exact h.1
theorem fits_eq {n:Int} {ms:List Ml} (hI:Inv n ms) {kind id at_ due:Int} {m:Ml} (hS:jB m) (hc:qH ro kind id at_ due m=true):
 ∃ b n' ms',nO.f n ms kind id at_ due m=some (b,n',ms')∧Fits n ms kind id at_ due m b n' ms':=by
 obtain ⟨⟨i0,i1⟩,⟨a0,a1⟩,⟨d0,d1⟩,hk⟩:=AE hc
 have hlen:=hI.len
 have hown:rP m:=by
  rcases hk with ⟨_,h⟩|⟨_,h|h⟩|⟨_,h⟩
  ·exact Mh h
  ·exact KD h
  ·exact Mh h
  ·exact KD h
 unfold nO.f
 rcases hk with ⟨k1,hm⟩|⟨k5,hm⟩|⟨kk,hm⟩
 ·have g:=sy hm
  rw [if_pos k1]
  unfold Iw
  rw [if_pos ⟨hown,aA⟩,IJ (by have:=g.id0;omega) (by have:=g.id1;omega)]
  refine ⟨_,_,_,rfl,?_⟩
  by_cases h1:n≤m.f0
  ·by_cases h2:ms.length < 1000
   ·rw [decide_eq_true h1,decide_eq_true h2]
    exact .add k1 h1 h2
   ·rw [decide_eq_false h2,Bool.and_false]
    exact .no _ _
  ·rw [decide_eq_false h1,Bool.false_and]
   exact .no _ _
 ·rw [if_neg aA,if_neg aA]
  rcases wq id ms 0 with ⟨h1,h2⟩|⟨i,x,h1,h2,h3⟩
  ·rw [h1,if_pos aA]
   exact ⟨_,_,_,rfl,.no _ _⟩
  ·rw [h1,if_neg aA,Nat.zero_add,Int.toNat_natCast,h2]
   simp only
   rw [if_pos k5]
   unfold Ay
   have hid:m.f0=0∨1≤m.f0∧m.f0 < 1099511627776:=by
    rcases hm with h|h
    ·exact .inl (Mi h)
    ·exact .inr ⟨(sy h).id0,(sy h).id1⟩
   rw [if_pos ⟨hown,aA⟩,yg m Ga F9,IJ aA aA]
   simp only [Option.bind_some]
   cases hs:hasB x.f2 0 with
   |true=>
    rw [if_pos rfl]
    exact ⟨_,_,_,rfl,.no _ _⟩
   |false=>
    rw [if_neg bB]
    obtain ⟨b,hb⟩:=KE m x n hS
    rw [hb]
    simp only [Option.bind_some]
    refine ⟨_,_,_,rfl,?_⟩
    have hbV:zG m x n=b:=by unfold zG;rw [hb];rfl
    cases ho:(hasB x.f2 2 && !x.f1.f0) with
    |true=>
     rw [if_pos rfl,if_pos rfl]
     cases b with
     |true=>exact .owes k5 i x h2 h3 hs ho hbV
     |false=>exact .no _ _
    |false=>
     rw [if_neg bB,if_neg bB]
     cases b with
     |true=>exact .no _ _
     |false=>
      cases hz:jq m with
      |true=>exact .gone k5 i x h2 h3 hs ho
      |false=>exact .no _ _
 ·by_cases k6:kind=6
  ·rw [if_neg aA,if_pos k6]
   refine ⟨_,_,_,rfl,?_⟩
   by_cases h1:n < id
   ·rw [decide_eq_true h1]
    exact .next k6 h1
   ·rw [decide_eq_false h1]
    exact .no _ _
  ·rw [if_neg aA,if_neg k6]
   rcases wq id ms 0 with ⟨h1,h2⟩|⟨i,x,h1,h2,h3⟩
   ·rw [h1,if_pos aA]
    exact ⟨_,_,_,rfl,.no _ _⟩
   ·rw [h1,if_neg aA,Nat.zero_add,Int.toNat_natCast,h2]
    simp only
    rw [if_neg aA,if_pos aA]
    unfold LY
    by_cases ha:(x.f2.length:Int)≤at_
    ·rw [if_pos ha]
     exact ⟨_,_,_,rfl,.no _ _⟩
    ·obtain ⟨a,rfl⟩:∃ a:Nat,at_=a:=⟨at_.toNat,aA⟩
     have hal:a < x.f2.length:=by omega
     rw [if_neg ha,if_neg aA,Int.toNat_natCast,List.getElem?_eq_getElem hal]
     simp only
     by_cases h0:x.f2[a].f1=0
     ·rw [if_pos h0]
      refine ⟨_,_,_,rfl,?_⟩
      have gr:=aaM ((sy (hI.good x (List.mem_of_getElem? h2))).rcs _ (List.getElem_mem hal))
      have hw:=IJ gr.tr0 gr.tr1
      have hst:=fun (ht:kind=2→x.f2[a].f2 + 1≤1099511627776)=>Fits.step (n:=n) (ms:=ms) (kind:=kind) (id:=id) (at_ :=(a:Int)) (due:=due) (m:=m) aA i x h2 h3 a x.f2[a] rfl (List.getElem?_eq_getElem hal) h0 ht
      unfold put at hst
      unfold LX Ar
      rw [hw]
      by_cases k2:kind=2
      ·rw [if_pos k2,if_pos k2]
       rw [if_pos k2] at hst
       by_cases ht:x.f2[a].f2 + 1≤1099511627776
       ·rw [decide_eq_true ht]
        exact hst fun _ =>ht
       ·rw [decide_eq_false ht]
        exact .no _ _
      ·rw [if_neg k2,if_neg k2]
       rw [if_neg k2] at hst
       exact hst fun e=>absurd e k2
     ·rw [if_neg h0]
      exact ⟨_,_,_,rfl,.no _ _⟩
theorem YP {ms:List Ml} {i:Nat} {x:Ml} (hx:ms[i]? =some x) (a:Nat) (r:Rc):(put ms i x a r).map (fun m=>m.f0)=ms.map fun m=>m.f0:=by
 unfold put
 rw [List.map_set]
 apply List.ext_getElem?
 intro j
 rw [List.getElem?_set]
 by_cases h:i=j
 ·subst h
  have hl:i < ms.length:=by
   by_cases hl:i < ms.length
   ·exact hl
   ·rw [List.getElem?_eq_none aA] at hx;cases hx
  rw [if_pos rfl,if_pos (by rw [List.length_map];exact hl),List.getElem?_map,hx]
  rfl
 ·rw [if_neg h]
theorem IK {ms:List Ml} {i:Nat} {x:Ml} {a:Nat} {r:Rc} {y:Ml} (hy:y∈put ms i x a r):y∈ms∨y=⟨x.f0,x.f1,x.f2.set a r,x.f3,x.f4⟩:=List.mem_or_eq_of_mem_set hy
theorem Q6 {x:Ml} (h:pz ro x=true) (a:Nat) (r:Rc) (hr:tD ro r=true):pz ro ⟨x.f0,x.f1,x.f2.set a r,x.f3,x.f4⟩=true:=by
 unfold pz at h ⊢
 simp only [Bool.and_eq_true,List.length_set,List.all_eq_true] at h ⊢
 obtain ⟨h1,h2,h3,h4,h5,h6,h7,h8,h9,h10⟩:=h
 exact ⟨h1,h2,h3,h4,h5,h6,h7,h8,h9,fun y hy=>by
  rcases List.mem_or_eq_of_mem_set hy with h|rfl
  ·exact h10 y h
  ·exact hr⟩
theorem Q7 {x:Ml} (h:jB x) (a:Nat) (r:Rc) (h0:r.f0.f0.size≤nZ) (h1:r.f0.f1.size≤nZ):jB ⟨x.f0,x.f1,x.f2.set a r,x.f3,x.f4⟩:=
 ⟨h.frm,by rw [List.length_set];exact h.nto,h.body,fun y hy=>by
   rcases List.mem_or_eq_of_mem_set hy with h'|rfl
   ·exact h.rcs y h'
   ·exact ⟨h0,h1⟩⟩
theorem EN {l:List Int} {y:Int} (h:l.Pairwise (·< ·)) (hy:∀ x∈l,x < y):(l ++ [y]).Pairwise (·< ·):=by
 rw [List.pairwise_append]
 exact ⟨h,List.pairwise_singleton _ _,fun a ha b hb=>by obtain rfl:=List.mem_singleton.1 hb;exact hy a ha⟩
theorem PF {n:Int} {ms:List Ml} (hI:Inv n ms) {m:Ml} (hS:jB m) (hm:pz ro m=true) (hn:n≤m.f0) (hl:ms.length < 1000):Inv (m.f0 + 1) (ms ++ [m]):=by
 have g:=sy hm
 have h0:=g.id0
 have h1:=g.id1
 refine ⟨by rw [List.length_append];simp;omega,fun y hy=>?_,fun y hy=>?_,?_,fun y hy=>?_,aA,aA⟩
 ·rcases List.mem_append.1 hy with h|h
  ·exact hI.good y h
  ·obtain rfl:=List.mem_singleton.1 h;exact hm
 ·rcases List.mem_append.1 hy with h|h
  ·exact hI.small y h
  ·obtain rfl:=List.mem_singleton.1 h;exact hS
 ·rw [List.map_append]
  exact EN hI.ids fun x hx=>by
   obtain ⟨y,hy,rfl⟩:=List.mem_map.1 hx
   have:=hI.below y hy
   show y.f0 < m.f0
   omega
 ·rcases List.mem_append.1 hy with h|h
  ·have:=hI.below y h;omega
  ·obtain rfl:=List.mem_singleton.1 h;omega
theorem Fw {n:Int} {ms:List Ml} (hI:Inv n ms) (i:Nat):Inv n (ms.eraseIdx i):=by
 have hs:=List.eraseIdx_sublist ms i
 exact ⟨Nat.le_trans hs.length_le hI.len,fun y hy=>hI.good y (hs.subset hy),fun y hy=>hI.small y (hs.subset hy),hI.ids.sublist (hs.map _),fun y hy=>hI.below y (hs.subset hy),hI.n1,hI.top⟩
theorem Ue {n:Int} {ms:List Ml} (hI:Inv n ms) {kind id at_ due:Int} {m:Ml} (hS:jB m) (hc:qH ro kind id at_ due m=true) {n':Int} {ms':List Ml} (hF:Fits n ms kind id at_ due m true n' ms'):Inv n' ms':=by
 obtain ⟨⟨i0,i1⟩,⟨a0,a1⟩,⟨d0,d1⟩,hk⟩:=AE hc
 cases hF with
 |add hk1 hn hl=>exact PF hI hS (by rcases hk with ⟨_,h⟩|⟨k,_⟩|⟨k,_⟩;exact h;omega;omega) hn hl
 |next hk6 hn=>exact ⟨hI.len,hI.good,hI.small,hI.ids,fun y hy=>by have:=hI.below y hy;omega,by have:=hI.n1;omega,i1⟩
 |gone _ i x hx hi hs ho=>exact Fw hI i
 |owes hk5 i x hx hi hs ho hb=>
  obtain ⟨h1,h2⟩:=Q5 hS hb
  have hil:i < ms.length:=by
   by_cases hl:i < ms.length
   ·exact hl
   ·rw [List.getElem?_eq_none aA] at hx;cases hx
  have hlen:=hI.len
  refine PF (Fw hI i) hS ?_ h2 (by rw [List.length_eraseIdx];rw [if_pos hil];omega)
  rcases hk with ⟨k,_⟩|⟨_,h|h⟩|⟨k,_⟩
  ·omega
  ·rw [h] at h1;cases h1
  ·exact h
  ·omega
 |step hkk i x hx hi a r ha hr h0 ht=>
  have hxm:=List.mem_of_getElem? hx
  have hrm:=List.mem_of_getElem? hr
  have hrg:=(sy (hI.good x hxm)).rcs r hrm
  have hrs:=(hI.small x hxm).rcs r hrm
  have gr:=aaM hrg
  generalize hr':(if kind=2 then (⟨r.f0,r.f1,r.f2 + 1,due⟩:Rc) else if kind=3 then ⟨r.f0,1,r.f2,r.f3⟩ else ⟨r.f0,2,r.f2,r.f3⟩)=r'
  have hb:r'.f0=r.f0:=by
   rw [← hr']
   split
   ·rfl
   ·split<;>rfl
  have hg:tD ro r'=true:=by
   unfold tD at hrg ⊢
   rw [hb]
   simp only [Bool.and_eq_true,decide_eq_true_eq,AB] at hrg ⊢
   refine ⟨hrg.1,?_⟩
   have:=gr.tr0;have:=gr.tr1;have:=gr.du0;have:=gr.du1
   rw [← hr']
   split
   ·rename_i k2
    have:=ht k2
    exact ⟨by show r.f1≤2;omega,⟨by show 0≤r.f2 + 1;omega,by show r.f2 + 1≤_;omega⟩,⟨d0,d1⟩⟩
   ·split
    ·exact ⟨by show (1:Int)≤2;omega,⟨mz,mz⟩,⟨mz,mz⟩⟩
    ·exact ⟨by show (2:Int)≤2;omega,⟨mz,mz⟩,⟨mz,mz⟩⟩
  refine ⟨by unfold put;rw [List.length_set];exact hI.len,fun y hy=>?_,fun y hy=>?_,by rw [YP hx];exact hI.ids,fun y hy=>?_,hI.n1,hI.top⟩
  ·rcases IK hy with h|rfl
   ·exact hI.good y h
   ·exact Q6 (hI.good x hxm) a r' hg
  ·rcases IK hy with h|rfl
   ·exact hI.small y h
   ·exact Q7 (hI.small x hxm) a r' (by rw [hb];exact hrs.1) (by rw [hb];exact hrs.2)
  ·rcases IK hy with h|rfl
   ·exact hI.below y h
   ·exact hI.below x hxm
theorem KF {n:Int} {ms:List Ml} (hI:Inv n ms) (kind id at_ due:Int) {m:Ml} (hS:jB m):
 ∃ n' ms' e,(∀ k,K0 + 1200≤k→cC.f k n ms kind id at_ due m.f0 m.f1.f0 m.f1.f1 m.f1.f2.f0 m.f1.f2.f1 m.f1.f2.f2 m.f2 m.f3 m.f4=some (n',ms',e))∧Inv n' ms'∧
   (e=220∧n'=n∧ms'=ms∨e=0∧qH ro kind id at_ due m=true∧Fits n ms kind id at_ due m true n' ms'):=by
 have hlen:=hI.len
 have hcp:∀ k,K0 + 1200≤k→cy.f k n ms=some (n,ms):=fun k hk=>copied_eq ms aA (fun m hm=>Mh (hI.good m hm)) n k (Nat.lt_of_le_of_lt hlen (by unfold K0 at hk;omega))
 have hce:∀ k,K0 + 1200≤k→cK.f k kind id at_ due m.f0 m.f1.f0 m.f1.f1 m.f1.f2.f0 m.f1.f2.f1 m.f1.f2.f2 m.f2 m.f3 m.f4=some (qH ro kind id at_ due m):=fun k hk=>
  change_eq (PE hS) Ga F9 kind id at_ due k (Nat.le_trans (Nat.add_le_add_left (bB: 112≤1200) K0) hk)
 have hm:(⟨m.f0,⟨m.f1.f0,m.f1.f1,⟨m.f1.f2.f0,m.f1.f2.f1,m.f1.f2.f2⟩⟩,m.f2,m.f3,m.f4⟩:Ml)=m:=rfl
 cases hc:qH ro kind id at_ due m with
 |false=>
  refine ⟨n,ms,220,fun k hk=>?_,hI,.inl ⟨rfl,rfl,rfl⟩⟩
  unfold cC.f
  rw [hcp k hk,hce k hk,hc]
  rfl
 |true=>
  obtain ⟨b,n',ms',hf,hF⟩:=fits_eq hI hS hc
  have hA:∀ k,K0 + 1200≤k→cC.f k n ms kind id at_ due m.f0 m.f1.f0 m.f1.f1 m.f1.f2.f0 m.f1.f2.f1 m.f1.f2.f2 m.f2 m.f3 m.f4=some (cC.end n ms (b,n',ms')):=fun k hk=>by
   unfold cC.f
   rw [hcp k hk,hce k hk,hc]
   simp only [Option.bind_some,if_true]
   rw [hm,hf]
   rfl
  cases b with
  |true=>exact ⟨n',ms',0,hA,Ue hI hS hc hF,.inr ⟨rfl,rfl,hF⟩⟩
  |false=>exact ⟨n,ms,220,hA,hI,.inl ⟨rfl,rfl,rfl⟩⟩
end Go.Proofs.YtbjjaaodfbjkfaaGreatDoor.vD
namespace Go.Proofs.YtbjjaaodfbjkfaaGreatDoor.vD
open Go.RowKit Go.Proofs.YtbjjaaodfbjkfaaGreatDoor.mN Go.Proofs.ak.bQ Go.Proofs.ak.dA Go.Proofs.ak.cX
set_option linter.unusedVariables false
set_option linter.unusedSimpArgs false
theorem aaT {k:Nat} (h: 2098464≤k):K0 + 1200≤k:=h
theorem KT (k:Nat) (hk: 400≤k):dM.f k=some true:=
 Aa (fun k=>dM.mono k) hk (aq:dM.f 400=some true)
end Go.Proofs.YtbjjaaodfbjkfaaGreatDoor.vD
namespace Go.Proofs.YtbjjaaodfbjkfaaGreatDoor.vD
open Go.RowKit Go.Proofs.YtbjjaaodfbjkfaaGreatDoor.mN Go.Proofs.ak.bQ Go.Proofs.ak.dA Go.Proofs.ak.cX
set_option linter.unusedVariables false
set_option linter.unusedSimpArgs false
theorem w2_ {n:Nat} (h:n < 4611686018427387904):wrap64 ((n:Int) + 1)=((n + 1:Nat):Int):=by unfold wrap64;omega
theorem Uq {ms:List Ml} {i:Nat} (h:i < ms.length):aj ms (i:Int)=ms[i]:=by
 unfold aj;simp [List.getD_eq_getElem?_getD,List.getElem?_eq_getElem h]
theorem Ur (l:List Int) (hl:l.length≤1048576):∀ (d k i:Nat),i + d=l.length→d < k→bO.l0 k l l (l.length:Int) (i:Int)=some true:=by
 intro d
 induction d with
 |zero=>
  intro k i hi hk
  obtain ⟨k,rfl⟩:∃ m,k=m + 1:=⟨k - 1,aA⟩
  rw [bO.l0,if_neg aA]
 |succ d ih=>
  intro k i hi hk
  obtain ⟨k,rfl⟩:∃ m,k=m + 1:=⟨k - 1,aA⟩
  rw [bO.l0,if_pos aA,if_pos aA,if_pos aA,if_pos aA,if_pos rfl,w2_ aA]
  exact ih k (i + 1) aA aA
theorem Us (l:List ByteArray) (hl:l.length≤1048576):∀ (d k i:Nat),i + d=l.length→d < k→bu.l0 k l l (l.length:Int) (i:Int)=some true:=by
 intro d
 induction d with
 |zero=>
  intro k i hi hk
  obtain ⟨k,rfl⟩:∃ m,k=m + 1:=⟨k - 1,aA⟩
  rw [bu.l0,if_neg aA]
 |succ d ih=>
  intro k i hi hk
  obtain ⟨k,rfl⟩:∃ m,k=m + 1:=⟨k - 1,aA⟩
  rw [bu.l0,if_pos aA,if_pos aA,if_pos aA,if_pos aA,if_pos rfl,w2_ aA]
  exact ih k (i + 1) aA aA
theorem Ut (l:List Rc) (hl:l.length≤1048576):∀ (d k i:Nat),i + d=l.length→d < k→bn.l0 k l l (l.length:Int) (i:Int)=some true:=by
 intro d
 induction d with
 |zero=>
  intro k i hi hk
  obtain ⟨k,rfl⟩:∃ m,k=m + 1:=⟨k - 1,aA⟩
  rw [bn.l0,if_neg aA]
 |succ d ih=>
  intro k i hi hk
  obtain ⟨k,rfl⟩:∃ m,k=m + 1:=⟨k - 1,aA⟩
  rw [bn.l0,if_pos aA,if_pos aA,if_pos aA,if_pos aA,if_neg cP,w2_ aA]
  exact ih k (i + 1) aA aA
theorem EO (m:Ml) (hS:jB m) (k:Nat) (hk: 1048577≤k):gw.f k m.f0 m.f1.f0 m.f1.f1 m.f1.f2.f0 m.f1.f2.f1 m.f1.f2.f2 m.f2 m.f3 m.f4 m.f0 m.f1.f0 m.f1.f1 m.f1.f2.f0 m.f1.f2.f1 m.f1.f2.f2 m.f2 m.f3 m.f4=some true:=by
 have h1:m.f1.f1.length≤1048576:=hS.frm.many
 have h2:m.f2.length≤1048576:=hS.nto
 have h3:m.f3.length≤1048576:=hS.body
 unfold gw.f bu.f bn.f bO.f
 rw [if_pos rfl,if_pos rfl,if_pos cP,if_pos cP,if_pos rfl,if_pos rfl,if_pos rfl]
 have a:=Us m.f1.f1 h1 m.f1.f1.length k 0 aA aA
 have b:=Ut m.f2 h2 m.f2.length k 0 aA aA
 have c:=Ur m.f3 h3 m.f3.length k 0 aA aA
 rw [show ((0:Nat):Int)=0 from rfl] at a b c
 rw [a,b,c]
 rfl
theorem MK (ms:List Ml) (hl:ms.length≤1048576) (hS:∀ m∈ms,jB m):∀ (d k i:Nat),i + d=ms.length→d + 1048577 < k→au.l0 k ms ms (ms.length:Int) (i:Int)=some true:=by
 intro d
 induction d with
 |zero=>
  intro k i hi hk
  obtain ⟨k,rfl⟩:∃ m,k=m + 1:=⟨k - 1,aA⟩
  rw [au.l0,if_neg aA]
 |succ d ih=>
  intro k i hi hk
  obtain ⟨k,rfl⟩:∃ m,k=m + 1:=⟨k - 1,aA⟩
  have hlt:i < ms.length:=by omega
  rw [au.l0,if_pos aA,if_pos aA,if_pos aA,if_pos aA,Uq hlt,EO _ (hS _ (List.getElem_mem hlt)) k aA]
  simp only [Option.bind_some,if_true,w2_ (show i < 4611686018427387904 by omega)]
  exact ih k (i + 1) aA aA
theorem Bg (n:Int) (ms:List Ml) (hl:ms.length≤1048576) (hS:∀ m∈ms,jB m) (k:Nat) (hk: 2097155≤k):fR.f k n ms n ms=some true:=by
 unfold fR.f au.f
 rw [if_pos rfl,if_pos rfl]
 have a:=MK ms hl hS ms.length k 0 aA aA
 rw [show ((0:Nat):Int)=0 from rfl] at a
 rw [a]
 rfl
def oZ (n last:Int) (all:Nat):List Ml→Bool
 | []=>decide (last < n) && (decide (n≤1099511627776) && decide (all≤1000))
 |m :: ms=>pz ro m && (!decide (m.f0≤last) && oZ n m.f0 all ms)
theorem ML (n:Int) (ms:List Ml) (hl:ms.length≤1048576) (hS:∀ m∈ms,jB m):∀ (d k i:Nat) (last:Int),i + d=ms.length→d + K0 + 200 < k→fH.l0 k last ms (ms.length:Int) (i:Int) n ms=some (oZ n last ms.length (ms.drop i)):=by
 intro d
 induction d with
 |zero=>
  intro k i last hi hk
  obtain ⟨k,rfl⟩:∃ m,k=m + 1:=⟨k - 1,aA⟩
  rw [fH.l0,if_neg aA,List.drop_of_length_le aA,oZ]
  by_cases h1:last < n
  ·rw [if_pos (show n > last from h1),decide_eq_true h1,Bool.true_and]
   by_cases h2:n≤1099511627776
   ·rw [if_pos h2,decide_eq_true h2,Bool.true_and]
    congr 1
    exact decide_eq_decide.mpr aA
   ·rw [if_neg h2,decide_eq_false h2];rfl
  ·rw [if_neg (show ¬ n > last from h1),decide_eq_false h1];rfl
 |succ d ih=>
  intro k i last hi hk
  obtain ⟨k,rfl⟩:∃ m,k=m + 1:=⟨k - 1,aA⟩
  have hlt:i < ms.length:=by omega
  have hsm:=hS _ (List.getElem_mem hlt)
  rw [fH.l0,if_pos aA,if_pos aA,if_pos aA,Uq hlt,PB (PE hsm) (by have:=hsm.nto;unfold nZ at this;omega) k (Nat.le_trans (Nat.add_le_add_left (bB: 110≤200) K0) aA),List.drop_eq_getElem_cons hlt,oZ]
  simp only [Option.bind_some,w2_ (show i < 4611686018427387904 by omega)]
  cases pz ro ms[i] with
  |false=>rfl
  |true=>
   rw [if_pos rfl,Bool.true_and]
   by_cases h:ms[i].f0≤last
   ·rw [if_pos h,decide_eq_true h];rfl
   ·rw [if_neg h,decide_eq_false h,Bool.not_false,Bool.true_and]
    exact ih k (i + 1) _ aA aA
theorem KU (n:Int) (ms:List Ml) (hl:ms.length≤1048576) (hS:∀ m∈ms,jB m) (k:Nat) (hk:ms.length + K0 + 200 < k):fH.f k n ms=some (oZ n 0 ms.length ms):=by
 unfold fH.f
 have:=ML n ms hl hS ms.length k 0 0 aA hk
 rw [show ((0:Nat):Int)=0 from rfl,List.drop_zero] at this
 exact this
theorem Et (n:Int) (all:Nat):∀ (ms:List Ml) (last:Int),oZ n last all ms=true→(∀ m∈ms,pz ro m=true)∧(ms.map fun m=>m.f0).Pairwise (·< ·)∧(∀ m∈ms,last < m.f0)∧(∀ m∈ms,m.f0 < n)∧last < n∧n≤1099511627776∧all≤1000
 | [],last,h=>by
   unfold oZ at h
   simp only [Bool.and_eq_true,decide_eq_true_eq] at h
   exact ⟨fun m hm=>(by cases hm),List.Pairwise.nil,fun m hm=>(by cases hm),fun m hm=>(by cases hm),h.1,h.2.1,h.2.2⟩
 |x :: ms,last,h=>by
  unfold oZ at h
  simp only [Bool.and_eq_true,Bool.not_eq_true',decide_eq_false_iff_not] at h
  obtain ⟨h1,h2,h3⟩:=h
  obtain ⟨a,b,c,d,e,f,g⟩:=Et n all ms x.f0 h3
  refine ⟨fun m hm=>?_,?_,fun m hm=>?_,fun m hm=>?_,aA,f,g⟩
  ·rcases List.mem_cons.1 hm with rfl|hm
   ·exact h1
   ·exact a m hm
  ·rw [List.map_cons,List.pairwise_cons]
   exact ⟨fun y hy=>by obtain ⟨m,hm,rfl⟩:=List.mem_map.1 hy;exact c m hm,b⟩
  ·rcases List.mem_cons.1 hm with rfl|hm
   ·omega
   ·have:=c m hm;omega
  ·rcases List.mem_cons.1 hm with rfl|hm
   ·exact e
   ·exact d m hm
theorem FD {n:Int} {all:Nat} (hn:n≤1099511627776) (ha:all≤1000):∀ (ms:List Ml) (last:Int),(∀ m∈ms,pz ro m=true)→(ms.map fun m=>m.f0).Pairwise (·< ·)→(∀ m∈ms,last < m.f0)→(∀ m∈ms,m.f0 < n)→last < n→oZ n last all ms=true
 | [],last,_,_,_,_,h=>by
   unfold oZ
   simp [h,hn,ha]
 |x :: ms,last,h1,h2,h3,h4,h5=>by
  unfold oZ
  rw [List.map_cons,List.pairwise_cons] at h2
  have hx:=h3 x (List.mem_cons_self ..)
  rw [h1 x (List.mem_cons_self ..),Bool.true_and,decide_eq_false aA,Bool.not_false,Bool.true_and]
  exact FD hn ha ms x.f0 (fun m hm=>h1 m (List.mem_cons_of_mem _ hm)) h2.2 (fun m hm=>h2.1 _ (List.mem_map_of_mem hm)) (fun m hm=>h4 m (List.mem_cons_of_mem _ hm)) (h4 x (List.mem_cons_self ..))
theorem Jz {n:Int} {ms:List Ml} (hS:∀ m∈ms,jB m) (h:oZ n 0 ms.length ms=true):Inv n ms:=by
 obtain ⟨a,b,c,d,e,f,g⟩:=Et n ms.length ms 0 h
 exact ⟨g,a,hS,b,d,aA,f⟩
theorem JA {n:Int} {ms:List Ml} (h:Inv n ms):oZ n 0 ms.length ms=true:=
 FD h.top h.len ms 0 h.good h.ids (fun m hm=>by have:=(sy (h.good m hm)).id0;omega) h.below (by have:=h.n1;omega)
theorem MM:jB ⟨0,⟨false,[],⟨⟨#[]⟩,⟨#[]⟩,false⟩⟩,[],[],0⟩:=⟨⟨Nat.zero_le _,fun d hd=>(by cases hd),Nat.zero_le _,Nat.zero_le _⟩,Nat.zero_le _,Nat.zero_le _,fun r hr=>(by cases hr)⟩
theorem MN {n:Int} {ms:List Ml} (hI:Inv n ms) (k:Nat) (hk: 2098464≤k):cC.f k n ms 0 0 0 0 0 false [] ⟨#[]⟩ ⟨#[]⟩ false [] [] 0=some (n,ms,220):=by
 obtain ⟨n',ms',e,hA,_,hc⟩:=KF hI 0 0 0 0 MM
 rcases hc with ⟨rfl,rfl,rfl⟩|⟨_,hch,_⟩
 ·exact hA k (aaT hk)
 ·obtain ⟨_,_,_,h⟩:=AE hch
  rcases h with ⟨h,_⟩|⟨h,_⟩|⟨h,_⟩<;>omega
end Go.Proofs.YtbjjaaodfbjkfaaGreatDoor.vD
namespace Go.Proofs.YtbjjaaodfbjkfaaGreatDoor.vD
open Go.RowKit Go.Proofs.YtbjjaaodfbjkfaaGreatDoor.mN Go.Proofs.ak.bQ Go.Proofs.ak.dA Go.Proofs.ak.cX
set_option linter.unusedVariables false
set_option linter.unusedSimpArgs false
theorem Ry (n:Int) (A:Option Addr) (c:Nat) (ms:List Ml) (kind id at_ due:Int) (m:Ml) (A2:Option Addr) (c2:Nat) (A6:Option Addr) (c6:Nat) (A7:Option Addr) (c7:Nat) (w:World)
 (hr:Kd.C DT w A ms.length ms) (hc:ms.length≤c) (hM:MR w m A2 c2 A6 c6 A7 c7) (hG:bp w) (hl:ms.length≤nZ) (hS:∀ y∈ms,jB y) (hSm:jB m):
 Calls Tryz.prog 7 #[.agg #[.int .i64 n,.slice A ms.length c],.agg (fD kind id at_ due m A2 c2 A6 c6 A7 c7)] w fun e w'=>e= .returned (.bool true)∧Below w.heap.size w w':=by
 obtain ⟨k,hk⟩:∃ k,3200000≤k:=⟨_,Nat.le_refl _⟩
 have hl':ms.length≤1048576:=hl
 have hri:=KU n ms hl' hS k (Nat.lt_of_le_of_lt (Nat.add_le_add_right (Nat.add_le_add_right hl' K0) 200) (Nat.lt_of_lt_of_le bB hk))
 cases hb:oZ n 0 ms.length ms with
 |false=>
  rw [hb] at hri
  exact Ux k n A c ms kind id at_ due m A2 c2 A6 c6 A7 c7 w hr hc hG hri (KT k aA)
 |true=>
  rw [hb] at hri
  have hI:=Jz hS hb
  obtain ⟨n2,ms2,e2,hA,hI2,akr⟩:=KF hI kind id at_ due hSm
  have hl2:ms2.length≤1048576:=by have:=hI2.len;omega
  have aks:=KU n2 ms2 hl2 hI2.small k (Nat.lt_of_le_of_lt (Nat.add_le_add_right (Nat.add_le_add_right hl2 K0) 200) (Nat.lt_of_lt_of_le bB hk))
  rw [JA hI2] at aks
  refine MO k n A c ms kind id at_ due m A2 c2 A6 c6 A7 c7 n2 ms2 e2 w hr hc hM hG hri (MN hI k aA) (Bg n ms hl' hS k aA) (hA k (aaT aA)) (Bg n2 ms2 hl2 hI2.small k aA) aks ?_ (KT k aA)
  rcases akr with ⟨rfl,rfl,rfl⟩|⟨rfl,_⟩
  ·exact .inr ⟨rfl,Bg _ _ hl2 hI2.small k aA⟩
  ·exact .inl rfl
end Go.Proofs.YtbjjaaodfbjkfaaGreatDoor.vD
namespace Go.Proofs.YtbjjaaodfbjkfaaGreatDoor.MP
open Go.ChangeShapes Go.WideShapes Go.RowKit
open Go.Proofs.ak.bQ Go.Proofs.YtbjjaaodfbjkfaaGreatDoor.mN Go.Proofs.YtbjjaaodfbjkfaaGreatDoor.vD
set_option linter.unusedVariables false
set_option linter.unusedSimpArgs false
set_option maxRecDepth 100000
theorem laidOut:laidOutB Tryz.prog=true:=by kernel_rfl
section
variable {H:Type}
def wA {α:Type} (enc:TypeId×Value→H) (W:World) (t:TypeId) (d:Kd α) (S:α→Prop):Prop:=
 ∀ fuel cs x,DataW.trod enc Tryz.prog W 0 (fun _ =>true) true fuel t cs=some x→∃ p,d.K W p cs∧(Rows.uptoBulk x.1≤nZ→S p)
variable {enc:TypeId×Value→H} {W:World}
theorem akt:∀ d:DataW H,1≤Rows.uptoBulk d
 | .lit l=>by cases l<;>simp [Rows.uptoBulk]
 | .nil=>by simp [Rows.uptoBulk]
 | .ptr _ =>by simp [Rows.uptoBulk]
 | .slice _ _ =>by simp [Rows.uptoBulk]
 | .agg _ =>by simp [Rows.uptoBulk]
 | .iface _ _ =>by simp [Rows.uptoBulk]
 | .map _ =>by simp [Rows.uptoBulk]
 | .held _ =>by simp [Rows.uptoBulk]
theorem Ex:∀ (l:List (DataW H)) (d:DataW H),d∈l→Rows.uptoBulk d≤Rows.uptoBulkAll l
 |x :: l,d,h=>by
  rw [show Rows.uptoBulkAll (x :: l)=Rows.uptoBulk x + Rows.uptoBulkAll l from by simp only [Rows.uptoBulkAll]]
  rcases List.mem_cons.1 h with rfl|h
  ·omega
  ·have:=Ex l d h;omega
theorem KW:∀ l:List (DataW H),l.length≤Rows.uptoBulkAll l
 | []=>Nat.zero_le _
 |x :: l=>by
  rw [show Rows.uptoBulkAll (x :: l)=Rows.uptoBulk x + Rows.uptoBulkAll l from by simp only [Rows.uptoBulkAll],List.length_cons]
  have:=akt x
  have:=KW l
  omega
theorem nA (l:List (DataW H)) (d:DataW H) (h:d∈l):Rows.uptoBulk d≤Rows.uptoBulk (.agg l):=by
 rw [show Rows.uptoBulk (.agg l:DataW H)=Rows.uptoBulkAll l + 1 from by simp only [Rows.uptoBulk]]
 have:=Ex l d h
 omega
theorem Ey:wA enc W 9 Kd.string (fun s=>s.size≤nZ):=by
 intro fuel cs x h
 obtain ⟨s,e,rfl,_⟩:=DataW.trod_string Tryz.underlying9 h
 refine ⟨s,e,fun hb=>?_⟩
 have hd:=iX s
 rw [show Rows.uptoBulk (.lit (.string s.data.toList):DataW H)=s.data.toList.length + 1 from by simp only [Rows.uptoBulk]] at hb
 omega
theorem mM {k:IntKind} {t:TypeId} (ht:Tryz.prog.underlying t=some (.int k)):wA enc W t (Kd.int k) (fun n=>(Lit.int k n).wf=true):=by
 intro fuel cs x h
 obtain ⟨n,e,rfl,hw⟩:=DataW.trod_int ht h
 exact ⟨n,e,fun _ =>hw⟩
theorem KX:wA enc W 4 Kd.bool (fun _ =>True):=by
 intro fuel cs x h
 obtain ⟨n,e,rfl⟩:=DataW.trod_bool Tryz.underlying4 h
 exact ⟨n,e,fun _ =>trivial⟩
theorem C9 {α:Type} {d:Kd α} {S:α→Prop} (z:α) {t e:TypeId} (hu:Tryz.prog.underlying t=some (.slice e)) (hsz:Tryz.prog.cellsOf e=d.sz) (hel:wA enc W e d S):
 wA enc W t (Kd.slice e d) (fun l=>l.length≤nZ∧∀ y∈l,S y):=by
 intro fuel cs x h
 rcases DataW.trod_slice hu h with ⟨rfl,rfl⟩|⟨a,len,cap,elems,rest,n,_,rfl,rfl,_,hl,hm,hlen,he,_,_⟩
 ·exact ⟨[],⟨none,0,rfl,Nat.le_refl _,rfl,Nat.zero_le _,fun h=>absurd h (Nat.lt_irrefl _)⟩,fun _ =>⟨Nat.zero_le _,fun y hy=>by cases hy⟩⟩
 ·have hq:∀ i,∃ p:α,i < len→(∃ c,c.length=d.sz∧d.K W p c∧∀ j u,c[j]? =some u→W.cell? (a.add (i * d.sz + j))=some u)∧∃ y,elems[i]? =some y∧(Rows.uptoBulk y.1≤nZ→S p):=by
   intro i
   by_cases hi:i < len
   ·have hx:=he i hi
    rw [hsz] at hx
    have hi2:i < elems.length:=by omega
    rw [List.getElem?_eq_getElem hi2] at hx
    obtain ⟨c,h1,h2⟩:=Option.bind_eq_some_iff.mp hx
    obtain ⟨p,k1,k2⟩:=hel _ _ _ h2
    obtain ⟨_,hc1,hc2⟩:=World.cells?_some h1
    refine ⟨p,fun _ =>⟨⟨c,hc1,k1,fun j u hj=>?_⟩,_,List.getElem?_eq_getElem hi2,k2⟩⟩
    have hjl:j < d.sz:=by
     by_cases hjl:j < c.length
     ·omega
     ·rw [List.getElem?_eq_none aA] at hj;cases hj
    have:=hc2 j hjl
    rw [hj] at this
    rw [← this]
    congr 1
    unfold Addr.add
    by_cases hi0:i * d.sz=0
    ·rw [hi0];simp
    ·by_cases hj0:j=0
     ·subst hj0;simp
     ·rw [if_neg aA,if_neg hi0,if_neg hj0]
      simp only [Addr.mk.injEq,and_true,true_and]
      omega
   ·exact ⟨z,fun h=>absurd h hi⟩
  obtain ⟨f,hf⟩:=Classical.skolem.mp hq
  have hPl:((List.range len).map f).length=len:=by simp
  have hget:∀ j p,((List.range len).map f)[j]? =some p→j < len∧p=f j:=by
   intro j p hj
   rw [List.getElem?_map] at hj
   by_cases hjl:j < len
   ·rw [List.getElem?_range hjl] at hj
    exact ⟨hjl,(Option.some.inj hj).symm⟩
   ·rw [List.getElem?_eq_none (by simp;omega)] at hj
    cases hj
  have hml:maxLen≤9223372036854775807:=by decide
  refine ⟨(List.range len).map f,⟨some a,cap,by rw [hPl],by rw [hPl];exact hl,by rw [hPl],by rw [hPl];omega,fun _ =>⟨a,rfl,fun j p hj=>?_⟩⟩,fun hb=>?_⟩
  ·obtain ⟨hjl,rfl⟩:=hget j p hj
   exact (hf j hjl).1
  ·rw [show Rows.uptoBulk (.slice (elems.map (·.1)) (rest.map (·.1)):DataW H)=Rows.uptoBulkAll (elems.map (·.1)) + Rows.uptoBulkAll (rest.map (·.1)) + 1 from by simp only [Rows.uptoBulk]] at hb
   have hbl:=KW (elems.map (·.1))
   rw [List.length_map,hlen] at hbl
   refine ⟨by rw [hPl];omega,fun y hy=>?_⟩
   obtain ⟨j,hj,rfl⟩:=List.mem_map.1 hy
   obtain ⟨_,y',hy1,hy2⟩:=hf j (List.mem_range.1 hj)
   exact hy2 (by have:=Ex (elems.map (·.1)) y'.1 (List.mem_map_of_mem (List.mem_of_getElem? hy1));omega)
theorem L3 {α:Type} {l:List α} (h:l.length=3):∃ a b c,l= [a,b,c]:=by
 match l,h with
 | [a,b,c],_ =>exact ⟨a,b,c,rfl⟩
theorem L4 {α:Type} {l:List α} (h:l.length=4):∃ a b c d,l= [a,b,c,d]:=by
 match l,h with
 | [a,b,c,d],_ =>exact ⟨a,b,c,d,rfl⟩
theorem L5 {α:Type} {l:List α} (h:l.length=5):∃ a b c d e,l= [a,b,c,d,e]:=by
 match l,h with
 | [a,b,c,d,e],_ =>exact ⟨a,b,c,d,e,rfl⟩
theorem L6 {α:Type} {l:List α} (h:l.length=6):∃ a b c d e f,l= [a,b,c,d,e,f]:=by
 match l,h with
 | [a,b,c,d,e,f],_ =>exact ⟨a,b,c,d,e,f,rfl⟩
theorem L9 {α:Type} {l:List α} (h:l.length=9):∃ a b c d e f g i j,l= [a,b,c,d,e,f,g,i,j]:=by
 match l,h with
 | [a,b,c,d,e,f,g,i,j],_ =>exact ⟨a,b,c,d,e,f,g,i,j,rfl⟩
theorem L13 {α:Type} {l:List α} (h:l.length=13):∃ a b c d e f g i j k m n o,l= [a,b,c,d,e,f,g,i,j,k,m,n,o]:=by
 match l,h with
 | [a,b,c,d,e,f,g,i,j,k,m,n,o],_ =>exact ⟨a,b,c,d,e,f,g,i,j,k,m,n,o,rfl⟩
theorem adw:Tryz.prog.cellsOf 29=3:=by kernel_rfl
theorem aaU:Tryz.prog.cellsOf 31=5:=by kernel_rfl
theorem aaV:Tryz.prog.cellsOf 37=6:=by kernel_rfl
theorem Uy:Tryz.prog.cellsOf 34=9:=by kernel_rfl
theorem ZM:Tryz.prog.cellsOf 46=13:=by kernel_rfl
theorem akv:Tryz.prog.cellsOf 9=1:=by kernel_rfl
theorem aaW:Tryz.prog.cellsOf 4=1:=by kernel_rfl
theorem ZN:Tryz.prog.cellsOf 3=1:=by kernel_rfl
theorem cU8:Tryz.prog.cellsOf 5=1:=by kernel_rfl
theorem akw:Tryz.prog.cellsOf 27=1:=by kernel_rfl
theorem adx:Tryz.prog.cellsOf 32=1:=by kernel_rfl
theorem ady:Tryz.prog.cellsOf 22=1:=by kernel_rfl
theorem Qi:wA enc W 29 k29 (fun b=>b.f0.size≤nZ∧b.f1.size≤nZ):=by
 intro fuel cs x h
 obtain ⟨xs,n,_,rfl,hl,hlen,hf⟩:=DataW.trod_struct Tryz.underlying29 h
 rw [adw] at hl
 obtain ⟨c0,c1,c2,rfl⟩:=L3 hl
 obtain ⟨y0,y1,y2,rfl⟩:=L3 hlen
 have h0:DataW.trod enc Tryz.prog W 0 (fun _ =>true) true n 9 (([c0,c1,c2].drop 0).take (Tryz.prog.cellsOf 9))=some y0:=hf 0 _ rfl
 have h1:DataW.trod enc Tryz.prog W 0 (fun _ =>true) true n 9 (([c0,c1,c2].drop 1).take (Tryz.prog.cellsOf 9))=some y1:=hf 1 _ rfl
 have h2:DataW.trod enc Tryz.prog W 0 (fun _ =>true) true n 4 (([c0,c1,c2].drop 2).take (Tryz.prog.cellsOf 4))=some y2:=hf 2 _ rfl
 rw [akv] at h0 h1
 rw [aaW] at h2
 obtain ⟨p0,k0,s0⟩:=Ey _ _ _ h0
 obtain ⟨p1,k1,s1⟩:=Ey _ _ _ h1
 obtain ⟨p2,k2,s2⟩:=KX _ _ _ h2
 exact ⟨⟨p0,p1,p2⟩,⟨[c0],[c1,c2],rfl,k0,⟨[c1],[c2],rfl,k1,k2⟩⟩,fun hb=>⟨s0 (Nat.le_trans (nA _ _ cP) hb),s1 (Nat.le_trans (nA _ _ cP) hb)⟩⟩
theorem ZO:wA enc W 31 k31 II:=by
 intro fuel cs x h
 obtain ⟨xs,n,_,rfl,hl,hlen,hf⟩:=DataW.trod_struct Tryz.underlying31 h
 rw [aaU] at hl
 obtain ⟨c0,c1,c2,c3,c4,rfl⟩:=L5 hl
 obtain ⟨y0,y1,y2,rfl⟩:=L3 hlen
 have h0:DataW.trod enc Tryz.prog W 0 (fun _ =>true) true n 4 (([c0,c1,c2,c3,c4].drop 0).take (Tryz.prog.cellsOf 4))=some y0:=hf 0 _ rfl
 have h1:DataW.trod enc Tryz.prog W 0 (fun _ =>true) true n 27 (([c0,c1,c2,c3,c4].drop 1).take (Tryz.prog.cellsOf 27))=some y1:=hf 1 _ rfl
 have h2:DataW.trod enc Tryz.prog W 0 (fun _ =>true) true n 29 (([c0,c1,c2,c3,c4].drop 2).take (Tryz.prog.cellsOf 29))=some y2:=hf 2 _ rfl
 rw [aaW] at h0
 rw [akw] at h1
 rw [adw] at h2
 obtain ⟨p0,k0,s0⟩:=KX _ _ _ h0
 obtain ⟨p1,k1,s1⟩:=C9 (ByteArray.mk #[]) Tryz.underlying27 akv Ey _ _ _ h1
 obtain ⟨p2,k2,s2⟩:=Qi _ _ _ h2
 exact ⟨⟨p0,p1,p2⟩,⟨[c0],[c1,c2,c3,c4],rfl,k0,⟨[c1],[c2,c3,c4],rfl,k1,k2⟩⟩,fun hb=>
  have a1:=s1 (Nat.le_trans (nA _ _ cP) hb)
  have a2:=s2 (Nat.le_trans (nA _ _ cP) hb)
  ⟨a1.1,a1.2,a2.1,a2.2⟩⟩
theorem ZP:wA enc W 37 tq (fun r=>r.f0.f0.size≤nZ∧r.f0.f1.size≤nZ):=by
 intro fuel cs x h
 obtain ⟨xs,n,_,rfl,hl,hlen,hf⟩:=DataW.trod_struct Tryz.underlying37 h
 rw [aaV] at hl
 obtain ⟨c0,c1,c2,c3,c4,c5,rfl⟩:=L6 hl
 obtain ⟨y0,y1,y2,y3,rfl⟩:=L4 hlen
 have h0:DataW.trod enc Tryz.prog W 0 (fun _ =>true) true n 29 (([c0,c1,c2,c3,c4,c5].drop 0).take (Tryz.prog.cellsOf 29))=some y0:=hf 0 _ rfl
 have h1:DataW.trod enc Tryz.prog W 0 (fun _ =>true) true n 5 (([c0,c1,c2,c3,c4,c5].drop 3).take (Tryz.prog.cellsOf 5))=some y1:=hf 1 _ rfl
 have h2:DataW.trod enc Tryz.prog W 0 (fun _ =>true) true n 3 (([c0,c1,c2,c3,c4,c5].drop 4).take (Tryz.prog.cellsOf 3))=some y2:=hf 2 _ rfl
 have h3:DataW.trod enc Tryz.prog W 0 (fun _ =>true) true n 3 (([c0,c1,c2,c3,c4,c5].drop 5).take (Tryz.prog.cellsOf 3))=some y3:=hf 3 _ rfl
 rw [adw] at h0
 rw [cU8] at h1
 rw [ZN] at h2 h3
 obtain ⟨p0,k0,s0⟩:=Qi _ _ _ h0
 obtain ⟨p1,k1,s1⟩:=mM Tryz.underlying5 _ _ _ h1
 obtain ⟨p2,k2,s2⟩:=mM Tryz.underlying3 _ _ _ h2
 obtain ⟨p3,k3,s3⟩:=mM Tryz.underlying3 _ _ _ h3
 exact ⟨⟨p0,p1,p2,p3⟩,⟨[c0,c1,c2],[c3,c4,c5],rfl,k0,⟨[c3],[c4,c5],rfl,k1,⟨[c4],[c5],rfl,k2,k3⟩⟩⟩,fun hb=>s0 (Nat.le_trans (nA _ _ cP) hb)⟩
theorem Qj:wA enc W 34 E4 jB:=by
 intro fuel cs x h
 obtain ⟨xs,n,_,rfl,hl,hlen,hf⟩:=DataW.trod_struct Tryz.underlying34 h
 rw [Uy] at hl
 obtain ⟨c0,c1,c2,c3,c4,c5,c6,c7,c8,rfl⟩:=L9 hl
 obtain ⟨y0,y1,y2,y3,y4,rfl⟩:=L5 hlen
 have h0:DataW.trod enc Tryz.prog W 0 (fun _ =>true) true n 3 (([c0,c1,c2,c3,c4,c5,c6,c7,c8].drop 0).take (Tryz.prog.cellsOf 3))=some y0:=hf 0 _ rfl
 have h1:DataW.trod enc Tryz.prog W 0 (fun _ =>true) true n 31 (([c0,c1,c2,c3,c4,c5,c6,c7,c8].drop 1).take (Tryz.prog.cellsOf 31))=some y1:=hf 1 _ rfl
 have h2:DataW.trod enc Tryz.prog W 0 (fun _ =>true) true n 32 (([c0,c1,c2,c3,c4,c5,c6,c7,c8].drop 6).take (Tryz.prog.cellsOf 32))=some y2:=hf 2 _ rfl
 have h3:DataW.trod enc Tryz.prog W 0 (fun _ =>true) true n 22 (([c0,c1,c2,c3,c4,c5,c6,c7,c8].drop 7).take (Tryz.prog.cellsOf 22))=some y3:=hf 3 _ rfl
 have h4:DataW.trod enc Tryz.prog W 0 (fun _ =>true) true n 3 (([c0,c1,c2,c3,c4,c5,c6,c7,c8].drop 8).take (Tryz.prog.cellsOf 3))=some y4:=hf 4 _ rfl
 rw [ZN] at h0 h4
 rw [aaU] at h1
 rw [adx] at h2
 rw [ady] at h3
 obtain ⟨p0,k0,s0⟩:=mM Tryz.underlying3 _ _ _ h0
 obtain ⟨p1,k1,s1⟩:=ZO _ _ _ h1
 obtain ⟨p2,k2,s2⟩:=C9 z37 Tryz.underlying32 aaV ZP _ _ _ h2
 obtain ⟨p3,k3,s3⟩:=C9 0 Tryz.underlying22 cU8 (mM Tryz.underlying5) _ _ _ h3
 obtain ⟨p4,k4,s4⟩:=mM Tryz.underlying3 _ _ _ h4
 exact ⟨⟨p0,p1,p2,p3,p4⟩,⟨[c0],[c1,c2,c3,c4,c5,c6,c7,c8],rfl,k0,⟨[c1,c2,c3,c4,c5],[c6,c7,c8],rfl,k1,⟨[c6],[c7,c8],rfl,k2,⟨[c7],[c8],rfl,k3,k4⟩⟩⟩⟩,fun hb=>
  have a2:=s2 (Nat.le_trans (nA _ _ cP) hb)
  ⟨s1 (Nat.le_trans (nA _ _ cP) hb),a2.1,(s3 (Nat.le_trans (nA _ _ cP) hb)).1,a2.2⟩⟩
theorem ZQ:wA enc W 46 k46 (fun c=>jB c.f4):=by
 intro fuel cs x h
 obtain ⟨xs,n,_,rfl,hl,hlen,hf⟩:=DataW.trod_struct Tryz.underlying46 h
 rw [ZM] at hl
 obtain ⟨c0,c1,c2,c3,c4,c5,c6,c7,c8,c9,c10,c11,c12,rfl⟩:=L13 hl
 obtain ⟨y0,y1,y2,y3,y4,rfl⟩:=L5 hlen
 have h0:DataW.trod enc Tryz.prog W 0 (fun _ =>true) true n 5 (([c0,c1,c2,c3,c4,c5,c6,c7,c8,c9,c10,c11,c12].drop 0).take (Tryz.prog.cellsOf 5))=some y0:=hf 0 _ rfl
 have h1:DataW.trod enc Tryz.prog W 0 (fun _ =>true) true n 3 (([c0,c1,c2,c3,c4,c5,c6,c7,c8,c9,c10,c11,c12].drop 1).take (Tryz.prog.cellsOf 3))=some y1:=hf 1 _ rfl
 have h2:DataW.trod enc Tryz.prog W 0 (fun _ =>true) true n 3 (([c0,c1,c2,c3,c4,c5,c6,c7,c8,c9,c10,c11,c12].drop 2).take (Tryz.prog.cellsOf 3))=some y2:=hf 2 _ rfl
 have h3:DataW.trod enc Tryz.prog W 0 (fun _ =>true) true n 3 (([c0,c1,c2,c3,c4,c5,c6,c7,c8,c9,c10,c11,c12].drop 3).take (Tryz.prog.cellsOf 3))=some y3:=hf 3 _ rfl
 have h4:DataW.trod enc Tryz.prog W 0 (fun _ =>true) true n 34 (([c0,c1,c2,c3,c4,c5,c6,c7,c8,c9,c10,c11,c12].drop 4).take (Tryz.prog.cellsOf 34))=some y4:=hf 4 _ rfl
 rw [cU8] at h0
 rw [ZN] at h1 h2 h3
 rw [Uy] at h4
 obtain ⟨p0,k0,s0⟩:=mM Tryz.underlying5 _ _ _ h0
 obtain ⟨p1,k1,s1⟩:=mM Tryz.underlying3 _ _ _ h1
 obtain ⟨p2,k2,s2⟩:=mM Tryz.underlying3 _ _ _ h2
 obtain ⟨p3,k3,s3⟩:=mM Tryz.underlying3 _ _ _ h3
 obtain ⟨p4,k4,s4⟩:=Qj _ _ _ h4
 exact ⟨⟨p0,p1,p2,p3,p4⟩,⟨[c0],[c1,c2,c3,c4,c5,c6,c7,c8,c9,c10,c11,c12],rfl,k0,⟨[c1],[c2,c3,c4,c5,c6,c7,c8,c9,c10,c11,c12],rfl,k1,⟨[c2],[c3,c4,c5,c6,c7,c8,c9,c10,c11,c12],rfl,k2,⟨[c3],[c4,c5,c6,c7,c8,c9,c10,c11,c12],rfl,k3,k4⟩⟩⟩⟩,fun hb=>s4 (Nat.le_trans (nA _ _ cP) hb)⟩
end
end Go.Proofs.YtbjjaaodfbjkfaaGreatDoor.MP
namespace Go.Proofs.YtbjjaaodfbjkfaaGreatDoor.MP
open Go.ChangeShapes Go.WideShapes Go.RowKit
open Go.Proofs.ak.bQ Go.Proofs.YtbjjaaodfbjkfaaGreatDoor.mN Go.Proofs.YtbjjaaodfbjkfaaGreatDoor.vD
set_option linter.unusedVariables false
set_option linter.unusedSimpArgs false
set_option maxRecDepth 100000
theorem L2 {α:Type} {l:List α} (h:l.length=2):∃ a b,l= [a,b]:=by
 match l,h with
 | [a,b],_ =>exact ⟨a,b,rfl⟩
theorem adz:Tryz.prog.cellsOf 40=2:=by kernel_rfl
theorem adA:Tryz.prog.cellsOf 38=1:=by kernel_rfl
section
variable {H:Type} {enc:TypeId×Value→H} {W:World}
theorem ZR:wA enc W 40 (Kd.pair (Kd.int .i64) (Kd.slice 34 DT)) (fun q=>q.2.length≤nZ∧∀ m∈q.2,jB m):=by
 intro fuel cs x h
 obtain ⟨xs,n,_,rfl,hl,hlen,hf⟩:=DataW.trod_struct Tryz.underlying40 h
 rw [adz] at hl
 obtain ⟨c0,c1,rfl⟩:=L2 hl
 obtain ⟨y0,y1,rfl⟩:=L2 hlen
 have h0:DataW.trod enc Tryz.prog W 0 (fun _ =>true) true n 3 (([c0,c1].drop 0).take (Tryz.prog.cellsOf 3))=some y0:=hf 0 _ rfl
 have h1:DataW.trod enc Tryz.prog W 0 (fun _ =>true) true n 38 (([c0,c1].drop 1).take (Tryz.prog.cellsOf 38))=some y1:=hf 1 _ rfl
 rw [ZN] at h0
 rw [adA] at h1
 obtain ⟨p0,k0,s0⟩:=mM Tryz.underlying3 _ _ _ h0
 obtain ⟨p1,k1,s1⟩:=C9 z34 Tryz.underlying38 Uy Qj _ _ _ h1
 exact ⟨⟨p0,p1⟩,⟨[c0],[c1],rfl,k0,k1⟩,fun hb=>s1 (Nat.le_trans (nA _ _ cP) hb)⟩
theorem MQ {b0:Nat} {v:Value} {d:DataW H} {ps:List MemPlace} (hv:Value.okWide Tryz.prog W .any b0 40 v) (h:DataW.Trod enc Tryz.prog W 0 (fun _ =>true) true 40 v d ps):
 ∃ (n:Int) (A:Option Addr) (c:Nat) (ms:List Ml),v= .agg #[.int .i64 n,.slice A ms.length c]∧DT.C W A ms.length ms∧ms.length≤c∧(Rows.uptoBulk d≤nZ→ms.length≤nZ∧∀ m∈ms,jB m):=by
 obtain ⟨cs,rfl,_⟩:=okWide_struct Tryz.underlying40 hv
 obtain ⟨fuel,hf⟩:=h
 obtain ⟨⟨n,ms⟩,⟨c0,c1,e,k0,A,c,e1,hl,hC⟩,hs⟩:=ZR _ _ _ hf
 have k0':c0= [.int .i64 n]:=k0
 subst k0' e1
 have e2:cs= #[.int .i64 n,.slice A ms.length c]:=by
  rw [← Array.toList_inj]
  exact e
 exact ⟨n,A,c,ms,by rw [e2],hC,hl,hs⟩
theorem KY {b0:Nat} {v:Value} {d:DataW H} {ps:List MemPlace} (hv:Value.okWide Tryz.prog W .any b0 46 v) (h:DataW.Trod enc Tryz.prog W 0 (fun _ =>true) true 46 v d ps):
 ∃ (kind id at_ due:Int) (m:Ml) (A2:Option Addr) (c2:Nat) (A6:Option Addr) (c6:Nat) (A7:Option Addr) (c7:Nat),v= .agg (fD kind id at_ due m A2 c2 A6 c6 A7 c7)∧MR W m A2 c2 A6 c6 A7 c7∧(Rows.uptoBulk d≤nZ→jB m):=by
 obtain ⟨cs,rfl,_⟩:=okWide_struct Tryz.underlying46 hv
 obtain ⟨fuel,hf⟩:=h
 obtain ⟨p,hK,hs⟩:=ZQ _ _ _ hf
 obtain ⟨c0,r0,e,k0,c1,r1,rfl,k1,c2,r2,rfl,k2,c3,r3,rfl,k3,k4⟩:=hK
 obtain ⟨A2,d2,A6,d6,A7,d7,rfl,l2,g2,l6,g6,l7,g7⟩:=JV k4
 have k0':c0= [.int .u8 p.f0]:=k0
 have k1':c1= [.int .i64 p.f1]:=k1
 have k2':c2= [.int .i64 p.f2]:=k2
 have k3':c3= [.int .i64 p.f3]:=k3
 subst k0' k1' k2' k3'
 have e2:cs=fD p.f0 p.f1 p.f2 p.f3 p.f4 A2 d2 A6 d6 A7 d7:=by
  rw [← Array.toList_inj]
  exact e
 exact ⟨p.f0,p.f1,p.f2,p.f3,p.f4,A2,d2,A6,d6,A7,d7,by rw [e2],⟨g2,l2,g6,l6,g7,l7⟩,hs⟩
end
end Go.Proofs.YtbjjaaodfbjkfaaGreatDoor.MP
