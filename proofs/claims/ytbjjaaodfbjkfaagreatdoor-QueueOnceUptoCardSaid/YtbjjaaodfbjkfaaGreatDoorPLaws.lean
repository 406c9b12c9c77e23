import Derived.Test.YtbjjaaodfbjkfaaGreatDoorQQux17
import Derived.Test.YtbjjaaodfbjkfaaGreatDoorQQux20
import Derived.Test.YtbjjaaodfbjkfaaGreatDoorRows
import Derived.OpenShut
import Derived.SliceStrings
namespace Go.Proofs.YtbjjaaodfbjkfaaGreatDoor.tG
open Go.RowKit Go.Proofs.YtbjjaaodfbjkfaaGreatDoor.mU Go.Proofs.ak.bR Go.Proofs.ak.dz Go.Proofs.ak.cZ
set_option linter.unusedVariables false
set_option linter.unusedSimpArgs false
theorem BL {α:Type} (p:α→Bool) (l:List α):(!(l.any fun x=>!p x))=l.all p:=by
 induction l with
 |nil=>rfl
 |cons x l ih=>rw [List.any_cons,List.all_cons,Bool.not_or,Bool.not_not,ih]
abbrev Pt:=SB
abbrev Bx:=Fu
def rX (n:Int):Bool:=decide (0≤n) && decide (n≤1099511627776)
theorem UT (a:Int):lT.f a=some (!rX a):=by
 unfold lT.f rX
 by_cases h:a < 0
 ·rw [if_pos h];simp;omega
 ·rw [if_neg h,decide_eq_true (show 0≤a by omega),Bool.true_and,← decide_not];simp
theorem UU (l:List Int) (hm:l.length≤9223372036854775807):∀ (d k n:Nat),n + d=l.length→d < k→
 ∃ r,aR.l0 k l (l.length:Int) (n:Int)=some r∧(decide (0≤r))=(l.drop n).any fun x=>!rX x:=by
 intro d
 induction d with
 |zero=>
  intro k n hn hk
  obtain ⟨k,rfl⟩:∃ m,k=m + 1:=⟨k - 1,az⟩
  exact ⟨-1,by simp only [aR.l0];rw [if_neg az],by rw [List.drop_of_length_le az];rfl⟩
 |succ d ih=>
  intro k n hn hk
  obtain ⟨k,rfl⟩:∃ m,k=m + 1:=⟨k - 1,az⟩
  have hlt:n < l.length:=by omega
  have hrd:rd l (n:Int)=l[n]:=by unfold rd;simp [List.getD_eq_getElem?_getD,List.getElem?_eq_getElem hlt]
  have hw:wrap64 ((n:Int) + 1)=((n + 1:Nat):Int):=by unfold wrap64;omega
  rw [List.drop_eq_getElem_cons hlt,List.any_cons]
  simp only [aR.l0]
  rw [if_pos az,if_pos az,if_pos az,UT,hrd]
  simp only [Option.bind_some]
  cases h:rX l[n] with
  |true=>
   obtain ⟨r,hr,hd⟩:=ih k (n + 1) az az
   exact ⟨r,N0,by rw [hd];simp⟩
  |false=>exact ⟨(n:Int),cF,cF⟩
theorem Jr (l:List Int) (hm:l.length≤9223372036854775807) (k:Nat) (hk:l.length < k):cQ.f k l=some (l.all rX):=by
 unfold cQ.f bY.f aR.f
 obtain ⟨r,hr,hd⟩:=UU l hm l.length k 0 az hk
 rw [List.drop_zero] at hd
 rw [show ((0:Nat):Int)=0 from rfl] at hr
 rw [hr]
 simp only [Option.bind_some,ge_iff_le]
 rw [hd,BL]
def tH (ρ:Pt→Bool) (r:Rc):Bool:=ρ ⟨false,[],r.f0⟩ && (decide (r.f1≤2) && (rX r.f2 && rX r.f3))
def xP (ρ:Pt→Bool) (k0:Nat) (p:Pt):Prop:=∀ k,k0≤k→dM.f k p.f0 p.f1 p.f2.f0 p.f2.f1 p.f2.f2=some (ρ p)
theorem ZH {ρ:Pt→Bool} {k0:Nat} {r:Rc} (h:xP ρ k0 ⟨false,[],r.f0⟩) (k:Nat) (hk:k0 + 3≤k):ig.f k r.f0.f0 r.f0.f1 r.f0.f2 r.f1 r.f2 r.f3=some (!tH ρ r):=by
 unfold ig.f kC.f tH
 rw [h k az]
 simp only [Option.bind_some]
 cases ρ ⟨false,[],r.f0⟩ with
 |false=>rfl
 |true=>
  rw [if_pos rfl]
  by_cases h2:r.f1≤2
  ·rw [if_pos h2,Jr _ cF k (by simp;omega),decide_eq_true h2]
   simp
  ·rw [if_neg h2,decide_eq_false h2]
   rfl
theorem UW {ρ:Pt→Bool} {k0:Nat} (l:List Rc) (hm:l.length≤9223372036854775807) (h:∀ r∈l,xP ρ k0 ⟨false,[],r.f0⟩):∀ (d k n:Nat),n + d=l.length→d + k0 + 3 < k→
 ∃ r,aD.l0 k l (l.length:Int) (n:Int)=some r∧(decide (0≤r))=(l.drop n).any fun x=>!tH ρ x:=by
 intro d
 induction d with
 |zero=>
  intro k n hn hk
  obtain ⟨k,rfl⟩:∃ m,k=m + 1:=⟨k - 1,az⟩
  exact ⟨-1,by simp only [aD.l0];rw [if_neg az],by rw [List.drop_of_length_le az];rfl⟩
 |succ d ih=>
  intro k n hn hk
  obtain ⟨k,rfl⟩:∃ m,k=m + 1:=⟨k - 1,az⟩
  have hlt:n < l.length:=by omega
  have hrd:bM l (n:Int)=l[n]:=by unfold bM;simp [List.getD_eq_getElem?_getD,List.getElem?_eq_getElem hlt]
  have hw:wrap64 ((n:Int) + 1)=((n + 1:Nat):Int):=by unfold wrap64;omega
  rw [List.drop_eq_getElem_cons hlt,List.any_cons]
  simp only [aD.l0]
  rw [if_pos az,if_pos az,if_pos az,hrd,ZH (h _ (List.getElem_mem hlt)) k az]
  simp only [Option.bind_some]
  cases hv:tH ρ l[n] with
  |true=>
   obtain ⟨r,hr,hd⟩:=ih k (n + 1) az az
   exact ⟨r,N0,by rw [hd];simp⟩
  |false=>exact ⟨(n:Int),cF,cF⟩
theorem UX {ρ:Pt→Bool} {k0:Nat} (l:List Rc) (hm:l.length≤9223372036854775807) (h:∀ r∈l,xP ρ k0 ⟨false,[],r.f0⟩) (k:Nat) (hk:l.length + k0 + 3 < k):
 ((aY.f k l).bind fun t=>(some (!t)))=some (l.all (tH ρ)):=by
 unfold aY.f aD.f
 obtain ⟨r,hr,hd⟩:=UW l hm h l.length k 0 az az
 rw [List.drop_zero] at hd
 rw [show ((0:Nat):Int)=0 from rfl] at hr
 rw [hr]
 simp only [Option.bind_some,ge_iff_le]
 rw [hd,BL]
def rY (ρ:Pt→Bool) (m:Ml):Bool:=
 decide (1≤m.f0) && (decide (m.f0 < 1099511627776) && (rX m.f4 && (decide (m.f1.f1.length=0) && (ρ m.f1 && ((m.f1.f0 || !decide (m.f1.f2.f1.toList= [])) && (decide (m.f3.length≤524288) && (decide (1≤m.f2.length) && (decide (m.f2.length≤100) && m.f2.all (tH ρ)))))))))
structure Js (ρ:Pt→Bool) (k0:Nat) (m:Ml):Prop where
 frm:xP ρ k0 m.f1
 rcs:∀ r∈m.f2,xP ρ k0 ⟨false,[],r.f0⟩
theorem RX {ρ:Pt→Bool} {k0:Nat} {m:Ml} (h:Js ρ k0 m) (hm:m.f2.length≤9223372036854775807) (k:Nat) (hk:k0 + 110≤k):
 (if (m.f3.length:Int) > 524288 then (some false) else (if (m.f2.length:Int)≥1 then (if (m.f2.length:Int)≤100 then ((aY.f k m.f2).bind fun t235=>(some (!t235))) else (some false)) else (some false)))=
   some (decide (m.f3.length≤524288) && (decide (1≤m.f2.length) && (decide (m.f2.length≤100) && m.f2.all (tH ρ)))):=by
 by_cases h1:m.f3.length≤524288
 ·rw [if_neg az,decide_eq_true h1,Bool.true_and]
  by_cases h2: 1≤m.f2.length
  ·rw [if_pos az,decide_eq_true h2,Bool.true_and]
   by_cases h3:m.f2.length≤100
   ·rw [if_pos az,decide_eq_true h3,Bool.true_and,UX m.f2 hm h.rcs k az]
   ·rw [if_neg az,decide_eq_false h3];rfl
  ·rw [if_neg az,decide_eq_false h2];rfl
 ·rw [if_pos az,decide_eq_false h1];rfl
theorem ZI {ρ:Pt→Bool} {k0:Nat} {m:Ml} (h:Js ρ k0 m) (hm:m.f2.length≤9223372036854775807) (k:Nat) (hk:k0 + 110≤k):
 gJ.f k m.f0 m.f1.f0 m.f1.f1 m.f1.f2.f0 m.f1.f2.f1 m.f1.f2.f2 m.f2 m.f3 m.f4=some (rY ρ m):=by
 unfold gJ.f rY
 by_cases h1: 1≤m.f0
 ·rw [if_neg az,decide_eq_true h1,Bool.true_and]
  by_cases h2:m.f0 < 1099511627776
  ·rw [if_neg az,decide_eq_true h2,Bool.true_and,Jr [m.f4] cF k (by simp;omega)]
   simp only [Option.bind_some,List.all_cons,List.all_nil,Bool.and_true]
   cases rX m.f4 with
   |false=>rfl
   |true=>
    rw [if_pos rfl,Bool.true_and]
    by_cases h3:m.f1.f1.length=0
    ·rw [if_neg az,decide_eq_true h3,Bool.true_and,h.frm k az]
     simp only [Option.bind_some]
     cases ρ m.f1 with
     |false=>rfl
     |true=>
      rw [if_pos rfl,Bool.true_and]
      have ht:=RX h hm k hk
      cases h4:m.f1.f0 with
      |true=>rw [if_pos rfl,Bool.true_or,Bool.true_and];exact ht
      |false=>
       rw [if_neg bC,Bool.false_or]
       by_cases h5:m.f1.f2.f1.toList= []
       ·rw [if_pos h5,decide_eq_true h5];rfl
       ·rw [if_neg h5,decide_eq_false h5,Bool.not_false,Bool.true_and];exact ht
    ·rw [if_pos az,decide_eq_false h3];rfl
  ·rw [if_pos az,decide_eq_false h2];rfl
 ·rw [if_pos az,decide_eq_false h1];rfl
def jC (m:Ml):Bool:=decide (m.f0=0) && (decide (m.f4=0) && (!m.f1.f0 && (decide (m.f1.f1.length=0) && ((m.f1.f2.f0.toList == ([]:List UInt8) && (m.f1.f2.f1.toList == ([]:List UInt8) && (!m.f1.f2.f2))) && decide (m.f2.length + m.f3.length=0)))))
theorem yU (m:Ml) (h2:m.f2.length≤9223372036854775807) (h3:m.f3.length≤9223372036854775807):dc.f m.f0 m.f1.f0 m.f1.f1 m.f1.f2.f0 m.f1.f2.f1 m.f1.f2.f2 m.f2 m.f3 m.f4=some (jC m):=by
 unfold dc.f jC
 by_cases a:m.f0=0
 ·rw [if_pos a,decide_eq_true a,Bool.true_and]
  by_cases b:m.f4=0
  ·rw [if_pos b,decide_eq_true b,Bool.true_and]
   cases m.f1.f0 with
   |true=>rfl
   |false=>
    rw [if_neg bC,Bool.not_false,Bool.true_and]
    by_cases c:m.f1.f1.length=0
    ·rw [if_pos az,decide_eq_true c,Bool.true_and]
     cases (m.f1.f2.f0.toList == ([]:List UInt8) && (m.f1.f2.f1.toList == ([]:List UInt8) && (!m.f1.f2.f2))) with
     |false=>rfl
     |true=>
      rw [if_pos rfl,Bool.true_and]
      congr 1
      rw [Bool.eq_iff_iff,beq_iff_eq,decide_eq_true_iff]
      unfold wrap64
      omega
    ·rw [if_neg az,decide_eq_false c];rfl
  ·rw [if_neg b,decide_eq_false b];rfl
 ·rw [if_neg a,decide_eq_false a];rfl
def oJ (ρ:Pt→Bool) (kind id at_ due:Int) (m:Ml):Bool:=
 [id,at_,due].all rX && (if kind=1 then decide (id + at_ + due=0) && rY ρ m else if kind=5 then decide (at_ + due=0) && (jC m || rY ρ m) else if kind=2 then jC m else if kind=3∨kind=4 then decide (due=0) && jC m else if kind=6 then decide (at_ + due=0) && jC m else false)
theorem RY {α:Type} (o:Option α):(o.bind fun t=>some t)=o:=by cases o<;>rfl
theorem change_eq {ρ:Pt→Bool} {k0:Nat} {m:Ml} (h:Js ρ k0 m) (h2:m.f2.length≤9223372036854775807) (h3:m.f3.length≤9223372036854775807) (kind id at_ due:Int) (k:Nat) (hk:k0 + 112≤k):
 cK.f k kind id at_ due m.f0 m.f1.f0 m.f1.f1 m.f1.f2.f0 m.f1.f2.f1 m.f1.f2.f2 m.f2 m.f3 m.f4=some (oJ ρ kind id at_ due m):=by
 obtain ⟨k,rfl⟩:∃ j,k=j + 1:=⟨k - 1,az⟩
 unfold cK.f oJ
 rw [Jr _ cF _ (by simp;omega)]
 simp only [Option.bind_some]
 cases ht: [id,at_,due].all rX with
 |false=>rfl
 |true=>
  have hb:(0≤id∧id≤1099511627776)∧(0≤at_∧at_≤1099511627776)∧(0≤due∧due≤1099511627776):=by simpa [rX] using ht
  rw [if_pos rfl,Bool.true_and]
  simp only [yU m h2 h3,ZI h h2 (k + 1) az,cK.j0,Option.bind_some,RY]
  by_cases k1:kind=1
  ·rw [if_pos k1,if_pos k1]
   by_cases z:id + at_ + due=0
   ·rw [if_pos wX,decide_eq_true z,Bool.true_and]
   ·rw [if_neg wX,decide_eq_false z];rfl
  ·rw [if_neg k1,if_neg k1]
   by_cases k5:kind=5
   ·rw [if_pos k5,if_pos k5]
    by_cases z:at_ + due=0
    ·rw [if_pos wX,decide_eq_true z,Bool.true_and]
     cases jC m<;>rfl
    ·rw [if_neg wX,decide_eq_false z];rfl
   ·rw [if_neg k5,if_neg k5]
    by_cases k2:kind=2
    ·rw [if_pos k2,if_pos k2]
    ·rw [if_neg k2,if_neg k2]
     by_cases k3:kind=3
     ·subst k3
      simp
      by_cases z:due=0
      ·simp [z]
      ·simp [z]
     ·rw [if_neg k3]
      by_cases k4:kind=4
      ·subst k4
       simp
       by_cases z:due=0
       ·simp [z]
       ·simp [z]
      ·have e4:(kind == 4)=false:=by simpa using k4
       rw [e4,if_neg bC,if_neg (show ¬ (kind=3∨kind=4) by omega)]
       by_cases k6:kind=6
       ·rw [if_pos k6,if_pos k6]
        by_cases z:at_ + due=0
        ·rw [if_pos wX,decide_eq_true z,Bool.true_and]
        ·rw [if_neg wX,decide_eq_false z];rfl
       ·rw [if_neg k6,if_neg k6]
theorem Lb (ms:List Ml) (hl:ms.length≤1034834473200) (ho:∀ m∈ms,rK m) (n:Int):∀ (d k i:Nat),i + d=ms.length→d < k→
 cx.l0 k ms (ms.length:Int) (i:Int) n (ms.take i)=some (n,ms):=by
 intro d
 induction d with
 |zero=>
  intro k i hi hk
  obtain ⟨k,rfl⟩:∃ m,k=m + 1:=⟨k - 1,az⟩
  simp only [cx.l0]
  rw [if_neg az,List.take_of_length_le az]
 |succ d ih=>
  intro k i hi hk
  obtain ⟨k,rfl⟩:∃ m,k=m + 1:=⟨k - 1,az⟩
  have hlt:i < ms.length:=by omega
  have hrd:aj ms (i:Int)=ms[i]:=by unfold aj;simp [List.getD_eq_getElem?_getD,List.getElem?_eq_getElem hlt]
  have hw:wrap64 ((i:Int) + 1)=((i + 1:Nat):Int):=by unfold wrap64;omega
  simp only [cx.l0]
  rw [if_pos az,if_pos az,if_pos az,hrd,Ef (ho _ (List.getElem_mem hlt))]
  simp only [Option.bind_some]
  rw [if_pos (by rw [List.length_take];omega),hw]
  have h1:=ih k (i + 1) az az
  rw [List.take_succ_eq_append_getElem hlt] at h1
  exact h1
theorem copied_eq (ms:List Ml) (hl:ms.length≤1034834473200) (ho:∀ m∈ms,rK m) (n:Int) (k:Nat) (hk:ms.length < k):cx.f k n ms=some (n,ms):=by
 unfold cx.f
 have h:=Lb ms hl ho n ms.length k 0 az hk
 rw [List.take_zero] at h
 exact h
end Go.Proofs.YtbjjaaodfbjkfaaGreatDoor.tG
namespace Go.Proofs.YtbjjaaodfbjkfaaGreatDoor.UY
open Go.RowKit Go.Proofs.YtbjjaaodfbjkfaaGreatDoor Go.Proofs.YtbjjaaodfbjkfaaGreatDoor.mU Go.Proofs.ak.bR Go.Proofs.ak.cZ
set_option linter.unusedVariables false
set_option linter.unusedSimpArgs false
def rest (s:ByteArray) (p:Nat):List UInt8:=s.data.toList.drop p
theorem n9 (s:ByteArray) (p:Nat):(rest s p).length=s.size - p:=by
 unfold rest
 rw [List.length_drop,jc]
theorem Et (s:ByteArray) (p n:Nat):rest s (p + n)=(rest s p).drop n:=by
 unfold rest
 rw [List.drop_drop]
theorem FI {s:ByteArray} {p:Nat} {b:UInt8} {l:List UInt8} (h:rest s p=b :: l):p < s.size∧bt s (p:Int)=(b.toNat:Int)∧rest s (p + 1)=l:=by
 have hlen:=n9 s p
 rw [h] at hlen
 have hp:p < s.size:=by simp at hlen;omega
 refine ⟨hp,?_,?_⟩
 ·have h0:(rest s p)[0]? =some b:=by rw [h];rfl
  unfold rest at h0
  rw [List.getElem?_drop] at h0
  unfold bt
  have hp':((p:Int)).toNat < s.size:=by omega
  rw [dif_pos hp']
  have h1:s[((p:Int)).toNat]'hp'=b:=by
   have h2:s.data.toList[p]? =some b:=by simpa using h0
   rw [List.getElem?_eq_getElem (by rw [jc];exact hp)] at h2
   have h3:=Option.some.inj h2
   rw [← h3]
   simp [ByteArray.getElem_eq_getElem_data]
  rw [h1]
 ·rw [Et,h]
  rfl
theorem Lc {s:ByteArray} {p:Nat} (h:rest s p= []):s.size≤p:=by
 have hlen:=n9 s p
 rw [h] at hlen
 simp at hlen
 omega
theorem qM (s:ByteArray) (p q:Nat) (_h:p≤q):s.extract p q=cS ((rest s p).take (q - p)):=by
 apply ByteArray.ext
 rw [← Array.toList_inj]
 simp [cS,rest]
theorem wz {α:Type} (P:α→Bool):∀ l:List α,l.take (l.takeWhile P).length=l.takeWhile P
 | []=>rfl
 |b :: l=>by
  by_cases hb:P b=true
  ·simp [hb,wz P l]
  ·simp [hb]
theorem FJ (n:Nat) (h:n < 4611686018427387904):wrap64 ((n:Int) + 1)=((n + 1:Nat):Int):=by unfold wrap64;omega
def qX (c:UInt8):List UInt8→Bool
 | []=>false
 |b :: _ =>b == c
theorem ZJ (s:ByteArray) (p:Nat) (c:UInt8) (ci:Int) (hc:ci=(c.toNat:Int)) (hs:s.size < 4611686018427387904):
 jq.f s (p:Int) ci=some (qX c (rest s p),s,(((if qX c (rest s p)=true then p + 1 else p):Nat):Int)):=by
 subst hc
 unfold jq.f
 cases hr:rest s p with
 |nil=>
  have:=Lc hr
  rw [if_neg az]
  rfl
 |cons b l=>
  obtain ⟨h1,h2,_⟩:=FI hr
  rw [if_pos az,if_pos az,h2]
  by_cases hb:b=c
  ·subst hb
   rw [if_pos rfl,FJ p az]
   simp [qX]
  ·rw [if_neg (by intro h;exact hb (UInt8.toNat_inj.mp az))]
   simp [qX,hb]
def yV (b:UInt8):Bool:=(fH.f (b.toNat:Int)).getD false
theorem ZK (b:UInt8):fH.f (b.toNat:Int)=some (yV b):=by
 unfold yV
 have h:(fH.f (b.toNat:Int)).isSome=true:=by
  have h2:∀ n,n < 256→(fH.f ((n:Nat):Int)).isSome=true:=by decide +kernel
  exact h2 _ (UInt8.toNat_lt b)
 cases hf:fH.f (b.toNat:Int) with
 |none=>rw [hf] at h;cases h
 |some x=>rfl
theorem Qq (s:ByteArray) (hs:s.size < 4611686018427387904) (a:Nat):∀ (k p:Nat),(rest s p).length < k→a≤p→p≤s.size→
 aQ.l0 k (a:Int) s (p:Int)=some (s.extract a (p + ((rest s p).takeWhile yV).length),decide (a < p + ((rest s p).takeWhile yV).length),s,((p + ((rest s p).takeWhile yV).length:Nat):Int))
 | 0,p,h,_,_ =>absurd h (Nat.not_lt_zero _)
 |k + 1,p,h,ha,hp=>by
  unfold aQ.l0
  cases hr:rest s p with
  |nil=>
   have:=Lc hr
   rw [if_neg az,if_pos az,if_pos az,if_pos az]
   simp
   try exact decide_eq_decide.mpr Iff.rfl
  |cons c l=>
   obtain ⟨h1,h2,h3⟩:=FI hr
   rw [if_pos az,if_pos az,h2,ZK]
   simp only [Option.bind_some]
   by_cases hb:yV c=true
   ·rw [if_pos hb,FJ p az,Qq s hs a k (p + 1) (by rw [h3];rw [hr] at h;simp at h;omega) az az,h3]
    have e:p + 1 + (l.takeWhile yV).length=p + ((c :: l).takeWhile yV).length:=by simp [hb];omega
    rw [e]
   ·rw [if_neg hb,if_pos az,if_pos az,if_pos az]
    simp [hb]
theorem aec (s:ByteArray) (hs:s.size < 4611686018427387904) (k p:Nat) (hk:(rest s p).length < k) (hp:p≤s.size):
 aQ.f k s (p:Int)=some (cS ((rest s p).takeWhile yV),decide (0 < ((rest s p).takeWhile yV).length),s,((p + ((rest s p).takeWhile yV).length:Nat):Int)):=by
 unfold aQ.f
 rw [Qq s hs p k p hk (Nat.le_refl _) hp,qM _ _ _ az,Nat.add_sub_cancel_left,wz]
 congr 2
 simp
theorem UZ (l:List UInt8) (i:Nat) (h:i < l.length):bt (cS l) (i:Int)=((l.getD i 0).toNat:Int):=by
 unfold bt
 have h':((i:Int)).toNat < (cS l).size:=by show _ < l.length;omega
 rw [dif_pos h']
 have:(cS l)[((i:Int)).toNat]'(h')=l.getD i 0:=by
  simp only [Int.toNat_natCast]
  rw [List.getD_eq_getElem?_getD,List.getElem?_eq_getElem h]
  rfl
 rw [this]
theorem iz (l:List UInt8):(cS l).size=l.length:=rfl
theorem zQ {α:Type} (P:α→Bool) (l:List α):(l.takeWhile P).length≤l.length:=(List.takeWhile_sublist P).length_le
def jZ (l:List UInt8):Bool×Nat:=
 (match l.takeWhile yV with
  | []=>false
  |c :: t=>c != 45 && (c :: t).getD t.length 0 != 45,(l.takeWhile yV).length)
theorem toNat_eq {a b:UInt8} (h:(a.toNat:Int)=(b.toNat:Int)):a=b:=UInt8.toNat_inj.mp az
theorem label_eq (s:ByteArray) (hs:s.size < 4611686018427387904) (k p:Nat) (hk:(rest s p).length < k) (hp:p≤s.size):
 fk.f k s (p:Int)=some ((jZ (rest s p)).1,s,((p + (jZ (rest s p)).2:Nat):Int)):=by
 unfold fk.f jZ
 rw [aec s hs k p hk hp]
 simp only [Option.bind_some]
 have hle:=zQ yV (rest s p)
 have hrl:=n9 s p
 generalize (rest s p).takeWhile yV=w at hle ⊢
 cases w with
 |nil=>simp
 |cons c t=>
  have h0:bt (cS (c :: t)) 0=(c.toNat:Int):=UZ (c :: t) 0 cF
  have e1:wrap64 (((cS (c :: t)).size:Int) - 1)=(t.length:Int):=by
   rw [iz]
   unfold wrap64
   simp at hle ⊢
   omega
  have h1:bt (cS (c :: t)) (t.length:Int)=(((c :: t).getD t.length 0).toNat:Int):=UZ (c :: t) t.length cF
  rw [if_pos cF,if_pos (by rw [iz];first|(simp;done)|(simp;omega)),h0,e1,h1]
  by_cases hc:c=45
  ·subst hc
   rw [if_pos (show ((UInt8.toNat 45:Nat):Int)=45 from rfl)]
   simp
  ·rw [if_neg (show ¬ (c.toNat:Int)=45 from fun h=>hc (toNat_eq (b:=45) h)),if_pos az,if_pos (by rw [iz];first|(simp;done)|(simp;omega))]
   have:((((c :: t).getD t.length 0).toNat:Int) != 45)=((c :: t).getD t.length 0 != 45):=by
    by_cases hl:(c :: t).getD t.length 0=45
    ·rw [hl];rfl
    ·rw [bne_iff_ne.mpr hl,bne_iff_ne.mpr (show (((c :: t).getD t.length 0).toNat:Int)≠45 from fun h=>hl (toNat_eq (b:=45) h))]
   rw [this]
   simp [hc]
theorem FL (l:List UInt8):(jZ l).2≤l.length:=zQ _ _
def Eu (part:List UInt8→Bool×Nat) (c:UInt8):Nat→List UInt8→Bool×Nat
 | 0,_ =>(false,0)
 |n + 1,l=>if (part l).1=true then (if qX c (l.drop (part l).2)=true then ((Eu part c n (l.drop ((part l).2 + 1))).1,(part l).2 + 1 + (Eu part c n (l.drop ((part l).2 + 1))).2) else (true,(part l).2)) else (false,(part l).2)
def nD (part:List UInt8→Bool×Nat) (c:UInt8) (l:List UInt8):Bool×Nat:=Eu part c (l.length + 1) l
theorem rZ {c:UInt8} {l:List UInt8} {n:Nat} (h:qX c (l.drop n)=true):n < l.length:=by
 rcases Nat.lt_or_ge n l.length with h1|h1
 ·exact h1
 ·rw [List.drop_of_length_le h1] at h
  cases h
theorem FM (part:List UInt8→Bool×Nat) (c:UInt8):∀ (n m:Nat) (l:List UInt8),l.length < n→l.length < m→Eu part c n l=Eu part c m l
 | 0,_,_,h,_ =>absurd h (Nat.not_lt_zero _)
 |_,0,_,_,h=>absurd h (Nat.not_lt_zero _)
 |n + 1,m + 1,l,h1,h2=>by
  unfold Eu
  by_cases hp:(part l).1=true
  ·rw [if_pos hp,if_pos hp]
   by_cases hn:qX c (l.drop (part l).2)=true
   ·have:=rZ hn
    rw [if_pos hn,if_pos hn,FM part c n m _ wU wU]
   ·rw [if_neg hn,if_neg hn]
  ·rw [if_neg hp,if_neg hp]
theorem Ld (part:List UInt8→Bool×Nat) (c:UInt8) (l:List UInt8):
 nD part c l=if (part l).1=true then (if qX c (l.drop (part l).2)=true then ((nD part c (l.drop ((part l).2 + 1))).1,(part l).2 + 1 + (nD part c (l.drop ((part l).2 + 1))).2) else (true,(part l).2)) else (false,(part l).2):=by
 unfold nD
 rw [Eu]
 by_cases hp:(part l).1=true
 ·rw [if_pos hp,if_pos hp]
  by_cases hn:qX c (l.drop (part l).2)=true
  ·have:=rZ hn
   rw [if_pos hn,if_pos hn,FM part c l.length ((l.drop ((part l).2 + 1)).length + 1) _ wU az]
  ·rw [if_neg hn,if_neg hn]
 ·rw [if_neg hp,if_neg hp]
theorem Le (part:List UInt8→Bool×Nat) (c:UInt8) (hpart:∀ l,(part l).2≤l.length):∀ (n:Nat) (l:List UInt8),l.length < n→(nD part c l).2≤l.length
 | 0,_,h=>absurd h (Nat.not_lt_zero _)
 |n + 1,l,h=>by
  rw [Ld]
  have hl:=hpart l
  by_cases hp:(part l).1=true
  ·rw [if_pos hp]
   by_cases hn:qX c (l.drop (part l).2)=true
   ·have h1:=rZ hn
    have h2:=Le part c hpart n (l.drop ((part l).2 + 1)) wU
    rw [List.length_drop] at h2
    rw [if_pos hn]
    show _ + 1 + _≤_
    omega
   ·rw [if_neg hn]
    exact hl
  ·rw [if_neg hp]
   exact hl
theorem Ew (s:ByteArray) (hs:s.size < 4611686018427387904):∀ (k p:Nat),(rest s p).length + 1 < k→p≤s.size→
 aX.l0 k 46 s (p:Int)=some ((nD jZ 46 (rest s p)).1,s,((p + (nD jZ 46 (rest s p)).2:Nat):Int))
 | 0,p,h,_ =>absurd h az
 |k + 1,p,h,hp=>by
  have hle:=FL (rest s p)
  have hrl:=n9 s p
  unfold aX.l0
  rw [label_eq s hs k p az hp,Ld]
  simp only [Option.bind_some]
  by_cases h1:(jZ (rest s p)).1=true
  ·rw [if_pos h1,if_pos h1,ZJ s _ 46 46 rfl hs]
   simp only [Option.bind_some,Et]
   by_cases h2:qX 46 ((rest s p).drop (jZ (rest s p)).2)=true
   ·have h3:=rZ h2
    rw [if_pos h2,if_pos h2,if_pos h2]
    have h4:=Ew s hs k (p + (jZ (rest s p)).2 + 1) (by rw [n9];omega) az
    rw [h4,Nat.add_assoc p,Et]
    congr 3
    omega
   ·rw [if_neg h2,if_neg h2,if_neg h2]
  ·rw [if_neg h1,if_neg h1]
def MT (l:List UInt8):Bool×ByteArray×Nat:=((nD jZ 46 l).1,eX.g (cS (l.take (nD jZ 46 l).2)),(nD jZ 46 l).2)
theorem ZL (l:List UInt8):(MT l).2.2≤l.length:=Le jZ 46 FL _ l (Nat.lt_succ_self _)
theorem domain_eq (s:ByteArray) (hs:s.size < 4611686018427387904) (k p:Nat) (hk:(rest s p).length + 1 < k) (hp:p≤s.size):
 cG.f k s (p:Int)=some ((MT (rest s p)).2.1,(MT (rest s p)).1,s,((p + (MT (rest s p)).2.2:Nat):Int)):=by
 have hle:=ZL (rest s p)
 have hrl:=n9 s p
 unfold MT at hle ⊢
 simp only at hle ⊢
 unfold cG.f aX.f
 rw [Ew s hs k p hk hp]
 simp only [Option.bind_some]
 rw [if_pos az,if_pos az,if_pos az]
 have e:s.extract ((p:Int)).toNat (((p + (nD jZ 46 (rest s p)).2:Nat):Int)).toNat=cS ((rest s p).take (nD jZ 46 (rest s p)).2):=by
  rw [Int.toNat_natCast,Int.toNat_natCast,qM _ _ _ az,Nat.add_sub_cancel_left]
 rw [e]
 have hf:eX.f (cS ((rest s p).take (nD jZ 46 (rest s p)).2))=some (eX.g (cS ((rest s p).take (nD jZ 46 (rest s p)).2))):=by
  unfold eX.f
  rw [if_pos]
  rw [iz,List.length_take]
  omega
 rw [hf]
 rfl
theorem ltI {b c:UInt8}:((b.toNat:Int) < (c.toNat:Int))↔b < c:=by
 rw [UInt8.lt_iff_toNat_lt]
 omega
theorem aj8 {b:UInt8}:((b.toNat:Int) < 32)↔b < 32:=ltI (c:=32)
theorem abL {b:UInt8}:((b.toNat:Int) > 126)↔126 < b:=ltI (b:=126)
theorem zR (k0:Nat) {xs:List ByteArray} (hf:∀ y,y∈xs→∀ k,k0≤k→∃ r,lS.f y=some r):∀ (k i:Nat),xs.length - i + k0 < k→i≤xs.length→xs.length < 4611686018427387904→∃ r,aK.l0 k xs (xs.length:Int) (i:Int)=some r
 | 0,_,h,_,_ =>absurd h (Nat.not_lt_zero _)
 |k + 1,i,h,hi,hl=>by
  unfold aK.l0
  by_cases hlt:i < xs.length
  ·rw [if_pos az,if_pos az,if_pos az]
   have hrd:nu ByteArray.empty xs (i:Int)=xs[i]:=by simp [nu,hlt]
   obtain ⟨r,hr⟩:=hf xs[i] (List.getElem_mem hlt) k az
   rw [hrd,hr]
   simp only [Option.bind_some]
   split
   ·exact ⟨_,rfl⟩
   ·rw [FJ i az]
    exact zR k0 hf k (i + 1) az az hl
  ·rw [if_neg az]
   exact ⟨_,rfl⟩
theorem E9 (k0 k:Nat) {xs:List ByteArray} (hf:∀ y,y∈xs→∀ k,k0≤k→∃ r,lS.f y=some r) (hk:xs.length + k0 < k) (hl:xs.length < 4611686018427387904):∃ r,aK.f k xs=some r:=zR k0 hf k 0 az (Nat.zero_le _) hl
theorem Ex (x:ByteArray) (c:UInt8) (hx:x.size < 4294967281):strings_Split.f x ⟨#[c]⟩=some ((pieces c x.data.toList).map cS):=by
 unfold strings_Split.f
 rw [show one? ⟨#[c]⟩=some c from rfl]
 simp only [if_pos hx]
theorem MU (c:UInt8) (x:ByteArray):((pieces c x.data.toList).map cS).length≤x.size + 1:=by
 rw [List.length_map,nA]
 have:=List.count_le_length (a:=c) (l:=x.data.toList)
 rw [jc] at this
 omega
theorem MV (x:ByteArray) (k:Nat) (hk:x.size + 2 < k):∃ r,fZ.f k x=some r:=by
 unfold fZ.f
 split
 ·rename_i h
  have hn:=MU 46 x
  rw [Ex x 46 az]
  simp only [Option.bind_some]
  obtain ⟨r,hr⟩:=E9 0 k (xs:=(pieces 46 x.data.toList).map cS) (fun y _ _ _ =>⟨_,rfl⟩) az az
  unfold bS.f
  rw [hr]
  exact ⟨_,rfl⟩
 ·exact ⟨_,rfl⟩
def Agree (n:Nat) (l l2:List UInt8):Prop:=l2.take (n + 1)=l.take (n + 1)
theorem Agree.le {n m:Nat} {l l2:List UInt8} (h:Agree n l l2) (hm:m≤n):Agree m l l2:=by
 unfold Agree at h ⊢
 have:=congrArg (List.take (m + 1)) h
 rwa [List.take_take,List.take_take,Nat.min_eq_left az] at this
theorem Agree.drop {n a:Nat} {l l2:List UInt8} (h:Agree (a + n) l l2):Agree n (l.drop a) (l2.drop a):=by
 unfold Agree at h ⊢
 rw [List.take_drop,List.take_drop,show a + (n + 1)=a + n + 1 from rfl,h]
theorem Agree.take {n m:Nat} {l l2:List UInt8} (h:Agree n l l2) (hm:m≤n + 1):l2.take m=l.take m:=by
 cases m with
 |zero=>simp
 |succ m=>exact h.le az
def Ey (b:UInt8):UInt8:=UInt8.ofNat (GI (b.toNat:Int)).toNat
theorem Lf (l:List UInt8):eX.g (cS l)=cS (l.map Ey):=by
 unfold eX.g strOfNums bytesOf cS
 congr 1
 simp only [List.map_map]
 rfl
def aed (b:UInt8):Prop:=¬ (b < 32∨126 < b)
instance (b:UInt8):Decidable (aed b):=by unfold aed;infer_instance
def yq (d:List UInt8):Prop:=nD jZ 46 d=(true,d.length)∧d.map Ey=d
theorem FN {g:ByteArray→Bool} {xs:List ByteArray} (hf:∀ y,y∈xs→gY.f y=some (g y)):∀ (k i:Nat),xs.length - i < k→i≤xs.length→xs.length < 4611686018427387904→
 ∃ r,aH.l0 k xs (xs.length:Int) (i:Int)=some r∧decide (r≥0)=(xs.drop i).any g
 | 0,_,h,_,_ =>absurd h (Nat.not_lt_zero _)
 |k + 1,i,h,hi,hl=>by
  unfold aH.l0
  by_cases hlt:i < xs.length
  ·rw [if_pos az,if_pos az,if_pos az]
   have hrd:nu ByteArray.empty xs (i:Int)=xs[i]:=by simp [nu,hlt]
   have hd:xs.drop i=xs[i] :: xs.drop (i + 1):=List.drop_eq_getElem_cons hlt
   rw [hrd,hf xs[i] (List.getElem_mem hlt),hd,List.any_cons]
   simp only [Option.bind_some]
   cases hg:g xs[i] with
   |true=>exact ⟨_,if_pos rfl,cF⟩
   |false=>
    rw [if_neg bC,FJ i az]
    obtain ⟨r,h1,h2⟩:=FN hf k (i + 1) az az hl
    exact ⟨r,h1,by rw [h2];rfl⟩
  ·rw [if_neg az,List.drop_of_length_le az]
   exact ⟨_,rfl,rfl⟩
theorem aee {g:ByteArray→Bool} {xs:List ByteArray} (hf:∀ y,y∈xs→gY.f y=some (g y)) (k:Nat) (hk:xs.length < k) (hl:xs.length < 4611686018427387904):bJ.f k xs=some (xs.any g):=by
 obtain ⟨r,h1,h2⟩:=FN hf k 0 az (Nat.zero_le _) hl
 unfold bJ.f aH.f
 rw [show (0:Int)=((0:Nat):Int) from rfl,h1]
 simp only [Option.bind_some]
 rw [show decide (r≥((0:Nat):Int))=decide (r≥0) from rfl,h2,List.drop_zero]
def Dq (l:List UInt8):Bool:=(pu 10 255 (cS l)).isNone || decide (3 < l.length)
def xZ (l:List UInt8):Int:=if l.length=0 then 0 else if (pieces 58 l).any (fun p=>nB (cS p)) then -1 else ((pieces 58 l).length:Int)
def ZM (l:List UInt8):Bool:=
 if (Lib.cut l [58,58]).2.2=true then (decide (0≤xZ (Lib.cut l [58,58]).1) && (decide (0≤xZ (Lib.cut l [58,58]).2.1) && decide (xZ (Lib.cut l [58,58]).1 + xZ (Lib.cut l [58,58]).2.1≤6)))
 else xZ (Lib.cut l [58,58]).1 == 8
def U0 (l:List UInt8):Bool:=decide ((pieces 46 l).length=4) && !((pieces 46 l).any Dq)
def Ez (l:List UInt8):Bool:=decide (5 < l.length) && ((l.take 5).map Ey == [105,112,118,54,58])
def ZN (l:List UInt8):Bool:=if Ez l=true then ZM (l.drop 5) else U0 l
theorem FO (l:List UInt8) (hl:l.length < 4294967281):fO.f (cS l)=some (xZ l):=by
 unfold fO.f xZ
 rw [if_pos (by exact hl)]
 congr 1
 rw [iz]
 by_cases h0:l.length=0
 ·rw [if_pos h0,if_pos h0]
 ·rw [if_neg h0,if_neg h0]
  rw [List.any_map]
  rfl
theorem EA (c:UInt8) (l:List UInt8):(pieces c l).length≤l.length + 1:=by
 rw [nA]
 have:=List.count_le_length (a:=c) (l:=l)
 omega
theorem BM (l:List UInt8): -1≤xZ l∧xZ l≤l.length + 1:=by
 have h:=EA 58 l
 unfold xZ
 split
 ·omega
 ·split
  ·omega
  ·omega
theorem ZO (l:List UInt8):(Lib.cut l [58,58]).1.length≤l.length∧(Lib.cut l [58,58]).2.1.length≤l.length:=by
 unfold Lib.cut
 split
 ·refine ⟨?_,?_⟩
  ·rw [List.length_take];omega
  ·rw [List.length_drop];omega
 ·exact ⟨Nat.le_refl _,Nat.zero_le _⟩
theorem aef (l:List UInt8) (hl:l.length < 4294967281):tA.f (cS l)=some (ZM l):=by
 obtain ⟨h1,h2⟩:=ZO l
 have g1:=BM (Lib.cut l [58,58]).1
 have g2:=BM (Lib.cut l [58,58]).2.1
 unfold tA.f strings_Cut.f
 rw [if_pos (by exact hl)]
 simp only [Option.bind_some]
 show ((fO.f (cS (Lib.cut l [58,58]).1)).bind fun t151=>((fO.f (cS (Lib.cut l [58,58]).2.1)).bind fun t152=>_))=some (ZM l)
 rw [FO _ az,FO _ az]
 simp only [Option.bind_some]
 show (if (Lib.cut l [58,58]).2.2=true then _ else _)=_
 unfold ZM
 by_cases hg:(Lib.cut l [58,58]).2.2=true
 ·rw [if_pos hg,if_pos hg]
  by_cases ha: 0≤xZ (Lib.cut l [58,58]).1
  ·rw [if_pos az,decide_eq_true ha,Bool.true_and]
   by_cases hb: 0≤xZ (Lib.cut l [58,58]).2.1
   ·rw [if_pos az,decide_eq_true hb,Bool.true_and]
    have e:wrap64 (xZ (Lib.cut l [58,58]).1 + xZ (Lib.cut l [58,58]).2.1)=xZ (Lib.cut l [58,58]).1 + xZ (Lib.cut l [58,58]).2.1:=by unfold wrap64;omega
    rw [e]
   ·rw [if_neg az,decide_eq_false hb,Bool.false_and]
  ·rw [if_neg az,decide_eq_false ha,Bool.false_and]
 ·rw [if_neg hg,if_neg hg]
theorem U1 (l:List UInt8) (hl:l.length < 4294967281):gY.f (cS l)=some (Dq l):=by
 unfold gY.f Dq
 rw [if_pos qE]
 rfl
theorem U2 (c:UInt8) (l x:List UInt8) (h:x∈pieces c l):x.length≤l.length:=oI c l x h
theorem MW (l:List UInt8) (hl:l.length < 4294967281) (k:Nat) (hk:l.length + 4 < k):cX.f k (cS l)=some (ZN l):=by
 obtain ⟨k,rfl⟩:∃ k',k=k' + 1:=⟨k - 1,az⟩
 have abM:cX.j0 (k + 1) (cS l) false=some (U0 l):=by
  rw [cX.j0,if_neg bC,Ex _ 46 (by rw [iz];exact hl)]
  simp only [Option.bind_some]
  show (if (((pieces 46 l).map cS).length:Int)=4 then _ else _)=_
  unfold U0
  have hp:=EA 46 l
  by_cases h4:(pieces 46 l).length=4
  ·rw [if_pos wV,decide_eq_true h4,Bool.true_and]
   have ha:=aee (g:=fun y=>Dq y.data.toList) (xs:=(pieces 46 l).map cS) (fun y hy=>by
    obtain ⟨p,hp,rfl⟩:=List.mem_map.mp hy
    have:=U2 46 l p hp
    exact U1 p az) k wV wV
   show ((bJ.f k ((pieces 46 l).map cS)).bind _)=_
   rw [ha]
   simp only [Option.bind_some]
   rw [List.any_map]
   rfl
  ·rw [if_neg wV,decide_eq_false h4,Bool.false_and]
 unfold cX.f ZN
 rw [iz]
 by_cases h5: 5 < l.length
 ·rw [if_pos az,if_pos bC,if_pos az]
  have e1:(cS l).extract 0 5=cS (l.take 5):=by
   have:=qM (cS l) 0 5 az
   exact this
  have hf:eX.f (cS (l.take 5))=some (cS ((l.take 5).map Ey)):=by
   unfold eX.f
   rw [if_pos (by rw [iz,List.length_take];omega),Lf]
  rw [e1,hf]
  simp only [Option.bind_some]
  rw [show (cS ((l.take 5).map Ey)).toList=(l.take 5).map Ey from ByteArray.toList_eq ..]
  have hi:Ez l=((l.take 5).map Ey == [105,112,118,54,58]):=by unfold Ez;rw [decide_eq_true h5,Bool.true_and]
  rw [← hi]
  cases hs:Ez l with
  |true=>
   rw [if_pos rfl,cX.j0,if_pos rfl,if_pos qE]
   have e2:(cS l).extract 5 (cS l).size=cS (l.drop 5):=by
    rw [qM (cS l) 5 (cS l).size qE,iz]
    congr 1
    show (l.drop 5).take (l.length - 5)=l.drop 5
    exact List.take_of_length_le wU
   rw [e2,aef _ wU]
   rfl
  |false=>
   rw [if_neg bC]
   exact abM
 ·rw [if_neg az,abM,if_neg (by unfold Ez;rw [decide_eq_false h5];simp)]
def pN (x:ByteArray):Bool:=(fZ.f (x.size + 3) x).getD false
theorem Lg (x:ByteArray) (k:Nat) (hk:x.size + 2 < k):fZ.f k x=some (pN x):=by
 obtain ⟨r,hr⟩:=MV x (x.size + 3) az
 have h1:pN x=r:=by unfold pN;rw [hr];rfl
 rw [h1]
 exact Am (fun k=>fZ.mono x k) az hr
theorem BN {g:ByteArray→Bool} {k0:Nat} {xs:List ByteArray} (hf:∀ y,y∈xs→∀ k,k0≤k→gN.f k y=some (g y)):∀ (k i:Nat),xs.length - i + k0 < k→i≤xs.length→xs.length < 4611686018427387904→
 ∃ r,aM.l0 k xs (xs.length:Int) (i:Int)=some r∧decide (r≥0)=(xs.drop i).any g
 | 0,_,h,_,_ =>absurd h (Nat.not_lt_zero _)
 |k + 1,i,h,hi,hl=>by
  unfold aM.l0
  by_cases hlt:i < xs.length
  ·rw [if_pos az,if_pos az,if_pos az]
   have hrd:nu ByteArray.empty xs (i:Int)=xs[i]:=by simp [nu,hlt]
   have hd:xs.drop i=xs[i] :: xs.drop (i + 1):=List.drop_eq_getElem_cons hlt
   rw [hrd,hf xs[i] (List.getElem_mem hlt) k az,hd,List.any_cons]
   simp only [Option.bind_some]
   cases hg:g xs[i] with
   |true=>exact ⟨_,if_pos rfl,cF⟩
   |false=>
    rw [if_neg bC,FJ i az]
    obtain ⟨r,h1,h2⟩:=BN hf k (i + 1) az az hl
    exact ⟨r,h1,by rw [h2];rfl⟩
  ·rw [if_neg az,List.drop_of_length_le az]
   exact ⟨_,rfl,rfl⟩
theorem U3 {g:ByteArray→Bool} {k0:Nat} {xs:List ByteArray} (hf:∀ y,y∈xs→∀ k,k0≤k→gN.f k y=some (g y)) (k:Nat) (hk:xs.length + k0 < k) (hl:xs.length < 4611686018427387904):bE.f k xs=some (xs.any g):=by
 obtain ⟨r,h1,h2⟩:=BN hf k 0 az (Nat.zero_le _) hl
 unfold bE.f aM.f
 rw [show (0:Int)=((0:Nat):Int) from rfl,h1]
 simp only [Option.bind_some]
 rw [show decide (r≥((0:Nat):Int))=decide (r≥0) from rfl,h2,List.drop_zero]
theorem FP (lo dom:List UInt8) (lit:Bool) (k:Nat) (hk:dom.length + 2 < k):gv.f k (cS lo) (cS dom) lit=some (decide (lo.length≤64) && (lit || pN (cS dom))):=by
 unfold gv.f
 rw [iz]
 by_cases h:lo.length≤64
 ·rw [if_pos az,decide_eq_true h,Bool.true_and]
  cases lit with
  |true=>rfl
  |false=>
   rw [if_neg bC,Lg _ k (by rw [iz];exact hk)]
   rfl
 ·rw [if_neg az,decide_eq_false h]
  rfl
theorem Qr (l:List UInt8):rest (cS l) 0=l:=rfl
theorem toList_mk (l:List UInt8):(cS l).toList=l:=ByteArray.toList_eq ..
theorem MX (d:List UInt8) (hl:d.length < 4294967281) (k:Nat) (hk:d.length + 3 < k):iB.f k (cS d)=some (decide (nD jZ 46 d=(true,d.length)) && pN (cS d)):=by
 unfold iB.f
 have h1:=domain_eq (cS d) qE k 0 (by rw [Qr];omega) (Nat.zero_le _)
 rw [Qr] at h1
 rw [show (0:Int)=((0:Nat):Int) from rfl,h1]
 simp only [Option.bind_some,Nat.zero_add]
 have e1:(MT d).1=(nD jZ 46 d).1:=rfl
 have e2:(MT d).2.2=(nD jZ 46 d).2:=rfl
 rw [e1,e2]
 by_cases h2:(nD jZ 46 d).1=true
 ·rw [if_pos h2]
  by_cases h3:(nD jZ 46 d).2=d.length
  ·rw [if_pos qE,Lg _ k qE,decide_eq_true (Prod.ext h2 h3)]
   rfl
  ·rw [if_neg qE,decide_eq_false (fun e=>h3 (by rw [e]))]
   rfl
 ·rw [if_neg h2,decide_eq_false (fun e=>h2 (by rw [e]))]
  rfl
theorem FQ (d:List UInt8) (hl:d.length < 4294967281):eX.f (cS d)=some (cS (d.map Ey)):=by
 unfold eX.f
 rw [if_pos qE,Lf]
instance (d:List UInt8):Decidable (yq d):=by unfold yq;infer_instance
theorem Lh (d:List UInt8) (hl:d.length < 4294967281) (k:Nat) (hk:d.length + 3 < k):jr.f k (cS d)=some (decide (yq d) && pN (cS d)):=by
 unfold jr.f
 rw [MX d hl k hk]
 simp only [Option.bind_some]
 by_cases h1:nD jZ 46 d=(true,d.length)
 ·rw [decide_eq_true h1,Bool.true_and]
  cases hs:pN (cS d) with
  |true=>
   rw [if_pos rfl,FQ d hl]
   simp only [Option.bind_some]
   rw [toList_mk,toList_mk,Bool.and_true]
   by_cases h2:d.map Ey=d
   ·rw [h2,decide_eq_true ⟨h1,h2⟩]
    simp
   ·rw [decide_eq_false (fun h:yq d=>h2 h.2)]
    simp [h2]
  |false=>
   rw [if_neg bC,Bool.and_false]
 ·rw [decide_eq_false h1,Bool.false_and,if_neg bC,decide_eq_false (fun h:yq d=>h1 h.1)]
  rfl
def Jt (lo dom:List UInt8) (lit:Bool):Bool:=
 decide (lo.length≤64) && (if lit=true then ZN dom && decide (dom.map Ey=dom) else pN (cS dom) && decide (yq dom))
def Li (b:UInt8):Bool:=decide (aed b)
theorem FT (lo dom:List UInt8) (lit:Bool) (hlo:lo.length < 4294967281) (hl:dom.length < 4294967281):∀ (k i:Nat),lo.length - i + dom.length + 6 < k→i≤lo.length→
 cI.l0 k (lo.length:Int) (i:Int) (cS lo) (cS dom) lit=some ((lo.drop i).all Li && Jt lo dom lit)
 | 0,_,h,_ =>absurd h (Nat.not_lt_zero _)
 |k + 1,i,hk,hi=>by
  unfold cI.l0
  by_cases hlt:i < lo.length
  ·have hd:lo.drop i=lo[i] :: lo.drop (i + 1):=List.drop_eq_getElem_cons hlt
   have hb:bt (cS lo) (i:Int)=(lo[i].toNat:Int):=by
    rw [UZ lo i hlt,List.getD_eq_getElem?_getD,List.getElem?_eq_getElem hlt]
    rfl
   rw [if_pos az,if_pos az,if_pos qE,hb,hd,List.all_cons]
   by_cases h1:lo[i] < 32
   ·rw [if_pos (aj8.mpr h1)]
    have:Li lo[i]=false:=decide_eq_false (fun h=>h (.inl h1))
    rw [this]
    rfl
   ·rw [if_neg (fun h=>h1 (aj8.mp h))]
    by_cases h2: 126 < lo[i]
    ·rw [if_pos (abL.mpr h2)]
     have:Li lo[i]=false:=decide_eq_false (fun h=>h (.inr h2))
     rw [this]
     rfl
    ·rw [if_neg (fun h=>h2 (abL.mp h)),FJ i az]
     have:Li lo[i]=true:=decide_eq_true (fun h=>h.elim h1 h2)
     rw [this,Bool.true_and]
     exact FT lo dom lit hlo hl k (i + 1) az az
  ·rw [if_neg az,List.drop_of_length_le az,List.all_nil,Bool.true_and]
   unfold Jt
   cases lit with
   |true=>
    rw [if_pos rfl,if_pos rfl,FP lo dom true k az]
    simp only [Option.bind_some,Bool.true_or,Bool.and_true]
    by_cases h64:lo.length≤64
    ·rw [decide_eq_true h64,if_pos rfl,MW dom hl k az,Bool.true_and]
     simp only [Option.bind_some]
     cases hL:ZN dom with
     |true=>
      rw [if_pos rfl,FQ dom hl]
      simp only [Option.bind_some,Bool.true_and]
      rw [toList_mk,toList_mk]
      by_cases h2:dom.map Ey=dom
      ·rw [decide_eq_true h2,h2];simp
      ·rw [decide_eq_false h2];simp [h2]
     |false=>rw [if_neg bC];rfl
    ·rw [decide_eq_false h64,if_neg bC];rfl
   |false=>
    rw [if_neg bC,if_neg bC,FP lo dom false k az]
    simp only [Option.bind_some,Bool.false_or]
    by_cases h64:lo.length≤64
    ·rw [decide_eq_true h64,Bool.true_and,Bool.true_and]
     cases hs:pN (cS dom) with
     |true=>
      rw [if_pos rfl,Lh dom hl k az,hs]
      simp
     |false=>rw [if_neg bC];rfl
    ·rw [decide_eq_false h64,Bool.false_and,if_neg bC];rfl
def boxedB (lo dom:List UInt8) (lit:Bool):Bool:=lo.all Li && Jt lo dom lit
theorem U4 (lo dom:List UInt8) (lit:Bool) (hlo:lo.length < 4294967281) (hl:dom.length < 4294967281) (k:Nat) (hk:lo.length + dom.length + 6 < k):cI.f k (cS lo) (cS dom) lit=some (boxedB lo dom lit):=by
 unfold cI.f boxedB
 rw [iz]
 have:=FT lo dom lit hlo hl k 0 az (Nat.zero_le _)
 rw [List.drop_zero] at this
 exact this
def AZ (a:Bool) (ds:List (List UInt8)) (lo dom:List UInt8) (lit:Bool):Bool:=
 if a=true then decide (ds= []∧lo= []∧dom= []) && !lit
 else if lo= [112,111,115,116,109,97,115,116,101,114]∧dom= []∧lit=false then decide (ds= [])
 else boxedB lo dom lit && (decide (ds.length≤20) && ds.all fun d=>decide (yq d) && pN (cS d))
theorem U5 (ds:List (List UInt8)) (M:Nat) (hM:∀ d,d∈ds→d.length≤M) (hl:M < 4294967281) (k:Nat) (hk:ds.length + M + 10 < k) (h20:ds.length≤20):
 bE.f k (ds.map cS)=some (!(ds.all fun d=>decide (yq d) && pN (cS d))):=by
 rw [U3 (g:=fun y=>!(decide (yq y.data.toList) && pN y)) (k0:=M + 4) (fun y hy k hk=>by
  obtain ⟨d,hd',rfl⟩:=List.mem_map.mp hy
  have:=hM d hd'
  unfold gN.f
  rw [Lh d az k az]
  rfl) k wV wV]
 congr 1
 clear hM hk h20
 induction ds with
 |nil=>rfl
 |cons d ds ih=>
  rw [List.map_cons,List.any_cons,List.all_cons,ih]
  exact (Bool.not_and ..).symm
theorem Lj (ds:List (List UInt8)) (lo dom:List UInt8) (lit:Bool):AZ true ds lo dom lit=(decide (ds= []∧lo= []∧dom= []) && !lit):=rfl
theorem Ju (ds:List (List UInt8)):AZ false ds [112,111,115,116,109,97,115,116,101,114] [] false=decide (ds= []):=rfl
theorem MZ (ds:List (List UInt8)) (lo dom:List UInt8) (lit:Bool) (hp: ¬ (lo= [112,111,115,116,109,97,115,116,101,114]∧dom= []∧lit=false)):
 AZ false ds lo dom lit=(boxedB lo dom lit && (decide (ds.length≤20) && ds.all fun d=>decide (yq d) && pN (cS d))):=by
 unfold AZ
 rw [if_neg bC,if_neg hp]
theorem RZ (a:Bool) (ds:List (List UInt8)) (lo dom:List UInt8) (lit:Bool) (M:Nat) (hM:∀ d,d∈ds→d.length≤M) (hlo:lo.length≤M) (hd:dom.length≤M) (hl:M < 4294967281) (k:Nat) (hk: 2 * M + 110 < k):
 dM.f k a (ds.map cS) (cS lo) (cS dom) lit=some (AZ a ds lo dom lit):=by
 cases a with
 |true=>
  unfold dM.f
  rw [toList_mk,toList_mk,List.length_map,Lj,if_pos rfl]
  cases ds with
  |nil=>
   rw [if_pos (by rfl)]
   cases lo<;>cases dom<;>cases lit<;>rfl
  |cons d ds=>
   rw [if_neg (by rw [List.length_cons];omega)]
   simp
 |false=>
  by_cases hp:lo= [112,111,115,116,109,97,115,116,101,114]∧dom= []∧lit=false
  ·obtain ⟨rfl,rfl,rfl⟩:=hp
   unfold dM.f
   rw [toList_mk,toList_mk,List.length_map,Ju,if_neg bC,if_pos bC]
   cases ds with
   |nil=>rfl
   |cons d ds=>
    have e:(((d :: ds).length:Int) == 0)=false:=by
     rw [List.length_cons]
     exact beq_eq_false_iff_ne.mpr az
    rw [e]
    simp
  ·unfold dM.f
   rw [toList_mk,toList_mk,List.length_map,MZ ds lo dom lit hp,if_neg bC,if_neg (by
    intro h
    apply hp
    simp only [Bool.and_eq_true,beq_iff_eq,Bool.not_eq_true'] at h
    exact h),U4 lo dom lit az az k az]
   simp only [Option.bind_some]
   cases hb:boxedB lo dom lit with
   |false=>
    rw [Bool.false_and]
    exact if_neg bC
   |true=>
    rw [if_pos rfl,Bool.true_and]
    by_cases h20:ds.length≤20
    ·rw [if_pos az,U5 ds M hM hl k az h20,decide_eq_true h20,Bool.true_and]
     simp
    ·rw [if_neg az,decide_eq_false h20,Bool.false_and]
end Go.Proofs.YtbjjaaodfbjkfaaGreatDoor.UY
namespace Go.Proofs.YtbjjaaodfbjkfaaGreatDoor.tG
open Go.RowKit Go.Proofs.YtbjjaaodfbjkfaaGreatDoor.mU Go.Proofs.ak.bR Go.Proofs.ak.dz Go.Proofs.ak.cZ
set_option linter.unusedVariables false
set_option linter.unusedSimpArgs false
def qp:Nat:=1048576
structure Jv (p:Pt):Prop where
 many:p.f1.length≤qp
 route:∀ d∈p.f1,d.size≤qp
 lo:p.f2.f0.size≤qp
 dom:p.f2.f1.size≤qp
structure kV (m:Ml):Prop where
 frm:Jv m.f1
 nto:m.f2.length≤qp
 body:m.f3.length≤qp
 rcs:∀ r∈m.f2,r.f0.f0.size≤qp∧r.f0.f1.size≤qp∧0≤r.f1
def ro (p:Pt):Bool:=UY.AZ p.f0 (p.f1.map fun d=>d.data.toList) p.f2.f0.data.toList p.f2.f1.data.toList p.f2.f2
def K0:Nat:=2097264
theorem mk_data (s:ByteArray):cS s.data.toList=s:=by
 obtain ⟨⟨l⟩⟩:=s
 rfl
theorem EB (s:ByteArray):s.data.toList.length=s.size:=by
 obtain ⟨⟨l⟩⟩:=s
 rfl
theorem Ll {p:Pt} (h:Jv p):xP ro K0 p:=by
 intro k hk
 have e1:(p.f1.map fun d=>d.data.toList).map cS=p.f1:=by
  rw [List.map_map]
  conv=>rhs;rw [← List.map_id p.f1]
  exact List.map_congr_left fun d _ =>mk_data d
 have:=UY.RZ p.f0 (p.f1.map fun d=>d.data.toList) p.f2.f0.data.toList p.f2.f1.data.toList p.f2.f2 qp (fun d hd=>by
  obtain ⟨x,hx,rfl⟩:=List.mem_map.mp hd
  rw [EB];exact h.route x hx) (by rw [EB];exact h.lo) (by rw [EB];exact h.dom) bC k (by unfold K0 at hk;unfold qp;omega)
 rw [e1,mk_data,mk_data] at this
 exact this
theorem R3 {b:Bx} (h0:b.f0.size≤qp) (h1:b.f1.size≤qp):Jv ⟨false,[],b⟩:=⟨Nat.zero_le _,fun d hd=>(by cases hd),h0,h1⟩
theorem ZP {m:Ml} (h:kV m):Js ro K0 m:=⟨Ll h.frm,fun r hr=>Ll (R3 (h.rcs r hr).1 (h.rcs r hr).2.1)⟩
structure aj9 (m:Ml):Prop where
 id0: 1≤m.f0
 id1:m.f0 < 1099511627776
 route:m.f1.f1= []
 body:m.f3.length≤524288
 to0: 1≤m.f2.length
 to1:m.f2.length≤100
 rcs:∀ r∈m.f2,tH ro r=true
theorem mW {m:Ml} (h:rY ro m=true):aj9 m:=by
 unfold rY at h
 simp only [Bool.and_eq_true,decide_eq_true_eq] at h
 obtain ⟨h1,h2,h3,h4,h5,h6,h7,h8,h9,h10⟩:=h
 exact ⟨h1,h2,List.eq_nil_of_length_eq_zero h4,h7,h8,h9,fun r hr=>List.all_eq_true.mp h10 r hr⟩
theorem M0 {m:Ml} (h:rY ro m=true):rK m:=by
 have g:=mW h
 have:=g.body
 have:=g.to1
 unfold rK
 rw [g.route]
 simp only [List.length_nil]
 omega
theorem Lm {m:Ml} (h:jC m=true):rK m:=by
 unfold jC at h
 simp only [Bool.and_eq_true,decide_eq_true_eq] at h
 obtain ⟨h1,h2,h3,h4,h5,h6⟩:=h
 unfold rK
 omega
structure aka (r:Rc):Prop where
 st0:r.f1≤2
 tr0: 0≤r.f2
 tr1:r.f2≤1099511627776
 du0: 0≤r.f3
 du1:r.f3≤1099511627776
theorem Ba {n:Int}:rX n=true↔0≤n∧n≤1099511627776:=by simp [rX]
theorem Lp {r:Rc} (h:tH ro r=true):aka r:=by
 unfold tH at h
 simp only [Bool.and_eq_true,decide_eq_true_eq,Ba] at h
 exact ⟨h.2.1,h.2.2.1.1,h.2.2.1.2,h.2.2.2.1,h.2.2.2.2⟩
structure Inv (n:Int) (ms:List Ml):Prop where
 len:ms.length≤1000
 good:∀ m∈ms,rY ro m=true
 small:∀ m∈ms,kV m
 ids:(ms.map fun m=>m.f0).Pairwise (·< ·)
 below:∀ m∈ms,m.f0 < n
 n1: 1≤n
 top:n≤1099511627776
theorem FU:Inv 1 []:=⟨bC,fun m h=>(by cases h),fun m h=>(by cases h),List.Pairwise.nil,fun m h=>(by cases h),bC,bC⟩
theorem wA (id:Int):∀ (l:List Ml) (k:Nat),(lG id l k= -1∧∀ m∈l,m.f0≠id)∨∃ i x,lG id l k=((k + i:Nat):Int)∧l[i]? =some x∧x.f0=id
 | [],k=> .inl ⟨rfl,fun m h=>by cases h⟩
 |x :: l,k=>by
  unfold lG
  by_cases h:x.f0=id
  ·rw [if_pos h]
   exact .inr ⟨0,x,rfl,rfl,h⟩
  ·rw [if_neg h]
   rcases wA id l (k + 1) with ⟨h1,h2⟩|⟨i,y,h1,h2,h3⟩
   ·exact .inl ⟨h1,fun m hm=>by rcases List.mem_cons.1 hm with rfl|hm;exact h;exact h2 m hm⟩
   ·exact .inr ⟨i + 1,y,by rw [h1];congr 1;omega,h2,h3⟩
theorem yX (m x:Ml) (n:Int) (hS:kV m):dA.f m.f0 m.f1.f0 m.f1.f1 m.f1.f2.f0 m.f1.f2.f1 m.f1.f2.f2 m.f2 m.f3 m.f4 x.f0 x.f1.f0 x.f1.f1 x.f1.f2.f0 x.f1.f2.f1 x.f1.f2.f2 x.f2 x.f3 x.f4 n=
 some (!jC m && (decide (n≤m.f0) && (m.f1.f0 && (decide (m.f2.length=1) && (((bM m.f2 0).f0.f0.toList == x.f1.f2.f0.toList && ((bM m.f2 0).f0.f1.toList == x.f1.f2.f1.toList && (bM m.f2 0).f0.f2 == x.f1.f2.f2)) && ((bM m.f2 0).f1 == 0 && (bM m.f2 0).f2 == 0)))))):=by
 unfold dA.f
 rw [yU m GH GG]
 simp only [Option.bind_some]
 cases jC m with
 |true=>rfl
 |false=>
  rw [if_neg bC,Bool.not_false,Bool.true_and]
  by_cases h1:n≤m.f0
  ·rw [if_pos (show m.f0≥n from h1),decide_eq_true h1,Bool.true_and]
   cases m.f1.f0 with
   |false=>rfl
   |true=>
    rw [if_pos rfl,Bool.true_and]
    by_cases h2:m.f2.length=1
    ·rw [if_pos az,if_pos az,decide_eq_true h2,Bool.true_and]
    ·rw [if_neg az,decide_eq_false h2];rfl
  ·rw [if_neg (show ¬ m.f0≥n from h1),decide_eq_false h1];rfl
theorem Lq (m x:Ml) (n:Int) (hS:kV m):∃ b,dA.f m.f0 m.f1.f0 m.f1.f1 m.f1.f2.f0 m.f1.f2.f1 m.f1.f2.f2 m.f2 m.f3 m.f4 x.f0 x.f1.f0 x.f1.f1 x.f1.f2.f0 x.f1.f2.f1 x.f1.f2.f2 x.f2 x.f3 x.f4 n=some b:=⟨_,yX m x n hS⟩
def uR (m x:Ml) (n:Int):Bool:=(dA.f m.f0 m.f1.f0 m.f1.f1 m.f1.f2.f0 m.f1.f2.f1 m.f1.f2.f2 m.f2 m.f3 m.f4 x.f0 x.f1.f0 x.f1.f1 x.f1.f2.f0 x.f1.f2.f1 x.f1.f2.f2 x.f2 x.f3 x.f4 n).getD false
theorem FV {m x:Ml} {n:Int} (hS:kV m) (hb:uR m x n=true):jC m=false∧n≤m.f0:=by
 unfold uR at hb
 rw [yX m x n hS] at hb
 simp only [Option.getD_some,Bool.and_eq_true,decide_eq_true_eq,Bool.not_eq_true'] at hb
 exact ⟨hb.1,hb.2.1⟩
def put (ms:List Ml) (i:Nat) (x:Ml) (a:Nat) (r:Rc):List Ml:=ms.set i ⟨x.f0,x.f1,x.f2.set a r,x.f3,x.f4⟩
inductive Fits (n:Int) (ms:List Ml) (kind id at_ due:Int) (m:Ml):Bool→Int→List Ml→Prop
 |add (hk:kind=1) (hn:n≤m.f0) (hl:ms.length < 1000):Fits n ms kind id at_ due m true (m.f0 + 1) (ms ++ [m])
 |next (hk:kind=6) (hn:n < id):Fits n ms kind id at_ due m true id ms
 |gone (hk:kind=5) (i:Nat) (x:Ml) (hx:ms[i]? =some x) (hi:x.f0=id) (hs:hasB x.f2 0=false) (ho:(hasB x.f2 2 && !x.f1.f0)=false):Fits n ms kind id at_ due m true n (ms.eraseIdx i)
 |owes (hk:kind=5) (i:Nat) (x:Ml) (hx:ms[i]? =some x) (hi:x.f0=id) (hs:hasB x.f2 0=false) (ho:(hasB x.f2 2 && !x.f1.f0)=true) (hb:uR m x n=true):Fits n ms kind id at_ due m true (m.f0 + 1) (ms.eraseIdx i ++ [m])
 |step (hk:kind=2∨kind=3∨kind=4) (i:Nat) (x:Ml) (hx:ms[i]? =some x) (hi:x.f0=id) (a:Nat) (r:Rc) (ha:at_=a) (hr:x.f2[a]? =some r) (h0:r.f1=0) (ht:kind=2→r.f2 + 1≤1099511627776):
   Fits n ms kind id at_ due m true n (put ms i x a (if kind=2 then ⟨r.f0,r.f1,r.f2 + 1,due⟩ else if kind=3 then ⟨r.f0,1,r.f2,r.f3⟩ else ⟨r.f0,2,r.f2,r.f3⟩))
 |no (n':Int) (ms':List Ml):Fits n ms kind id at_ due m false n' ms'
theorem Jw {n:Int} (h0: 0≤n) (h1:n≤1099511627776):wrap64 (n + 1)=n + 1:=by unfold wrap64;omega
theorem Bb {kind id at_ due:Int} {m:Ml} (h:oJ ro kind id at_ due m=true):
 (0≤id∧id≤1099511627776)∧(0≤at_∧at_≤1099511627776)∧(0≤due∧due≤1099511627776)∧(kind=1∧rY ro m=true∨kind=5∧(jC m=true∨rY ro m=true)∨(kind=2∨kind=3∨kind=4∨kind=6)∧jC m=true):=by
 unfold oJ at h
 rw [Bool.and_eq_true] at h
 obtain ⟨ht,h⟩:=h
 simp only [List.all_cons,List.all_nil,Bool.and_true,Bool.and_eq_true,Ba] at ht
 refine ⟨ht.1,ht.2.1,ht.2.2,?_⟩
 by_cases k1:kind=1
 ·rw [if_pos k1,Bool.and_eq_true] at h
  exact .inl ⟨k1,h.2⟩
 ·rw [if_neg k1] at h
  by_cases k5:kind=5
  ·rw [if_pos k5,Bool.and_eq_true,Bool.or_eq_true] at h
   exact .inr (.inl ⟨k5,h.2⟩)
  ·rw [if_neg k5] at h
   refine .inr (.inr ?_)
   by_cases k2:kind=2
   ·rw [if_pos k2] at h
    exact ⟨.inl k2,h⟩
   ·rw [if_neg k2] at h
    by_cases k3:kind=3∨kind=4
    ·rw [if_pos k3,Bool.and_eq_true] at h
     exact ⟨az,h.2⟩
    ·rw [if_neg k3] at h
     by_cases k6:kind=6
     ·rw [if_pos k6,Bool.and_eq_true] at h
      exact ⟨az,h.2⟩
     ·rw [if_neg k6] at h
      cases h
theorem M3 {m:Ml} (h:jC m=true):m.f0=0:=by
 unfold jC at h
 simp only [Bool.and_eq_true,decide_eq_true_eq] at h
 exact h.1
theorem FW {l:List Rc} {s:Int} (h:hasB l s=false):∀ r∈l,r.f1≠s:=by
 intro r hr e
 unfold hasB at h
 rw [List.any_eq_false] at h
 exact h r hr (by simpa using e)
theorem fits_eq {n:Int} {ms:List Ml} (hI:Inv n ms) {kind id at_ due:Int} {m:Ml} (hS:kV m) (hc:oJ ro kind id at_ due m=true):
 ∃ b n' ms',nT.f n ms kind id at_ due m=some (b,n',ms')∧Fits n ms kind id at_ due m b n' ms':=by
 obtain ⟨⟨i0,i1⟩,⟨a0,a1⟩,⟨d0,d1⟩,hk⟩:=Bb hc
 have hlen:=hI.len
 have hown:rK m:=by
  rcases hk with ⟨_,h⟩|⟨_,h|h⟩|⟨_,h⟩
  ·exact M0 h
  ·exact Lm h
  ·exact M0 h
  ·exact Lm h
 unfold nT.f
 rcases hk with ⟨k1,hm⟩|⟨k5,hm⟩|⟨kk,hm⟩
 ·have g:=mW hm
  rw [if_pos k1]
  unfold Jl
  rw [if_pos ⟨hown,az⟩,Jw (by have:=g.id0;omega) (by have:=g.id1;omega)]
  refine ⟨_,_,_,rfl,?_⟩
  by_cases h1:n≤m.f0
  ·by_cases h2:ms.length < 1000
   ·rw [decide_eq_true h1,decide_eq_true h2]
    exact .add k1 h1 h2
   ·rw [decide_eq_false h2,Bool.and_false]
    exact .no _ _
  ·rw [decide_eq_false h1,Bool.false_and]
   exact .no _ _
 ·rw [if_neg az,if_neg az]
  rcases wA id ms 0 with ⟨h1,h2⟩|⟨i,x,h1,h2,h3⟩
  ·rw [h1,if_pos az]
   exact ⟨_,_,_,rfl,.no _ _⟩
  ·rw [h1,if_neg az,Nat.zero_add,Int.toNat_natCast,h2]
   simp only
   rw [if_pos k5]
   unfold AX
   have hid:m.f0=0∨1≤m.f0∧m.f0 < 1099511627776:=by
    rcases hm with h|h
    ·exact .inl (M3 h)
    ·exact .inr ⟨(mW h).id0,(mW h).id1⟩
   rw [if_pos ⟨hown,az⟩,yU m GH GG,Jw az az]
   simp only [Option.bind_some]
   cases hs:hasB x.f2 0 with
   |true=>
    rw [if_pos rfl]
    exact ⟨_,_,_,rfl,.no _ _⟩
   |false=>
    rw [if_neg bC]
    obtain ⟨b,hb⟩:=Lq m x n hS
    rw [hb]
    simp only [Option.bind_some]
    refine ⟨_,_,_,rfl,?_⟩
    have hbV:uR m x n=b:=by unfold uR;rw [hb];rfl
    cases ho:(hasB x.f2 2 && !x.f1.f0) with
    |true=>
     rw [if_pos rfl,if_pos rfl]
     cases b with
     |true=>exact .owes k5 i x h2 h3 hs ho hbV
     |false=>exact .no _ _
    |false=>
     rw [if_neg bC,if_neg bC]
     cases b with
     |true=>exact .no _ _
     |false=>
      cases hz:jC m with
      |true=>exact .gone k5 i x h2 h3 hs ho
      |false=>exact .no _ _
 ·by_cases k6:kind=6
  ·rw [if_neg az,if_pos k6]
   refine ⟨_,_,_,rfl,?_⟩
   by_cases h1:n < id
   ·rw [decide_eq_true h1]
    exact .next k6 h1
   ·rw [decide_eq_false h1]
    exact .no _ _
  ·rw [if_neg az,if_neg k6]
   rcases wA id ms 0 with ⟨h1,h2⟩|⟨i,x,h1,h2,h3⟩
   ·rw [h1,if_pos az]
    exact ⟨_,_,_,rfl,.no _ _⟩
   ·rw [h1,if_neg az,Nat.zero_add,Int.toNat_natCast,h2]
    simp only
    rw [if_neg az,if_pos az]
    unfold MN
    by_cases ha:(x.f2.length:Int)≤at_
    ·rw [if_pos ha]
     exact ⟨_,_,_,rfl,.no _ _⟩
    ·obtain ⟨a,rfl⟩:∃ a:Nat,at_=a:=⟨at_.toNat,az⟩
     have hal:a < x.f2.length:=by omega
     rw [if_neg ha,if_neg az,Int.toNat_natCast,List.getElem?_eq_getElem hal]
     simp only
     by_cases h0:x.f2[a].f1=0
     ·rw [if_pos h0]
      refine ⟨_,_,_,rfl,?_⟩
      have gr:=Lp ((mW (hI.good x (List.mem_of_getElem? h2))).rcs _ (List.getElem_mem hal))
      have hw:=Jw gr.tr0 gr.tr1
      have hst:=fun (ht:kind=2→x.f2[a].f2 + 1≤1099511627776)=>Fits.step (n:=n) (ms:=ms) (kind:=kind) (id:=id) (at_ :=(a:Int)) (due:=due) (m:=m) az i x h2 h3 a x.f2[a] rfl (List.getElem?_eq_getElem hal) h0 ht
      unfold put at hst
      unfold MM AR
      rw [hw]
      by_cases k2:kind=2
      ·rw [if_pos k2,if_pos k2]
       rw [if_pos k2] at hst
       by_cases ht:x.f2[a].f2 + 1≤1099511627776
       ·rw [decide_eq_true ht]
        exact hst fun _ =>ht
       ·rw [decide_eq_false ht]
        exact .no _ _
      ·rw [if_neg k2,if_neg k2]
       rw [if_neg k2] at hst
       exact hst fun e=>absurd e k2
     ·rw [if_neg h0]
      exact ⟨_,_,_,rfl,.no _ _⟩
theorem ZQ {ms:List Ml} {i:Nat} {x:Ml} (hx:ms[i]? =some x) (a:Nat) (r:Rc):(put ms i x a r).map (fun m=>m.f0)=ms.map fun m=>m.f0:=by
 unfold put
 rw [List.map_set]
 apply List.ext_getElem?
 intro j
 rw [List.getElem?_set]
 by_cases h:i=j
 ·subst h
  have hl:i < ms.length:=by
   by_cases hl:i < ms.length
   ·exact hl
   ·rw [List.getElem?_eq_none az] at hx;cases hx
  rw [if_pos rfl,if_pos (by rw [List.length_map];exact hl),List.getElem?_map,hx]
  rfl
 ·rw [if_neg h]
theorem Dr {ms:List Ml} {i:Nat} {x:Ml} {a:Nat} {r:Rc} {y:Ml} (hy:y∈put ms i x a r):y∈ms∨y=⟨x.f0,x.f1,x.f2.set a r,x.f3,x.f4⟩:=List.mem_or_eq_of_mem_set hy
theorem R4 {x:Ml} (h:rY ro x=true) (a:Nat) (r:Rc) (hr:tH ro r=true):rY ro ⟨x.f0,x.f1,x.f2.set a r,x.f3,x.f4⟩=true:=by
 unfold rY at h ⊢
 simp only [Bool.and_eq_true,List.length_set,List.all_eq_true] at h ⊢
 obtain ⟨h1,h2,h3,h4,h5,h6,h7,h8,h9,h10⟩:=h
 exact ⟨h1,h2,h3,h4,h5,h6,h7,h8,h9,fun y hy=>by
  rcases List.mem_or_eq_of_mem_set hy with h|rfl
  ·exact h10 y h
  ·exact hr⟩
theorem R5 {x:Ml} (h:kV x) (a:Nat) (r:Rc) (h0:r.f0.f0.size≤qp) (h1:r.f0.f1.size≤qp) (h2: 0≤r.f1):kV ⟨x.f0,x.f1,x.f2.set a r,x.f3,x.f4⟩:=
 ⟨h.frm,by rw [List.length_set];exact h.nto,h.body,fun y hy=>by
   rcases List.mem_or_eq_of_mem_set hy with h'|rfl
   ·exact h.rcs y h'
   ·exact ⟨h0,h1,h2⟩⟩
theorem Fa {l:List Int} {y:Int} (h:l.Pairwise (·< ·)) (hy:∀ x∈l,x < y):(l ++ [y]).Pairwise (·< ·):=by
 rw [List.pairwise_append]
 exact ⟨h,List.pairwise_singleton _ _,fun a ha b hb=>by obtain rfl:=List.mem_singleton.1 hb;exact hy a ha⟩
theorem Qs {n:Int} {ms:List Ml} (hI:Inv n ms) {m:Ml} (hS:kV m) (hm:rY ro m=true) (hn:n≤m.f0) (hl:ms.length < 1000):Inv (m.f0 + 1) (ms ++ [m]):=by
 have g:=mW hm
 have h0:=g.id0
 have h1:=g.id1
 refine ⟨by rw [List.length_append];simp;omega,fun y hy=>?_,fun y hy=>?_,?_,fun y hy=>?_,az,az⟩
 ·rcases List.mem_append.1 hy with h|h
  ·exact hI.good y h
  ·obtain rfl:=List.mem_singleton.1 h;exact hm
 ·rcases List.mem_append.1 hy with h|h
  ·exact hI.small y h
  ·obtain rfl:=List.mem_singleton.1 h;exact hS
 ·rw [List.map_append]
  exact Fa hI.ids fun x hx=>by
   obtain ⟨y,hy,rfl⟩:=List.mem_map.1 hx
   have:=hI.below y hy
   show y.f0 < m.f0
   omega
 ·rcases List.mem_append.1 hy with h|h
  ·have:=hI.below y h;omega
  ·obtain rfl:=List.mem_singleton.1 h;omega
theorem FX {n:Int} {ms:List Ml} (hI:Inv n ms) (i:Nat):Inv n (ms.eraseIdx i):=by
 have hs:=List.eraseIdx_sublist ms i
 exact ⟨Nat.le_trans hs.length_le hI.len,fun y hy=>hI.good y (hs.subset hy),fun y hy=>hI.small y (hs.subset hy),hI.ids.sublist (hs.map _),fun y hy=>hI.below y (hs.subset hy),hI.n1,hI.top⟩
theorem U6 {n:Int} {ms:List Ml} (hI:Inv n ms) {kind id at_ due:Int} {m:Ml} (hS:kV m) (hc:oJ ro kind id at_ due m=true) {n':Int} {ms':List Ml} (hF:Fits n ms kind id at_ due m true n' ms'):Inv n' ms':=by
 obtain ⟨⟨i0,i1⟩,⟨a0,a1⟩,⟨d0,d1⟩,hk⟩:=Bb hc
 cases hF with
 |add hk1 hn hl=>exact Qs hI hS (by rcases hk with ⟨_,h⟩|⟨k,_⟩|⟨k,_⟩;exact h;omega;omega) hn hl
 |next hk6 hn=>exact ⟨hI.len,hI.good,hI.small,hI.ids,fun y hy=>by have:=hI.below y hy;omega,by have:=hI.n1;omega,i1⟩
 |gone _ i x hx hi hs ho=>exact FX hI i
 |owes hk5 i x hx hi hs ho hb=>
  obtain ⟨h1,h2⟩:=FV hS hb
  have hil:i < ms.length:=by
   by_cases hl:i < ms.length
   ·exact hl
   ·rw [List.getElem?_eq_none az] at hx;cases hx
  have hlen:=hI.len
  refine Qs (FX hI i) hS ?_ h2 (by rw [List.length_eraseIdx];rw [if_pos hil];omega)
  rcases hk with ⟨k,_⟩|⟨_,h|h⟩|⟨k,_⟩
  ·omega
  ·rw [h] at h1;cases h1
  ·exact h
  ·omega
 |step hkk i x hx hi a r ha hr h0 ht=>
  have VA:=List.mem_of_getElem? hx
  have hrm:=List.mem_of_getElem? hr
  have hrg:=(mW (hI.good x VA)).rcs r hrm
  have hrs:=(hI.small x VA).rcs r hrm
  have gr:=Lp hrg
  generalize hr':(if kind=2 then (⟨r.f0,r.f1,r.f2 + 1,due⟩:Rc) else if kind=3 then ⟨r.f0,1,r.f2,r.f3⟩ else ⟨r.f0,2,r.f2,r.f3⟩)=r'
  have hb:r'.f0=r.f0:=by
   rw [← hr']
   split
   ·rfl
   ·split<;>rfl
  have hg:tH ro r'=true:=by
   unfold tH at hrg ⊢
   rw [hb]
   simp only [Bool.and_eq_true,decide_eq_true_eq,Ba] at hrg ⊢
   refine ⟨hrg.1,?_⟩
   have:=gr.tr0;have:=gr.tr1;have:=gr.du0;have:=gr.du1
   rw [← hr']
   split
   ·rename_i k2
    have:=ht k2
    exact ⟨by show r.f1≤2;omega,⟨by show 0≤r.f2 + 1;omega,by show r.f2 + 1≤_;omega⟩,⟨d0,d1⟩⟩
   ·split
    ·exact ⟨by show (1:Int)≤2;omega,⟨mD,mD⟩,⟨mD,mD⟩⟩
    ·exact ⟨by show (2:Int)≤2;omega,⟨mD,mD⟩,⟨mD,mD⟩⟩
  refine ⟨by unfold put;rw [List.length_set];exact hI.len,fun y hy=>?_,fun y hy=>?_,by rw [ZQ hx];exact hI.ids,fun y hy=>?_,hI.n1,hI.top⟩
  ·rcases Dr hy with h|rfl
   ·exact hI.good y h
   ·exact R4 (hI.good x VA) a r' hg
  ·rcases Dr hy with h|rfl
   ·exact hI.small y h
   ·exact R5 (hI.small x VA) a r' (by rw [hb];exact hrs.1) (by rw [hb];exact hrs.2.1) (by rw [← hr'];split;exact hrs.2.2;split;(show (0:Int)≤1;omega);(show (0:Int)≤2;omega))
  ·rcases Dr hy with h|rfl
   ·exact hI.below y h
   ·exact hI.below x VA
theorem Lr {n:Int} {ms:List Ml} (hI:Inv n ms) (kind id at_ due:Int) {m:Ml} (hS:kV m):
 ∃ n' ms' e,(∀ k,K0 + 1200≤k→cL.f k n ms kind id at_ due m.f0 m.f1.f0 m.f1.f1 m.f1.f2.f0 m.f1.f2.f1 m.f1.f2.f2 m.f2 m.f3 m.f4=some (n',ms',e))∧Inv n' ms'∧
   (e=220∧n'=n∧ms'=ms∨e=0∧oJ ro kind id at_ due m=true∧Fits n ms kind id at_ due m true n' ms'):=by
 have hlen:=hI.len
 have hcp:∀ k,K0 + 1200≤k→cx.f k n ms=some (n,ms):=fun k hk=>copied_eq ms az (fun m hm=>M0 (hI.good m hm)) n k (Nat.lt_of_le_of_lt hlen (by unfold K0 at hk;omega))
 have hce:∀ k,K0 + 1200≤k→cK.f k kind id at_ due m.f0 m.f1.f0 m.f1.f1 m.f1.f2.f0 m.f1.f2.f1 m.f1.f2.f2 m.f2 m.f3 m.f4=some (oJ ro kind id at_ due m):=fun k hk=>
  change_eq (ZP hS) GH GG kind id at_ due k (Nat.le_trans (Nat.add_le_add_left (bC: 112≤1200) K0) hk)
 have hm:(⟨m.f0,⟨m.f1.f0,m.f1.f1,⟨m.f1.f2.f0,m.f1.f2.f1,m.f1.f2.f2⟩⟩,m.f2,m.f3,m.f4⟩:Ml)=m:=rfl
 cases hc:oJ ro kind id at_ due m with
 |false=>
  refine ⟨n,ms,220,fun k hk=>?_,hI,.inl ⟨rfl,rfl,rfl⟩⟩
  unfold cL.f
  rw [hcp k hk,hce k hk,hc]
  rfl
 |true=>
  obtain ⟨b,n',ms',hf,hF⟩:=fits_eq hI hS hc
  have hA:∀ k,K0 + 1200≤k→cL.f k n ms kind id at_ due m.f0 m.f1.f0 m.f1.f1 m.f1.f2.f0 m.f1.f2.f1 m.f1.f2.f2 m.f2 m.f3 m.f4=some (cL.end n ms (b,n',ms')):=fun k hk=>by
   unfold cL.f
   rw [hcp k hk,hce k hk,hc]
   simp only [Option.bind_some,if_true]
   rw [hm,hf]
   rfl
  cases b with
  |true=>exact ⟨n',ms',0,hA,U6 hI hS hc hF,.inr ⟨rfl,rfl,hF⟩⟩
  |false=>exact ⟨n,ms,220,hA,hI,.inl ⟨rfl,rfl,rfl⟩⟩
theorem Ls {n:Int} {ms:List Ml} (hI:Inv n ms) {i j:Nat} {x y:Ml} (hx:ms[i]? =some x) (hy:ms[j]? =some y) (h:x.f0=y.f0):i=j∧x=y:=by
 have hp:=hI.ids
 have key:∀ (a b:Nat) (u v:Ml),ms[a]? =some u→ms[b]? =some v→a < b→u.f0 < v.f0:=by
  intro a b u v hu hv hab
  obtain ⟨ha,rfl⟩:=List.getElem?_eq_some_iff.1 hu
  obtain ⟨hb,rfl⟩:=List.getElem?_eq_some_iff.1 hv
  have:=List.pairwise_iff_getElem.1 hp a b (by simpa using ha) xg hab
  simpa using this
 have e:i=j:=by
  rcases Nat.lt_trichotomy i j with h1|h1|h1
  ·have:=key i j x y hx hy h1;omega
  ·exact h1
  ·have:=key j i y x hy hx h1;omega
 subst e
 exact ⟨rfl,Option.some.inj (hx.symm.trans hy)⟩
end Go.Proofs.YtbjjaaodfbjkfaaGreatDoor.tG
namespace Go.Proofs.YtbjjaaodfbjkfaaGreatDoor.tG
open Go.RowKit Go.Proofs.YtbjjaaodfbjkfaaGreatDoor.mU Go.Proofs.ak.bR Go.Proofs.ak.dz Go.Proofs.ak.cZ
set_option linter.unusedVariables false
set_option linter.unusedSimpArgs false
theorem ab1 {k:Nat} (h: 2098464≤k):K0 + 1200≤k:=h
abbrev Ch:=VO
theorem LI (k:Nat) (hk: 400≤k):fI.f k=some true:=
 Am (fun k=>fI.mono k) hk (aq:fI.f 400=some true)
theorem alA {l:List Ch} {i:Nat} (h:i < l.length):jA l (i:Int)=l[i]:=by
 unfold jA;simp [List.getD_eq_getElem?_getD,List.getElem?_eq_getElem h]
end Go.Proofs.YtbjjaaodfbjkfaaGreatDoor.tG
namespace Go.Proofs.YtbjjaaodfbjkfaaGreatDoor.tG
open Go.RowKit Go.Proofs.YtbjjaaodfbjkfaaGreatDoor.mU Go.Proofs.ak.bR Go.Proofs.ak.dz Go.Proofs.ak.cZ
set_option linter.unusedVariables false
set_option linter.unusedSimpArgs false
def jL (id:Int) (a:Nat):List Ml→Int
 | []=>-1
 |m :: ms=>if m.f0=id∧a < m.f2.length then (bM m.f2 (a:Int)).f1 else jL id a ms
theorem LJ (ms:List Ml) (hl:ms.length≤1000) (hs:∀ m∈ms,∀ r∈m.f2,0≤r.f1∧r.f1≤2) (id:Int) (a:Nat):∀ (d k i:Nat),i + d=ms.length→d < k→cT.l0 k ms (ms.length:Int) (i:Int) id (a:Int)=some (jL id a (ms.drop i)):=by
 intro d
 induction d with
 |zero=>
  intro k i hi hk
  obtain ⟨k,rfl⟩:∃ m,k=m + 1:=⟨k - 1,az⟩
  rw [cT.l0,if_neg az,List.drop_of_length_le az]
  rfl
 |succ d ih=>
  intro k i hi hk
  obtain ⟨k,rfl⟩:∃ m,k=m + 1:=⟨k - 1,az⟩
  have hlt:i < ms.length:=by omega
  have hrd:aj ms (i:Int)=ms[i]:=by unfold aj;simp [List.getD_eq_getElem?_getD,List.getElem?_eq_getElem hlt]
  have hw:wrap64 ((i:Int) + 1)=((i + 1:Nat):Int):=by unfold wrap64;omega
  have hn:=ih k (i + 1) az az
  rw [cT.l0,if_pos az,if_pos az,if_pos az,hrd,hw,List.drop_eq_getElem_cons hlt,jL]
  by_cases h1:ms[i].f0=id
  ·rw [if_pos h1]
   by_cases h2:a < ms[i].f2.length
   ·rw [if_pos az,if_pos az,if_pos ⟨h1,h2⟩]
    have hr:bM ms[i].f2 (a:Int)=ms[i].f2[a]:=by unfold bM;simp [List.getD_eq_getElem?_getD,List.getElem?_eq_getElem h2]
    have:=hs _ (List.getElem_mem hlt) _ (List.getElem_mem h2)
    rw [hr]
    congr 1
    unfold wrap64
    omega
   ·rw [if_neg az,if_neg (fun h=>h2 h.2)]
    exact hn
  ·rw [if_neg h1,if_neg (fun h=>h1 h.1)]
   exact hn
theorem F7 (n:Int) (ms:List Ml) (hl:ms.length≤1000) (hs:∀ m∈ms,∀ r∈m.f2,0≤r.f1∧r.f1≤2) (id:Int) (a k:Nat) (hk: 1001≤k):cT.f k n ms id (a:Int)=some (jL id a ms):=by
 unfold cT.f
 have:=LJ ms hl hs id a ms.length k 0 az az
 rw [show ((0:Nat):Int)=0 from rfl,List.drop_zero] at this
 exact this
theorem wJ {id:Int} (a:Nat):∀ {ms:List Ml},(∀ m∈ms,m.f0≠id)→jL id a ms= -1
 | [],_ =>rfl
 |m :: ms,h=>by
  unfold jL
  rw [if_neg (fun h'=>h m (List.mem_cons_self ..) h'.1)]
  exact wJ a fun y hy=>h y (List.mem_cons_of_mem _ hy)
theorem Bw {id:Int} {a:Nat} {m:Ml} {r:Rc} (hid:m.f0=id) (hr:m.f2[a]? =some r):∀ {ms:List Ml},(ms.map fun m=>m.f0).Pairwise (·< ·)→m∈ms→jL id a ms=r.f1
 | [],_,h=>by cases h
 |x :: ms,hp,h=>by
  have ha:a < m.f2.length:=(List.getElem?_eq_some_iff.1 hr).1
  have hrd:bM m.f2 (a:Int)=r:=by
   unfold bM
   simp [List.getD_eq_getElem?_getD,hr]
  unfold jL
  rw [List.map_cons,List.pairwise_cons] at hp
  rcases List.mem_cons.1 h with rfl|h
  ·rw [if_pos ⟨hid,ha⟩,hrd]
  ·have:=hp.1 m.f0 (List.mem_map_of_mem h)
   rw [if_neg (fun h'=>by omega)]
   exact Bw hid hr hp.2 h
def yz (m m':Ml):Prop:=m'.f0=m.f0∧m.f2.length≤m'.f2.length∧∀ (a:Nat) (r:Rc),m.f2[a]? =some r→∃ r',m'.f2[a]? =some r'∧(r.f1=0∨r'.f1=r.f1)
theorem yz.refl (m:Ml):yz m m:=⟨rfl,Nat.le_refl _,fun a r h=>⟨r,h,.inr rfl⟩⟩
def aeC (m:Ml) (new:List Ml):Prop:=(∀ r∈m.f2,r.f1≠0)∧(((hasB m.f2 2 && !m.f1.f0)=true∧∃ b r,new= [b]∧b.f1.f0=true∧b.f2= [r]∧r.f0=m.f1.f2)∨((hasB m.f2 2 && !m.f1.f0)=false∧new= []))
structure Round (n:Int) (ms:List Ml) (n':Int) (ms' old new:List Ml):Prop where
 app:ms'=old ++ new
 low:∀ m∈old,m.f0 < n
 new1:new= []∨∃ m,new= [m]∧n≤m.f0
 le:n≤n'
 all:((∀ m∈ms,∃ m'∈ms',yz m m')∧old.length=ms.length)∨
  ∃ (i:Nat) (x:Ml),ms[i]? =some x∧aeC x new∧(∀ m∈ms',m.f0≠x.f0)∧old.length + 1=ms.length∧∀ (j:Nat) (m:Ml),ms[j]? =some m→j≠i→m∈ms'
theorem LK {a b:ByteArray} (h:a.toList=b.toList):a=b:=by
 obtain ⟨⟨x⟩⟩:=a
 obtain ⟨⟨y⟩⟩:=b
 rw [ByteArray.toList_eq,ByteArray.toList_eq] at h
 simp at h
 rw [h]
theorem Nz {m x:Ml} {n:Int} (hS:kV m) (hb:uR m x n=true):m.f1.f0=true∧∃ r,m.f2= [r]∧r.f0=x.f1.f2:=by
 unfold uR at hb
 rw [yX m x n hS] at hb
 simp only [Option.getD_some,Bool.and_eq_true,decide_eq_true_eq,Bool.not_eq_true',beq_iff_eq] at hb
 obtain ⟨h1,h2,h3,h4,⟨h5,h6,h7⟩,h8,h9⟩:=hb
 obtain ⟨r,hr⟩:=List.length_eq_one_iff.1 h4
 have e:bM m.f2 0=r:=by rw [hr];rfl
 rw [e] at h5 h6 h7
 refine ⟨h3,r,hr,?_⟩
 have a1:=LK h5
 have a2:=LK h6
 obtain ⟨⟨f0,f1,f2⟩,_,_,_⟩:=r
 show _=(⟨x.f1.f2.f0,x.f1.f2.f1,x.f1.f2.f2⟩:Bx)
 simp only at a1 a2 h7
 rw [a1,a2,h7]
theorem F8 {ms:List Ml} {i j:Nat} {m:Ml} (h:ms[j]? =some m) (hne:j≠i):m∈ms.eraseIdx i:=by
 rcases Nat.lt_or_gt_of_ne hne with h1|h1
 ·exact List.mem_of_getElem? (i:=j) (by rw [List.getElem?_eraseIdx_of_lt h1];exact h)
 ·obtain ⟨j,rfl⟩:∃ k,j=k + 1:=⟨j - 1,az⟩
  exact List.mem_of_getElem? (i:=j) (by rw [List.getElem?_eraseIdx_of_ge az];exact h)
theorem F9 {n:Int} {ms:List Ml} (hI:Inv n ms) {i:Nat} {x:Ml} (hx:ms[i]? =some x):∀ m∈ms.eraseIdx i,m.f0≠x.f0:=by
 intro m hm he
 obtain ⟨j,hj⟩:=List.getElem?_of_mem hm
 by_cases h:j < i
 ·rw [List.getElem?_eraseIdx_of_lt h] at hj
  have:=(Ls hI hj hx he).1
  omega
 ·rw [List.getElem?_eraseIdx_of_ge az] at hj
  have:=(Ls hI hj hx he).1
  omega
theorem LL {n:Int} {ms:List Ml} (hI:Inv n ms) {kind id at_ due:Int} {m:Ml} (hS:kV m) {n':Int} {ms':List Ml} (hI':Inv n' ms') (hc:oJ ro kind id at_ due m=true) (hF:Fits n ms kind id at_ due m true n' ms'):∃ old new,Round n ms n' ms' old new:=by
 obtain ⟨⟨i0,i1⟩,⟨a0,a1⟩,⟨d0,d1⟩,hk⟩:=Bb hc
 cases hF with
 |add hk1 hn hl=>exact ⟨ms,[m],rfl,hI.below,.inr ⟨m,rfl,hn⟩,az,.inl ⟨fun y hy=>⟨y,List.mem_append_left _ hy,yz.refl y⟩,rfl⟩⟩
 |next hk6 hn=>exact ⟨ms,[],(List.append_nil _).symm,hI.below,.inl rfl,az,.inl ⟨fun y hy=>⟨y,hy,yz.refl y⟩,rfl⟩⟩
 |gone _ i x hx hi hs ho=>
  have hil:i < ms.length:=(List.getElem?_eq_some_iff.1 hx).1
  exact ⟨ms.eraseIdx i,[],(List.append_nil _).symm,fun y hy=>hI.below y ((List.eraseIdx_sublist ms i).subset hy),.inl rfl,az,.inr ⟨i,x,hx,⟨FW hs,.inr ⟨ho,rfl⟩⟩,F9 hI hx,by rw [List.length_eraseIdx,if_pos hil];omega,fun j y hy hne=>F8 hy hne⟩⟩
 |owes hk5 i x hx hi hs ho hb=>
  have hil:i < ms.length:=(List.getElem?_eq_some_iff.1 hx).1
  obtain ⟨b1,b2⟩:=FV hS hb
  obtain ⟨b3,r,b4,b5⟩:=Nz hS hb
  have hxb:=hI.below x (List.mem_of_getElem? hx)
  refine ⟨ms.eraseIdx i,[m],rfl,fun y hy=>hI.below y ((List.eraseIdx_sublist ms i).subset hy),.inr ⟨m,rfl,b2⟩,az,.inr ⟨i,x,hx,⟨FW hs,.inl ⟨ho,m,r,rfl,b3,b4,b5⟩⟩,fun y hy=>?_,by rw [List.length_eraseIdx,if_pos hil];omega,fun j y hy hne=>List.mem_append_left _ (F8 hy hne)⟩⟩
  rcases List.mem_append.1 hy with h|h
  ·exact F9 hI hx y h
  ·obtain rfl:=List.mem_singleton.1 h;omega
 |step hkk i x hx hi a r ha hr h0 ht=>
  generalize hr':(if kind=2 then (⟨r.f0,r.f1,r.f2 + 1,due⟩:Rc) else if kind=3 then ⟨r.f0,1,r.f2,r.f3⟩ else ⟨r.f0,2,r.f2,r.f3⟩)=r'
  have hil:i < ms.length:=(List.getElem?_eq_some_iff.1 hx).1
  have hal:a < x.f2.length:=(List.getElem?_eq_some_iff.1 hr).1
  refine ⟨put ms i x a r',[],(List.append_nil _).symm,fun y hy=>?_,.inl rfl,Int.le_refl _,.inl ⟨fun y hy=>?_,by unfold put;rw [List.length_set]⟩⟩
  ·rcases Dr hy with h|rfl
   ·exact hI.below y h
   ·exact hI.below x (List.mem_of_getElem? hx)
  ·obtain ⟨j,hj⟩:=List.getElem?_of_mem hy
   by_cases h:j=i
   ·subst h
    obtain rfl:x=y:=Option.some.inj (hx.symm.trans hj)
    refine ⟨⟨x.f0,x.f1,x.f2.set a r',x.f3,x.f4⟩,List.mem_of_getElem? (i:=j) (by unfold put;exact List.getElem?_set_self hil),rfl,by rw [List.length_set];exact Nat.le_refl _,fun b q hq=>?_⟩
    by_cases hb:b=a
    ·subst hb
     obtain rfl:r=q:=Option.some.inj (hr.symm.trans hq)
     exact ⟨r',List.getElem?_set_self hal,.inl h0⟩
    ·exact ⟨q,by rw [List.getElem?_set_ne (Ne.symm hb)];exact hq,.inr rfl⟩
   ·exact ⟨y,List.mem_of_getElem? (i:=j) (by unfold put;rw [List.getElem?_set_ne (Ne.symm h)];exact hj),yz.refl y⟩
end Go.Proofs.YtbjjaaodfbjkfaaGreatDoor.tG
namespace Go.Proofs.YtbjjaaodfbjkfaaGreatDoor.tG
open Go.RowKit Go.Proofs.YtbjjaaodfbjkfaaGreatDoor.mU Go.Proofs.ak.bR Go.Proofs.ak.dz Go.Proofs.ak.cZ
set_option linter.unusedVariables false
set_option linter.unusedSimpArgs false
theorem w2_ {n:Nat} (h:n < 4611686018427387904):wrap64 ((n:Int) + 1)=((n + 1:Nat):Int):=by unfold wrap64;omega
theorem aeD {ms:List Ml} {i:Nat} (h:i < ms.length):aj ms (i:Int)=ms[i]:=by
 unfold aj;simp [List.getD_eq_getElem?_getD,List.getElem?_eq_getElem h]
theorem Vj (l:List Int) (hl:l.length≤1048576):∀ (d k i:Nat),i + d=l.length→d < k→bO.l0 k l l (l.length:Int) (i:Int)=some true:=by
 intro d
 induction d with
 |zero=>
  intro k i hi hk
  obtain ⟨k,rfl⟩:∃ m,k=m + 1:=⟨k - 1,az⟩
  rw [bO.l0,if_neg az]
 |succ d ih=>
  intro k i hi hk
  obtain ⟨k,rfl⟩:∃ m,k=m + 1:=⟨k - 1,az⟩
  rw [bO.l0,if_pos az,if_pos az,if_pos az,if_pos az,if_pos rfl,w2_ az]
  exact ih k (i + 1) az az
theorem Vk (l:List ByteArray) (hl:l.length≤1048576):∀ (d k i:Nat),i + d=l.length→d < k→bu.l0 k l l (l.length:Int) (i:Int)=some true:=by
 intro d
 induction d with
 |zero=>
  intro k i hi hk
  obtain ⟨k,rfl⟩:∃ m,k=m + 1:=⟨k - 1,az⟩
  rw [bu.l0,if_neg az]
 |succ d ih=>
  intro k i hi hk
  obtain ⟨k,rfl⟩:∃ m,k=m + 1:=⟨k - 1,az⟩
  rw [bu.l0,if_pos az,if_pos az,if_pos az,if_pos az,if_pos rfl,w2_ az]
  exact ih k (i + 1) az az
theorem Vl (l:List Rc) (hl:l.length≤1048576):∀ (d k i:Nat),i + d=l.length→d < k→bk.l0 k l l (l.length:Int) (i:Int)=some true:=by
 intro d
 induction d with
 |zero=>
  intro k i hi hk
  obtain ⟨k,rfl⟩:∃ m,k=m + 1:=⟨k - 1,az⟩
  rw [bk.l0,if_neg az]
 |succ d ih=>
  intro k i hi hk
  obtain ⟨k,rfl⟩:∃ m,k=m + 1:=⟨k - 1,az⟩
  rw [bk.l0,if_pos az,if_pos az,if_pos az,if_pos az,if_neg cF,w2_ az]
  exact ih k (i + 1) az az
theorem Fb (m:Ml) (hS:kV m) (k:Nat) (hk: 1048577≤k):gp.f k m.f0 m.f1.f0 m.f1.f1 m.f1.f2.f0 m.f1.f2.f1 m.f1.f2.f2 m.f2 m.f3 m.f4 m.f0 m.f1.f0 m.f1.f1 m.f1.f2.f0 m.f1.f2.f1 m.f1.f2.f2 m.f2 m.f3 m.f4=some true:=by
 have h1:m.f1.f1.length≤1048576:=hS.frm.many
 have h2:m.f2.length≤1048576:=hS.nto
 have h3:m.f3.length≤1048576:=hS.body
 unfold gp.f bu.f bk.f bO.f
 rw [if_pos rfl,if_pos rfl,if_pos cF,if_pos cF,if_pos rfl,if_pos rfl,if_pos rfl]
 have a:=Vk m.f1.f1 h1 m.f1.f1.length k 0 az az
 have b:=Vl m.f2 h2 m.f2.length k 0 az az
 have c:=Vj m.f3 h3 m.f3.length k 0 az az
 rw [show ((0:Nat):Int)=0 from rfl] at a b c
 rw [a,b,c]
 rfl
theorem NA (ms:List Ml) (hl:ms.length≤1048576) (hS:∀ m∈ms,kV m):∀ (d k i:Nat),i + d=ms.length→d + 1048577 < k→au.l0 k ms ms (ms.length:Int) (i:Int)=some true:=by
 intro d
 induction d with
 |zero=>
  intro k i hi hk
  obtain ⟨k,rfl⟩:∃ m,k=m + 1:=⟨k - 1,az⟩
  rw [au.l0,if_neg az]
 |succ d ih=>
  intro k i hi hk
  obtain ⟨k,rfl⟩:∃ m,k=m + 1:=⟨k - 1,az⟩
  have hlt:i < ms.length:=by omega
  rw [au.l0,if_pos az,if_pos az,if_pos az,if_pos az,aeD hlt,Fb _ (hS _ (List.getElem_mem hlt)) k az]
  simp only [Option.bind_some,if_true,w2_ (show i < 4611686018427387904 by omega)]
  exact ih k (i + 1) az az
theorem Ga (n:Int) (ms:List Ml) (hl:ms.length≤1048576) (hS:∀ m∈ms,kV m) (k:Nat) (hk: 2097155≤k):iV.f k n ms n ms=some true:=by
 unfold iV.f au.f
 rw [if_pos rfl,if_pos rfl]
 have a:=NA ms hl hS ms.length k 0 az az
 rw [show ((0:Nat):Int)=0 from rfl] at a
 rw [a]
 rfl
end Go.Proofs.YtbjjaaodfbjkfaaGreatDoor.tG
namespace Go.Proofs.YtbjjaaodfbjkfaaGreatDoor.aeL
open Go.ChangeShapes Go.WideShapes Go.RowKit
open Go.Proofs.ak.bR Go.Proofs.YtbjjaaodfbjkfaaGreatDoor.mU Go.Proofs.YtbjjaaodfbjkfaaGreatDoor.tG
set_option linter.unusedVariables false
set_option linter.unusedSimpArgs false
set_option maxRecDepth 100000
theorem laidOut:laidOutB Tryz.prog=true:=by kernel_rfl
abbrev Ch:=VO
section
variable {H:Type}
def yA {α:Type} (enc:TypeId×Value→H) (W:World) (t:TypeId) (d:Kd α) (S:α→Prop):Prop:=
 ∀ fuel cs x,DataW.trod enc Tryz.prog W 0 (fun _ =>true) true fuel t cs=some x→∃ p,d.K W p cs∧(Rows.uptoBulk x.1≤qp→S p)
variable {enc:TypeId×Value→H} {W:World}
theorem alI:∀ d:DataW H,1≤Rows.uptoBulk d
 | .lit l=>by cases l<;>simp [Rows.uptoBulk]
 | .nil=>by simp [Rows.uptoBulk]
 | .ptr _ =>by simp [Rows.uptoBulk]
 | .slice _ _ =>by simp [Rows.uptoBulk]
 | .agg _ =>by simp [Rows.uptoBulk]
 | .iface _ _ =>by simp [Rows.uptoBulk]
 | .map _ =>by simp [Rows.uptoBulk]
 | .held _ =>by simp [Rows.uptoBulk]
theorem EO:∀ (l:List (DataW H)) (d:DataW H),d∈l→Rows.uptoBulk d≤Rows.uptoBulkAll l
 |x :: l,d,h=>by
  rw [show Rows.uptoBulkAll (x :: l)=Rows.uptoBulk x + Rows.uptoBulkAll l from by simp only [Rows.uptoBulkAll]]
  rcases List.mem_cons.1 h with rfl|h
  ·omega
  ·have:=EO l d h;omega
theorem LO:∀ l:List (DataW H),l.length≤Rows.uptoBulkAll l
 | []=>Nat.zero_le _
 |x :: l=>by
  rw [show Rows.uptoBulkAll (x :: l)=Rows.uptoBulk x + Rows.uptoBulkAll l from by simp only [Rows.uptoBulkAll],List.length_cons]
  have:=alI x
  have:=LO l
  omega
theorem nE (l:List (DataW H)) (d:DataW H) (h:d∈l):Rows.uptoBulk d≤Rows.uptoBulk (.agg l):=by
 rw [show Rows.uptoBulk (.agg l:DataW H)=Rows.uptoBulkAll l + 1 from by simp only [Rows.uptoBulk]]
 have:=EO l d h
 omega
theorem EP:yA enc W 9 Kd.string (fun s=>s.size≤qp):=by
 intro fuel cs x h
 obtain ⟨s,e,rfl,_⟩:=DataW.trod_string Tryz.underlying9 h
 refine ⟨s,e,fun hb=>?_⟩
 have hd:=jc s
 rw [show Rows.uptoBulk (.lit (.string s.data.toList):DataW H)=s.data.toList.length + 1 from by simp only [Rows.uptoBulk]] at hb
 omega
theorem nG {k:IntKind} {t:TypeId} (ht:Tryz.prog.underlying t=some (.int k)):yA enc W t (Kd.int k) (fun n=>(Lit.int k n).wf=true):=by
 intro fuel cs x h
 obtain ⟨n,e,rfl,hw⟩:=DataW.trod_int ht h
 exact ⟨n,e,fun _ =>hw⟩
theorem LP:yA enc W 4 Kd.bool (fun _ =>True):=by
 intro fuel cs x h
 obtain ⟨n,e,rfl⟩:=DataW.trod_bool Tryz.underlying4 h
 exact ⟨n,e,fun _ =>trivial⟩
theorem Dt {α:Type} {d:Kd α} {S:α→Prop} (z:α) {t e:TypeId} (hu:Tryz.prog.underlying t=some (.slice e)) (hsz:Tryz.prog.cellsOf e=d.sz) (hel:yA enc W e d S):
 yA enc W t (Kd.slice e d) (fun l=>l.length≤qp∧∀ y∈l,S y):=by
 intro fuel cs x h
 rcases DataW.trod_slice hu h with ⟨rfl,rfl⟩|⟨a,len,cap,elems,rest,n,_,rfl,rfl,_,hl,hm,hlen,he,_,_⟩
 ·exact ⟨[],⟨none,0,rfl,Nat.le_refl _,rfl,Nat.zero_le _,fun h=>absurd h (Nat.lt_irrefl _)⟩,fun _ =>⟨Nat.zero_le _,fun y hy=>by cases hy⟩⟩
 ·have hq:∀ i,∃ p:α,i < len→(∃ c,c.length=d.sz∧d.K W p c∧∀ j u,c[j]? =some u→W.cell? (a.add (i * d.sz + j))=some u)∧∃ y,elems[i]? =some y∧(Rows.uptoBulk y.1≤qp→S p):=by
   intro i
   by_cases hi:i < len
   ·have hx:=he i hi
    rw [hsz] at hx
    have hi2:i < elems.length:=by omega
    rw [List.getElem?_eq_getElem hi2] at hx
    obtain ⟨c,h1,h2⟩:=Option.bind_eq_some_iff.mp hx
    obtain ⟨p,k1,k2⟩:=hel _ _ _ h2
    obtain ⟨_,hc1,hc2⟩:=World.cells?_some h1
    refine ⟨p,fun _ =>⟨⟨c,hc1,k1,fun j u hj=>?_⟩,_,List.getElem?_eq_getElem hi2,k2⟩⟩
    have hjl:j < d.sz:=by
     by_cases hjl:j < c.length
     ·omega
     ·rw [List.getElem?_eq_none az] at hj;cases hj
    have:=hc2 j hjl
    rw [hj] at this
    rw [← this]
    congr 1
    unfold Addr.add
    by_cases hi0:i * d.sz=0
    ·rw [hi0];simp
    ·by_cases hj0:j=0
     ·subst hj0;simp
     ·rw [if_neg az,if_neg hi0,if_neg hj0]
      simp only [Addr.mk.injEq,and_true,true_and]
      omega
   ·exact ⟨z,fun h=>absurd h hi⟩
  obtain ⟨f,hf⟩:=Classical.skolem.mp hq
  have hPl:((List.range len).map f).length=len:=by simp
  have hget:∀ j p,((List.range len).map f)[j]? =some p→j < len∧p=f j:=by
   intro j p hj
   rw [List.getElem?_map] at hj
   by_cases hjl:j < len
   ·rw [List.getElem?_range hjl] at hj
    exact ⟨hjl,(Option.some.inj hj).symm⟩
   ·rw [List.getElem?_eq_none (by simp;omega)] at hj
    cases hj
  have hml:maxLen≤9223372036854775807:=by decide
  refine ⟨(List.range len).map f,⟨some a,cap,by rw [hPl],by rw [hPl];exact hl,by rw [hPl],by rw [hPl];omega,fun _ =>⟨a,rfl,fun j p hj=>?_⟩⟩,fun hb=>?_⟩
  ·obtain ⟨hjl,rfl⟩:=hget j p hj
   exact (hf j hjl).1
  ·rw [show Rows.uptoBulk (.slice (elems.map (·.1)) (rest.map (·.1)):DataW H)=Rows.uptoBulkAll (elems.map (·.1)) + Rows.uptoBulkAll (rest.map (·.1)) + 1 from by simp only [Rows.uptoBulk]] at hb
   have hbl:=LO (elems.map (·.1))
   rw [List.length_map,hlen] at hbl
   refine ⟨by rw [hPl];omega,fun y hy=>?_⟩
   obtain ⟨j,hj,rfl⟩:=List.mem_map.1 hy
   obtain ⟨_,y',hy1,hy2⟩:=hf j (List.mem_range.1 hj)
   exact hy2 (by have:=EO (elems.map (·.1)) y'.1 (List.mem_map_of_mem (List.mem_of_getElem? hy1));omega)
theorem L3 {α:Type} {l:List α} (h:l.length=3):∃ a b c,l= [a,b,c]:=by
 match l,h with
 | [a,b,c],_ =>exact ⟨a,b,c,rfl⟩
theorem L4 {α:Type} {l:List α} (h:l.length=4):∃ a b c d,l= [a,b,c,d]:=by
 match l,h with
 | [a,b,c,d],_ =>exact ⟨a,b,c,d,rfl⟩
theorem L5 {α:Type} {l:List α} (h:l.length=5):∃ a b c d e,l= [a,b,c,d,e]:=by
 match l,h with
 | [a,b,c,d,e],_ =>exact ⟨a,b,c,d,e,rfl⟩
theorem L6 {α:Type} {l:List α} (h:l.length=6):∃ a b c d e f,l= [a,b,c,d,e,f]:=by
 match l,h with
 | [a,b,c,d,e,f],_ =>exact ⟨a,b,c,d,e,f,rfl⟩
theorem L9 {α:Type} {l:List α} (h:l.length=9):∃ a b c d e f g i j,l= [a,b,c,d,e,f,g,i,j]:=by
 match l,h with
 | [a,b,c,d,e,f,g,i,j],_ =>exact ⟨a,b,c,d,e,f,g,i,j,rfl⟩
theorem L13 {α:Type} {l:List α} (h:l.length=13):∃ a b c d e f g i j k m n o,l= [a,b,c,d,e,f,g,i,j,k,m,n,o]:=by
 match l,h with
 | [a,b,c,d,e,f,g,i,j,k,m,n,o],_ =>exact ⟨a,b,c,d,e,f,g,i,j,k,m,n,o,rfl⟩
theorem aeM:Tryz.prog.cellsOf 29=3:=by kernel_rfl
theorem ab6:Tryz.prog.cellsOf 31=5:=by kernel_rfl
theorem ab7:Tryz.prog.cellsOf 37=6:=by kernel_rfl
theorem ab8:Tryz.prog.cellsOf 34=9:=by kernel_rfl
theorem Ra:Tryz.prog.cellsOf 46=13:=by kernel_rfl
theorem alK:Tryz.prog.cellsOf 9=1:=by kernel_rfl
theorem ab9:Tryz.prog.cellsOf 4=1:=by kernel_rfl
theorem aeN:Tryz.prog.cellsOf 3=1:=by kernel_rfl
theorem cU8:Tryz.prog.cellsOf 5=1:=by kernel_rfl
theorem alL:Tryz.prog.cellsOf 27=1:=by kernel_rfl
theorem aeO:Tryz.prog.cellsOf 32=1:=by kernel_rfl
theorem aeP:Tryz.prog.cellsOf 22=1:=by kernel_rfl
theorem Rb:yA enc W 29 k29 (fun b=>b.f0.size≤qp∧b.f1.size≤qp):=by
 intro fuel cs x h
 obtain ⟨xs,n,_,rfl,hl,hlen,hf⟩:=DataW.trod_struct Tryz.underlying29 h
 rw [aeM] at hl
 obtain ⟨c0,c1,c2,rfl⟩:=L3 hl
 obtain ⟨y0,y1,y2,rfl⟩:=L3 hlen
 have h0:DataW.trod enc Tryz.prog W 0 (fun _ =>true) true n 9 (([c0,c1,c2].drop 0).take (Tryz.prog.cellsOf 9))=some y0:=hf 0 _ rfl
 have h1:DataW.trod enc Tryz.prog W 0 (fun _ =>true) true n 9 (([c0,c1,c2].drop 1).take (Tryz.prog.cellsOf 9))=some y1:=hf 1 _ rfl
 have h2:DataW.trod enc Tryz.prog W 0 (fun _ =>true) true n 4 (([c0,c1,c2].drop 2).take (Tryz.prog.cellsOf 4))=some y2:=hf 2 _ rfl
 rw [alK] at h0 h1
 rw [ab9] at h2
 obtain ⟨p0,k0,s0⟩:=EP _ _ _ h0
 obtain ⟨p1,k1,s1⟩:=EP _ _ _ h1
 obtain ⟨p2,k2,s2⟩:=LP _ _ _ h2
 exact ⟨⟨p0,p1,p2⟩,⟨[c0],[c1,c2],rfl,k0,⟨[c1],[c2],rfl,k1,k2⟩⟩,fun hb=>⟨s0 (Nat.le_trans (nE _ _ cF) hb),s1 (Nat.le_trans (nE _ _ cF) hb)⟩⟩
theorem aaW:yA enc W 31 k31 Jv:=by
 intro fuel cs x h
 obtain ⟨xs,n,_,rfl,hl,hlen,hf⟩:=DataW.trod_struct Tryz.underlying31 h
 rw [ab6] at hl
 obtain ⟨c0,c1,c2,c3,c4,rfl⟩:=L5 hl
 obtain ⟨y0,y1,y2,rfl⟩:=L3 hlen
 have h0:DataW.trod enc Tryz.prog W 0 (fun _ =>true) true n 4 (([c0,c1,c2,c3,c4].drop 0).take (Tryz.prog.cellsOf 4))=some y0:=hf 0 _ rfl
 have h1:DataW.trod enc Tryz.prog W 0 (fun _ =>true) true n 27 (([c0,c1,c2,c3,c4].drop 1).take (Tryz.prog.cellsOf 27))=some y1:=hf 1 _ rfl
 have h2:DataW.trod enc Tryz.prog W 0 (fun _ =>true) true n 29 (([c0,c1,c2,c3,c4].drop 2).take (Tryz.prog.cellsOf 29))=some y2:=hf 2 _ rfl
 rw [ab9] at h0
 rw [alL] at h1
 rw [aeM] at h2
 obtain ⟨p0,k0,s0⟩:=LP _ _ _ h0
 obtain ⟨p1,k1,s1⟩:=Dt (ByteArray.mk #[]) Tryz.underlying27 alK EP _ _ _ h1
 obtain ⟨p2,k2,s2⟩:=Rb _ _ _ h2
 exact ⟨⟨p0,p1,p2⟩,⟨[c0],[c1,c2,c3,c4],rfl,k0,⟨[c1],[c2,c3,c4],rfl,k1,k2⟩⟩,fun hb=>
  have a1:=s1 (Nat.le_trans (nE _ _ cF) hb)
  have a2:=s2 (Nat.le_trans (nE _ _ cF) hb)
  ⟨a1.1,a1.2,a2.1,a2.2⟩⟩
theorem aeQ {n:Int} (h:(Lit.int .u8 n).wf=true): 0≤n:=by simp [Lit.wf,IntKind.min,IntKind.max,IntKind.bits,IntKind.signed] at h;omega
theorem aaX:yA enc W 37 sM (fun r=>r.f0.f0.size≤qp∧r.f0.f1.size≤qp∧0≤r.f1):=by
 intro fuel cs x h
 obtain ⟨xs,n,_,rfl,hl,hlen,hf⟩:=DataW.trod_struct Tryz.underlying37 h
 rw [ab7] at hl
 obtain ⟨c0,c1,c2,c3,c4,c5,rfl⟩:=L6 hl
 obtain ⟨y0,y1,y2,y3,rfl⟩:=L4 hlen
 have h0:DataW.trod enc Tryz.prog W 0 (fun _ =>true) true n 29 (([c0,c1,c2,c3,c4,c5].drop 0).take (Tryz.prog.cellsOf 29))=some y0:=hf 0 _ rfl
 have h1:DataW.trod enc Tryz.prog W 0 (fun _ =>true) true n 5 (([c0,c1,c2,c3,c4,c5].drop 3).take (Tryz.prog.cellsOf 5))=some y1:=hf 1 _ rfl
 have h2:DataW.trod enc Tryz.prog W 0 (fun _ =>true) true n 3 (([c0,c1,c2,c3,c4,c5].drop 4).take (Tryz.prog.cellsOf 3))=some y2:=hf 2 _ rfl
 have h3:DataW.trod enc Tryz.prog W 0 (fun _ =>true) true n 3 (([c0,c1,c2,c3,c4,c5].drop 5).take (Tryz.prog.cellsOf 3))=some y3:=hf 3 _ rfl
 rw [aeM] at h0
 rw [cU8] at h1
 rw [aeN] at h2 h3
 obtain ⟨p0,k0,s0⟩:=Rb _ _ _ h0
 obtain ⟨p1,k1,s1⟩:=nG Tryz.underlying5 _ _ _ h1
 obtain ⟨p2,k2,s2⟩:=nG Tryz.underlying3 _ _ _ h2
 obtain ⟨p3,k3,s3⟩:=nG Tryz.underlying3 _ _ _ h3
 exact ⟨⟨p0,p1,p2,p3⟩,⟨[c0,c1,c2],[c3,c4,c5],rfl,k0,⟨[c3],[c4,c5],rfl,k1,⟨[c4],[c5],rfl,k2,k3⟩⟩⟩,fun hb=>have a0:=s0 (Nat.le_trans (nE _ _ cF) hb);⟨a0.1,a0.2,aeQ (s1 (Nat.le_trans (nE _ _ cF) hb))⟩⟩
theorem aaY:yA enc W 34 Fw kV:=by
 intro fuel cs x h
 obtain ⟨xs,n,_,rfl,hl,hlen,hf⟩:=DataW.trod_struct Tryz.underlying34 h
 rw [ab8] at hl
 obtain ⟨c0,c1,c2,c3,c4,c5,c6,c7,c8,rfl⟩:=L9 hl
 obtain ⟨y0,y1,y2,y3,y4,rfl⟩:=L5 hlen
 have h0:DataW.trod enc Tryz.prog W 0 (fun _ =>true) true n 3 (([c0,c1,c2,c3,c4,c5,c6,c7,c8].drop 0).take (Tryz.prog.cellsOf 3))=some y0:=hf 0 _ rfl
 have h1:DataW.trod enc Tryz.prog W 0 (fun _ =>true) true n 31 (([c0,c1,c2,c3,c4,c5,c6,c7,c8].drop 1).take (Tryz.prog.cellsOf 31))=some y1:=hf 1 _ rfl
 have h2:DataW.trod enc Tryz.prog W 0 (fun _ =>true) true n 32 (([c0,c1,c2,c3,c4,c5,c6,c7,c8].drop 6).take (Tryz.prog.cellsOf 32))=some y2:=hf 2 _ rfl
 have h3:DataW.trod enc Tryz.prog W 0 (fun _ =>true) true n 22 (([c0,c1,c2,c3,c4,c5,c6,c7,c8].drop 7).take (Tryz.prog.cellsOf 22))=some y3:=hf 3 _ rfl
 have h4:DataW.trod enc Tryz.prog W 0 (fun _ =>true) true n 3 (([c0,c1,c2,c3,c4,c5,c6,c7,c8].drop 8).take (Tryz.prog.cellsOf 3))=some y4:=hf 4 _ rfl
 rw [aeN] at h0 h4
 rw [ab6] at h1
 rw [aeO] at h2
 rw [aeP] at h3
 obtain ⟨p0,k0,s0⟩:=nG Tryz.underlying3 _ _ _ h0
 obtain ⟨p1,k1,s1⟩:=aaW _ _ _ h1
 obtain ⟨p2,k2,s2⟩:=Dt z37 Tryz.underlying32 ab7 aaX _ _ _ h2
 obtain ⟨p3,k3,s3⟩:=Dt 0 Tryz.underlying22 cU8 (nG Tryz.underlying5) _ _ _ h3
 obtain ⟨p4,k4,s4⟩:=nG Tryz.underlying3 _ _ _ h4
 exact ⟨⟨p0,p1,p2,p3,p4⟩,⟨[c0],[c1,c2,c3,c4,c5,c6,c7,c8],rfl,k0,⟨[c1,c2,c3,c4,c5],[c6,c7,c8],rfl,k1,⟨[c6],[c7,c8],rfl,k2,⟨[c7],[c8],rfl,k3,k4⟩⟩⟩⟩,fun hb=>
  have a2:=s2 (Nat.le_trans (nE _ _ cF) hb)
  ⟨s1 (Nat.le_trans (nE _ _ cF) hb),a2.1,(s3 (Nat.le_trans (nE _ _ cF) hb)).1,a2.2⟩⟩
theorem aaZ:yA enc W 46 k46 (fun c=>kV c.f4):=by
 intro fuel cs x h
 obtain ⟨xs,n,_,rfl,hl,hlen,hf⟩:=DataW.trod_struct Tryz.underlying46 h
 rw [Ra] at hl
 obtain ⟨c0,c1,c2,c3,c4,c5,c6,c7,c8,c9,c10,c11,c12,rfl⟩:=L13 hl
 obtain ⟨y0,y1,y2,y3,y4,rfl⟩:=L5 hlen
 have h0:DataW.trod enc Tryz.prog W 0 (fun _ =>true) true n 5 (([c0,c1,c2,c3,c4,c5,c6,c7,c8,c9,c10,c11,c12].drop 0).take (Tryz.prog.cellsOf 5))=some y0:=hf 0 _ rfl
 have h1:DataW.trod enc Tryz.prog W 0 (fun _ =>true) true n 3 (([c0,c1,c2,c3,c4,c5,c6,c7,c8,c9,c10,c11,c12].drop 1).take (Tryz.prog.cellsOf 3))=some y1:=hf 1 _ rfl
 have h2:DataW.trod enc Tryz.prog W 0 (fun _ =>true) true n 3 (([c0,c1,c2,c3,c4,c5,c6,c7,c8,c9,c10,c11,c12].drop 2).take (Tryz.prog.cellsOf 3))=some y2:=hf 2 _ rfl
 have h3:DataW.trod enc Tryz.prog W 0 (fun _ =>true) true n 3 (([c0,c1,c2,c3,c4,c5,c6,c7,c8,c9,c10,c11,c12].drop 3).take (Tryz.prog.cellsOf 3))=some y3:=hf 3 _ rfl
 have h4:DataW.trod enc Tryz.prog W 0 (fun _ =>true) true n 34 (([c0,c1,c2,c3,c4,c5,c6,c7,c8,c9,c10,c11,c12].drop 4).take (Tryz.prog.cellsOf 34))=some y4:=hf 4 _ rfl
 rw [cU8] at h0
 rw [aeN] at h1 h2 h3
 rw [ab8] at h4
 obtain ⟨p0,k0,s0⟩:=nG Tryz.underlying5 _ _ _ h0
 obtain ⟨p1,k1,s1⟩:=nG Tryz.underlying3 _ _ _ h1
 obtain ⟨p2,k2,s2⟩:=nG Tryz.underlying3 _ _ _ h2
 obtain ⟨p3,k3,s3⟩:=nG Tryz.underlying3 _ _ _ h3
 obtain ⟨p4,k4,s4⟩:=aaY _ _ _ h4
 exact ⟨⟨p0,p1,p2,p3,p4⟩,⟨[c0],[c1,c2,c3,c4,c5,c6,c7,c8,c9,c10,c11,c12],rfl,k0,⟨[c1],[c2,c3,c4,c5,c6,c7,c8,c9,c10,c11,c12],rfl,k1,⟨[c2],[c3,c4,c5,c6,c7,c8,c9,c10,c11,c12],rfl,k2,⟨[c3],[c4,c5,c6,c7,c8,c9,c10,c11,c12],rfl,k3,k4⟩⟩⟩⟩,fun hb=>s4 (Nat.le_trans (nE _ _ cF) hb)⟩
theorem Kl {b0:Nat} {v:Value} {d:DataW H} {ps:List MemPlace} (hv:Value.okWide Tryz.prog W .any b0 58 v) (h:DataW.Trod enc Tryz.prog W 0 (fun _ =>true) true 58 v d ps):
 ∃ (A:Option Addr) (c:Nat) (l:List Ch),v= .slice A l.length c∧k46.C W A l.length l∧l.length≤c∧(Rows.uptoBulk d≤qp→∀ c∈l,kV c.f4):=by
 obtain ⟨A,n,c,rfl⟩:=okWide_slice Tryz.underlying58 hv
 obtain ⟨fuel,hf⟩:=h
 obtain ⟨l,⟨A',c',e,hl,hC⟩,hs⟩:=Dt z46 Tryz.underlying58 Ra aaZ _ _ _ hf
 have e': [Value.slice A n c]= [Value.slice A' l.length c']:=e
 simp only [List.cons.injEq,Value.slice.injEq,and_true] at e'
 obtain ⟨rfl,rfl,rfl⟩:=e'
 exact ⟨A,c,l,rfl,hC,hl,fun hb=>(hs hb).2⟩
end
end Go.Proofs.YtbjjaaodfbjkfaaGreatDoor.aeL
