import Derived.Test.YtbjjaaodfbjkfaaGreatDoorEApply
namespace Go.Proofs.YtbjjaaodfbjkfaaGreatDoor.acL
open Go.RowKit Go.Proofs.YtbjjaaodfbjkfaaGreatDoor.qb Go.Proofs.aj.bQ Go.Proofs.aj.dX Go.Proofs.aj.dJ
set_option linter.unusedVariables false
set_option linter.unusedSimpArgs false
theorem zZ {α:Type} (p:α→Bool) (l:List α):(!(l.any fun x=>!p x))=l.all p:=by
 induction l with
 |nil=>rfl
 |cons x l ih=>rw [List.any_cons,List.all_cons,Bool.not_or,Bool.not_not,ih]
abbrev Pt:=PV
abbrev Bx:=sD
def qO (n:Int):Bool:=decide (0≤n) && decide (n≤1099511627776)
theorem TR (a:Int):lH.f a=some (!qO a):=by
 unfold lH.f qO
 by_cases h:a < 0
 ·rw [if_pos h];simp;omega
 ·rw [if_neg h,decide_eq_true (show 0≤a by omega),Bool.true_and,← decide_not];simp
theorem TS (l:List Int) (hm:l.length≤9223372036854775807):∀ (d k n:Nat),n + d=l.length→d < k→
 ∃ r,bD.l0 k l (l.length:Int) (n:Int)=some r∧(decide (0≤r))=(l.drop n).any fun x=>!qO x:=by
 intro d
 induction d with
 |zero=>
  intro k n hn hk
  obtain ⟨k,rfl⟩:∃ m,k=m + 1:=⟨k - 1,ay⟩
  exact ⟨-1,by simp only [bD.l0];rw [if_neg ay],by rw [List.drop_of_length_le ay];rfl⟩
 |succ d ih=>
  intro k n hn hk
  obtain ⟨k,rfl⟩:∃ m,k=m + 1:=⟨k - 1,ay⟩
  have hlt:n < l.length:=by omega
  have hrd:rd l (n:Int)=l[n]:=by unfold rd;simp [List.getD_eq_getElem?_getD,List.getElem?_eq_getElem hlt]
  have hw:wrap64 ((n:Int) + 1)=((n + 1:Nat):Int):=by unfold wrap64;omega
  rw [List.drop_eq_getElem_cons hlt,List.any_cons]
  simp only [bD.l0]
  rw [if_pos ay,if_pos ay,if_pos ay,TR,hrd]
  simp only [Option.bind_some]
  cases h:qO l[n] with
  |true=>
   obtain ⟨r,hr,hd⟩:=ih k (n + 1) ay ay
   exact ⟨r,KY,by rw [hd];simp⟩
  |false=>exact ⟨(n:Int),cO,cO⟩
theorem rM (l:List Int) (hm:l.length≤9223372036854775807) (k:Nat) (hk:l.length < k):cV.f k l=some (l.all qO):=by
 unfold cV.f cS.f bD.f
 obtain ⟨r,hr,hd⟩:=TS l hm l.length k 0 ay hk
 rw [List.drop_zero] at hd
 rw [show ((0:Nat):Int)=0 from rfl] at hr
 rw [hr]
 simp only [Option.bind_some,ge_iff_le]
 rw [hd,zZ]
def z1 (ρ:Pt→Bool) (r:Rc):Bool:=ρ ⟨false,[],r.f0⟩ && (decide (r.f1≤2) && (qO r.f2 && qO r.f3))
def rN (ρ:Pt→Bool) (k0:Nat) (p:Pt):Prop:=∀ k,k0≤k→cU.f k p.f0 p.f1 p.f2.f0 p.f2.f1 p.f2.f2=some (ρ p)
theorem aaT {ρ:Pt→Bool} {k0:Nat} {r:Rc} (h:rN ρ k0 ⟨false,[],r.f0⟩) (k:Nat) (hk:k0 + 3≤k):lI.f k r.f0.f0 r.f0.f1 r.f0.f2 r.f1 r.f2 r.f3=some (!z1 ρ r):=by
 unfold lI.f pJ.f z1
 rw [h k ay]
 simp only [Option.bind_some]
 cases ρ ⟨false,[],r.f0⟩ with
 |false=>rfl
 |true=>
  rw [if_pos rfl]
  by_cases h2:r.f1≤2
  ·rw [if_pos h2,rM _ cO k tD,decide_eq_true h2]
   simp
  ·rw [if_neg h2,decide_eq_false h2]
   rfl
theorem TT {ρ:Pt→Bool} {k0:Nat} (l:List Rc) (hm:l.length≤9223372036854775807) (h:∀ r∈l,rN ρ k0 ⟨false,[],r.f0⟩):∀ (d k n:Nat),n + d=l.length→d + k0 + 3 < k→
 ∃ r,bf.l0 k l (l.length:Int) (n:Int)=some r∧(decide (0≤r))=(l.drop n).any fun x=>!z1 ρ x:=by
 intro d
 induction d with
 |zero=>
  intro k n hn hk
  obtain ⟨k,rfl⟩:∃ m,k=m + 1:=⟨k - 1,ay⟩
  exact ⟨-1,by simp only [bf.l0];rw [if_neg ay],by rw [List.drop_of_length_le ay];rfl⟩
 |succ d ih=>
  intro k n hn hk
  obtain ⟨k,rfl⟩:∃ m,k=m + 1:=⟨k - 1,ay⟩
  have hlt:n < l.length:=by omega
  have hrd:bg l (n:Int)=l[n]:=by unfold bg;simp [List.getD_eq_getElem?_getD,List.getElem?_eq_getElem hlt]
  have hw:wrap64 ((n:Int) + 1)=((n + 1:Nat):Int):=by unfold wrap64;omega
  rw [List.drop_eq_getElem_cons hlt,List.any_cons]
  simp only [bf.l0]
  rw [if_pos ay,if_pos ay,if_pos ay,hrd,aaT (h _ (List.getElem_mem hlt)) k ay]
  simp only [Option.bind_some]
  cases hv:z1 ρ l[n] with
  |true=>
   obtain ⟨r,hr,hd⟩:=ih k (n + 1) ay ay
   exact ⟨r,KY,by rw [hd];simp⟩
  |false=>exact ⟨(n:Int),cO,cO⟩
theorem TU {ρ:Pt→Bool} {k0:Nat} (l:List Rc) (hm:l.length≤9223372036854775807) (h:∀ r∈l,rN ρ k0 ⟨false,[],r.f0⟩) (k:Nat) (hk:l.length + k0 + 3 < k):
 ((br.f k l).bind fun t=>(some (!t)))=some (l.all (z1 ρ)):=by
 unfold br.f bf.f
 obtain ⟨r,hr,hd⟩:=TT l hm h l.length k 0 ay ay
 rw [List.drop_zero] at hd
 rw [show ((0:Nat):Int)=0 from rfl] at hr
 rw [hr]
 simp only [Option.bind_some,ge_iff_le]
 rw [hd,zZ]
def I3 (ρ:Pt→Bool) (m:Ml):Bool:=
 decide (1≤m.f0) && (decide (m.f0 < 1099511627776) && (qO m.f4 && (decide (m.f1.f1.length=0) && (ρ m.f1 && ((m.f1.f0 || !decide (m.f1.f2.f1.toList= [])) && (decide (m.f3.length≤524288) && (decide (1≤m.f2.length) && (decide (m.f2.length≤100) && m.f2.all (z1 ρ)))))))))
structure BX (ρ:Pt→Bool) (k0:Nat) (m:Ml):Prop where
 frm:rN ρ k0 m.f1
 rcs:∀ r∈m.f2,rN ρ k0 ⟨false,[],r.f0⟩
theorem PL {ρ:Pt→Bool} {k0:Nat} {m:Ml} (h:BX ρ k0 m) (hm:m.f2.length≤9223372036854775807) (k:Nat) (hk:k0 + 110≤k):
 (if (m.f3.length:Int) > 524288 then (some false) else (if (m.f2.length:Int)≥1 then (if (m.f2.length:Int)≤100 then ((br.f k m.f2).bind fun t235=>(some (!t235))) else (some false)) else (some false)))=
   some (decide (m.f3.length≤524288) && (decide (1≤m.f2.length) && (decide (m.f2.length≤100) && m.f2.all (z1 ρ)))):=by
 by_cases h1:m.f3.length≤524288
 ·rw [if_neg ay,decide_eq_true h1,Bool.true_and]
  by_cases h2: 1≤m.f2.length
  ·rw [if_pos ay,decide_eq_true h2,Bool.true_and]
   by_cases h3:m.f2.length≤100
   ·rw [if_pos ay,decide_eq_true h3,Bool.true_and,TU m.f2 hm h.rcs k ay]
   ·rw [if_neg ay,decide_eq_false h3];rfl
  ·rw [if_neg ay,decide_eq_false h2];rfl
 ·rw [if_pos ay,decide_eq_false h1];rfl
theorem aaU {ρ:Pt→Bool} {k0:Nat} {m:Ml} (h:BX ρ k0 m) (hm:m.f2.length≤9223372036854775807) (k:Nat) (hk:k0 + 110≤k):
 jq.f k m.f0 m.f1.f0 m.f1.f1 m.f1.f2.f0 m.f1.f2.f1 m.f1.f2.f2 m.f2 m.f3 m.f4=some (I3 ρ m):=by
 unfold jq.f I3
 by_cases h1: 1≤m.f0
 ·rw [if_neg ay,decide_eq_true h1,Bool.true_and]
  by_cases h2:m.f0 < 1099511627776
  ·rw [if_neg ay,decide_eq_true h2,Bool.true_and,rM [m.f4] cO k tD]
   simp only [Option.bind_some,List.all_cons,List.all_nil,Bool.and_true]
   cases qO m.f4 with
   |false=>rfl
   |true=>
    rw [if_pos rfl,Bool.true_and]
    by_cases h3:m.f1.f1.length=0
    ·rw [if_neg ay,decide_eq_true h3,Bool.true_and,h.frm k ay]
     simp only [Option.bind_some]
     cases ρ m.f1 with
     |false=>rfl
     |true=>
      rw [if_pos rfl,Bool.true_and]
      have ht:=PL h hm k hk
      cases h4:m.f1.f0 with
      |true=>rw [if_pos rfl,Bool.true_or,Bool.true_and];exact ht
      |false=>
       rw [if_neg bE,Bool.false_or]
       by_cases h5:m.f1.f2.f1.toList= []
       ·rw [if_pos h5,decide_eq_true h5];rfl
       ·rw [if_neg h5,decide_eq_false h5,Bool.not_false,Bool.true_and];exact ht
    ·rw [if_pos ay,decide_eq_false h3];rfl
  ·rw [if_pos ay,decide_eq_false h2];rfl
 ·rw [if_pos ay,decide_eq_false h1];rfl
def pW (m:Ml):Bool:=decide (m.f0=0) && (decide (m.f4=0) && (!m.f1.f0 && (decide (m.f1.f1.length=0) && ((m.f1.f2.f0.toList == ([]:List UInt8) && (m.f1.f2.f1.toList == ([]:List UInt8) && (!m.f1.f2.f2))) && decide (m.f2.length + m.f3.length=0)))))
theorem Kw (m:Ml) (h2:m.f2.length≤9223372036854775807) (h3:m.f3.length≤9223372036854775807):eB.f m.f0 m.f1.f0 m.f1.f1 m.f1.f2.f0 m.f1.f2.f1 m.f1.f2.f2 m.f2 m.f3 m.f4=some (pW m):=by
 unfold eB.f pW
 by_cases a:m.f0=0
 ·rw [if_pos a,decide_eq_true a,Bool.true_and]
  by_cases b:m.f4=0
  ·rw [if_pos b,decide_eq_true b,Bool.true_and]
   cases m.f1.f0 with
   |true=>rfl
   |false=>
    rw [if_neg bE,Bool.not_false,Bool.true_and]
    by_cases c:m.f1.f1.length=0
    ·rw [if_pos ay,decide_eq_true c,Bool.true_and]
     cases (m.f1.f2.f0.toList == ([]:List UInt8) && (m.f1.f2.f1.toList == ([]:List UInt8) && (!m.f1.f2.f2))) with
     |false=>rfl
     |true=>
      rw [if_pos rfl,Bool.true_and]
      congr 1
      rw [Bool.eq_iff_iff,beq_iff_eq,decide_eq_true_iff]
      unfold wrap64
      omega
    ·rw [if_neg ay,decide_eq_false c];rfl
  ·rw [if_neg b,decide_eq_false b];rfl
 ·rw [if_neg a,decide_eq_false a];rfl
def wm (ρ:Pt→Bool) (kind id at_ due:Int) (m:Ml):Bool:=
 [id,at_,due].all qO && (if kind=1 then decide (id + at_ + due=0) && I3 ρ m else if kind=5 then decide (at_ + due=0) && (pW m || I3 ρ m) else if kind=2 then pW m else if kind=3∨kind=4 then decide (due=0) && pW m else if kind=6 then decide (at_ + due=0) && pW m else false)
theorem PM {α:Type} (o:Option α):(o.bind fun t=>some t)=o:=by cases o<;>rfl
theorem change_eq {ρ:Pt→Bool} {k0:Nat} {m:Ml} (h:BX ρ k0 m) (h2:m.f2.length≤9223372036854775807) (h3:m.f3.length≤9223372036854775807) (kind id at_ due:Int) (k:Nat) (hk:k0 + 112≤k):
 eX.f k kind id at_ due m.f0 m.f1.f0 m.f1.f1 m.f1.f2.f0 m.f1.f2.f1 m.f1.f2.f2 m.f2 m.f3 m.f4=some (wm ρ kind id at_ due m):=by
 obtain ⟨k,rfl⟩:∃ j,k=j + 1:=⟨k - 1,ay⟩
 unfold eX.f wm
 rw [rM _ cO _ tD]
 simp only [Option.bind_some]
 cases ht: [id,at_,due].all qO with
 |false=>rfl
 |true=>
  have hb:(0≤id∧id≤1099511627776)∧(0≤at_∧at_≤1099511627776)∧(0≤due∧due≤1099511627776):=by simpa [qO] using ht
  rw [if_pos rfl,Bool.true_and]
  simp only [Kw m h2 h3,aaU h h2 (k + 1) ay,eX.j0,Option.bind_some,PM]
  by_cases k1:kind=1
  ·rw [if_pos k1,if_pos k1]
   by_cases z:id + at_ + due=0
   ·rw [if_pos tv,decide_eq_true z,Bool.true_and]
   ·rw [if_neg tv,decide_eq_false z];rfl
  ·rw [if_neg k1,if_neg k1]
   by_cases k5:kind=5
   ·rw [if_pos k5,if_pos k5]
    by_cases z:at_ + due=0
    ·rw [if_pos tv,decide_eq_true z,Bool.true_and]
     cases pW m<;>rfl
    ·rw [if_neg tv,decide_eq_false z];rfl
   ·rw [if_neg k5,if_neg k5]
    by_cases k2:kind=2
    ·rw [if_pos k2,if_pos k2]
    ·rw [if_neg k2,if_neg k2]
     by_cases k3:kind=3
     ·subst k3
      simp
      by_cases z:due=0
      ·simp [z]
      ·simp [z]
     ·rw [if_neg k3]
      by_cases k4:kind=4
      ·subst k4
       simp
       by_cases z:due=0
       ·simp [z]
       ·simp [z]
      ·have e4:(kind == 4)=false:=by simpa using k4
       rw [e4,if_neg bE,if_neg (show ¬ (kind=3∨kind=4) by omega)]
       by_cases k6:kind=6
       ·rw [if_pos k6,if_pos k6]
        by_cases z:at_ + due=0
        ·rw [if_pos tv,decide_eq_true z,Bool.true_and]
        ·rw [if_neg tv,decide_eq_false z];rfl
       ·rw [if_neg k6,if_neg k6]
theorem I4 (ms:List Ml) (hl:ms.length≤1034834473200) (ho:∀ m∈ms,yC m) (n:Int):∀ (d k i:Nat),i + d=ms.length→d < k→
 cZ.l0 k ms (ms.length:Int) (i:Int) n (ms.take i)=some (n,ms):=by
 intro d
 induction d with
 |zero=>
  intro k i hi hk
  obtain ⟨k,rfl⟩:∃ m,k=m + 1:=⟨k - 1,ay⟩
  simp only [cZ.l0]
  rw [if_neg ay,List.take_of_length_le ay]
 |succ d ih=>
  intro k i hi hk
  obtain ⟨k,rfl⟩:∃ m,k=m + 1:=⟨k - 1,ay⟩
  have hlt:i < ms.length:=by omega
  have hrd:av ms (i:Int)=ms[i]:=by unfold av;simp [List.getD_eq_getElem?_getD,List.getElem?_eq_getElem hlt]
  have hw:wrap64 ((i:Int) + 1)=((i + 1:Nat):Int):=by unfold wrap64;omega
  simp only [cZ.l0]
  rw [if_pos ay,if_pos ay,if_pos ay,hrd,Io (ho _ (List.getElem_mem hlt))]
  simp only [Option.bind_some]
  rw [if_pos xy,hw]
  have h1:=ih k (i + 1) ay ay
  rw [List.take_succ_eq_append_getElem hlt] at h1
  exact h1
theorem copied_eq (ms:List Ml) (hl:ms.length≤1034834473200) (ho:∀ m∈ms,yC m) (n:Int) (k:Nat) (hk:ms.length < k):cZ.f k n ms=some (n,ms):=by
 unfold cZ.f
 have h:=I4 ms hl ho n ms.length k 0 ay hk
 rw [List.take_zero] at h
 exact h
end Go.Proofs.YtbjjaaodfbjkfaaGreatDoor.acL
