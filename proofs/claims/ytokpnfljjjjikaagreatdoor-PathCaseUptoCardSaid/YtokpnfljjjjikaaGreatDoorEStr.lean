import Derived.Test.YtokpnfljjjjikaaGreatDoorShelf
import Derived.Test.YtokpnfljjjjikaaGreatDoorWMore
namespace Go.Proofs.YtokpnfljjjjikaaGreatDoor
open Go.RowKit Go.Proofs.aj.bw Go.Proofs.aj.cj
def pE (w:World) (g:Nat):Prop:=∃ ev,w.cell? ⟨g,0,none⟩=some ev∧(ev= .nilIface∨∃ te pe,ev= .iface te pe)
structure aQ (w:World):Prop where
 most:∃ m:Int,w.cell? ⟨1,0,none⟩=some (.int .i64 m)
 syn:pE w 5
 rng:pE w 6
theorem pE.below {w w1:World} {g:Nat} (h:pE w g) (hb:Below w.heap.size w w1):pE w1 g:=by
 obtain ⟨ev,hc,he⟩:=h
 exact ⟨ev,jE hb hc,he⟩
theorem aQ.below {w w1:World} (h:aQ w) (hb:Below w.heap.size w w1):aQ w1:=by
 obtain ⟨⟨m,hm⟩,hs,hr⟩:=h
 exact ⟨⟨m,jE hb hm⟩,hs.below hb,hr.below hb⟩
theorem aQ.drewN {w:World} (h:aQ w) (n:Nat):aQ (w.drewN n):=h.below (aK (Below.refl _ _) n)
theorem aQ.drew {w:World} (h:aQ w):aQ w.drew:=h.below (aW (Below.refl _ _))
def strings_IndexByte.f (s:ByteArray) (c:Int):Option Int:=some (Lib.indexByte s.data.toList c.toNat.toUInt8)
theorem strings_IndexByte.calls (a0:ByteArray) (a1:Int) (r:Int) (w:World) (h:strings_IndexByte.f a0 a1=some r):
 Calls Tryz.prog 159 #[.string a0,.int .u8 a1] w fun e w'=>e= .returned (.int .i64 r)∧fV w w':=by
 obtain rfl:=Option.some.inj h
 refine (Tryz.strings_IndexByte a0 a1 w).mono ?_
 rintro e w' ⟨rfl,rfl⟩
 exact ⟨rfl,fV.refl _⟩
def one? (s:ByteArray):Option UInt8:=match s.data.toList with| [c]=>some c|_ =>none
theorem one?_eq {s:ByteArray} {c:UInt8} (h:one? s=some c):s=⟨#[c]⟩:=by
 obtain ⟨⟨l⟩⟩:=s
 unfold one? at h
 match l,h with
 | [d],h=>simp at h;subst h;rfl
def pieces (c:UInt8):List UInt8→List (List UInt8)
 | []=>[[]]
 |b :: l=>if b == c then [] :: pieces c l else match pieces c l with
  | []=>[[b]]
  |p :: ps=>(b :: p) :: ps
theorem nW (c:UInt8):∀ l,pieces c l≠ []
 | []=>by simp [pieces]
 |b :: l=>by
  unfold pieces
  split
  ·simp
  ·split<;>simp
theorem jH (c:UInt8):∀ l,(pieces c l).length=l.count c + 1
 | []=>rfl
 |b :: l=>by
  have ih:=jH c l
  unfold pieces
  by_cases hb:b=c
  ·subst hb
   simp [ih]
  ·rw [if_neg (by simpa using hb)]
   rw [List.count_cons_of_ne (by simpa using hb)]
   cases hp:pieces c l with
   |nil=>exact absurd hp (nW c l)
   |cons p ps=>rw [hp] at ih;simpa using ih
theorem qz (c:UInt8):∀ l,Lib.splitK [c] 0 (l.count c) l=pieces c l
 | []=>rfl
 |b :: l=>by
  have ih:=qz c l
  unfold pieces
  by_cases hb:b=c
  ·subst hb
   rw [if_pos bB,List.count_cons_self,Lib.splitK]
   have h0:Lib.index (b :: l) [b]=0:=by simp [Lib.index]
   rw [h0]
   simp [ih]
  ·rw [if_neg (by simpa using hb),List.count_cons_of_ne (by simpa using hb)]
   have hi:Lib.index (b :: l) [c]=if Lib.index l [c] == -1 then -1 else Lib.index l [c] + 1:=by
    have: ¬ c=b:=fun e=>hb e.symm
    simp [Lib.index,this]
   cases hk:l.count c with
   |zero=>
    rw [hk] at ih
    rw [← ih]
    simp [Lib.splitK]
   |succ k=>
    rw [hk] at ih
    rw [← ih]
    unfold Lib.splitK
    rw [hi]
    rcases Lib.index_spec l [c] with ⟨h1,_⟩|⟨i,h1,_,_,_⟩
    ·simp [h1]
    ·have hn: ¬ ((i:Int) == -1)=true:=by simp
     have hn2: ¬ ((i:Int) + 1 == -1)=true:=by simp;omega
     rw [h1]
     rw [if_neg hn,if_neg hn2,if_neg hn]
     have e1:((i:Int) + 1).toNat=i + 1:=by omega
     have e2:((i:Int)).toNat=i:=by omega
     simp [e1,e2]
theorem rH:∀ {xs ys:List ByteArray},xs.map (·.data.toList)=ys.map (·.data.toList)→xs=ys
 | [],[],_ =>rfl
 | [],_ :: _,h=>by simp at h
 |_ :: _,[],h=>by simp at h
 |x :: xs,y :: ys,h=>by
  simp only [List.map_cons,List.cons.injEq] at h
  obtain ⟨h1,h2⟩:=h
  rw [rH h2]
  obtain ⟨⟨x⟩⟩:=x
  obtain ⟨⟨y⟩⟩:=y
  simp at h1
  rw [h1]
def az (l:List UInt8):ByteArray:=⟨⟨l⟩⟩
theorem xh (s:ByteArray) (c:UInt8):Lib.splitB ⟨#[c]⟩ 0 (Lib.countB s ⟨#[c]⟩) s=(pieces c s.data.toList).map az:=by
 apply rH
 rw [Lib.splitB_data]
 have:Lib.countB s ⟨#[c]⟩=s.data.toList.count c:=Lib.count_one c s.data.toList
 rw [this,List.map_map]
 exact (qz c _).trans (by rw [show ((fun x:ByteArray=>x.data.toList) ∘az)=id from rfl];simp)
def strings_Split.f (s sep:ByteArray):Option (List ByteArray):=
 match one? sep with
 |some c=>if s.size < 4294967281 then some ((pieces c s.data.toList).map az) else none
 |none=>none
theorem strings_Split.calls (a0 a1:ByteArray) (r:List ByteArray) (w:World) (hG:aQ w) (h:strings_Split.f a0 a1=some r):
 Calls Tryz.prog 75 #[.string a0,.string a1] w fun e w'=>∃ v0_:Value,e= .returned (v0_)∧Kd.R Kd.string 9 w' w.heap.size (fun _ =>True) v0_ r∧Below w.heap.size w w':=by
 unfold strings_Split.f at h
 cases ho:one? a1 with
 |none=>rw [ho] at h;cases h
 |some c=>
  rw [ho] at h
  by_cases hs:a0.size < 4294967281
  case neg=>simp only [if_neg hs] at h;cases h
  simp only [if_pos hs] at h
  obtain rfl:=Option.some.inj h
  obtain rfl:=one?_eq ho
  obtain ⟨m,hm⟩:=hG.most
  refine (Tryz.strings_Split a0 ⟨#[c]⟩ m w hs hm (Nat.le_refl 1)).mono ?_
  rintro e w' ⟨rfl,rfl⟩
  have hc:Lib.countB a0 ⟨#[c]⟩=a0.data.toList.count c:=Lib.count_one c a0.data.toList
  have hl:=jH c a0.data.toList
  have hle:a0.data.toList.count c≤a0.size:=List.count_le_length ..
  rw [xh,hc]
  refine ⟨_,rfl,?_,aJ (Below.refl _ _) _⟩
  refine Kd.Iu ⟨?_,.inr ⟨w.heap.size,a0.data.toList.count c + 1,_,?_,Nat.le_refl _,heap_alloc_new w _,?_,?_,?_,?_⟩⟩ (fun _ _ =>trivial)
  ·simp [sJ]
  ·simp [hl]
  ·simp [hl]
  ·simp only [maxLen];omega
  ·simp [hl]
  ·simp only [sJ,Nat.mul_one,List.map_map];exact List.take_of_length_le bB
def strings_Cut.f (s sep:ByteArray):Option (ByteArray×ByteArray×Bool):=
 if s.size < 4294967281 then some (az (Lib.cut s.data.toList sep.data.toList).1,az (Lib.cut s.data.toList sep.data.toList).2.1,(Lib.cut s.data.toList sep.data.toList).2.2) else none
theorem strings_Cut.calls (a0 a1:ByteArray) (r1 r2:ByteArray) (r3:Bool) (w:World) (hG:aQ w) (h:strings_Cut.f a0 a1=some (r1,r2,r3)):
 Calls Tryz.prog 91 #[.string a0,.string a1] w fun e w'=>e= .returned (.tuple #[.string r1,.string r2,.bool r3])∧fV w w':=by
 unfold strings_Cut.f at h
 by_cases hs:a0.size < 4294967281
 case neg=>rw [if_neg hs] at h;cases h
 rw [if_pos hs] at h
 simp only [Option.some.injEq,Prod.mk.injEq] at h
 obtain ⟨rfl,rfl,rfl⟩:=h
 obtain ⟨m,hm⟩:=hG.most
 refine (Tryz.strings_Cut a0 a1 m w hs hm).mono ?_
 rintro e w' ⟨rfl,n,rfl⟩
 exact ⟨rfl,n,rfl⟩
end Go.Proofs.YtokpnfljjjjikaaGreatDoor
