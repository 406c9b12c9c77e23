import Derived.Test.YtbjjaaodfbjkfaaGreatDoorShelf
import Derived.Test.YtbjjaaodfbjkfaaGreatDoorWMore
namespace Go.Proofs.YtbjjaaodfbjkfaaGreatDoor
open Go.RowKit Go.Proofs.ak.bR Go.Proofs.ak.cZ
def wj (w:World) (g:Nat):Prop:=∃ ev,w.cell? ⟨g,0,none⟩=some ev∧(ev= .nilIface∨∃ te pe,ev= .iface te pe)
structure bq (w:World):Prop where
 most:∃ m:Int,w.cell? ⟨0,0,none⟩=some (.int .i64 m)
 syn:wj w 3
 rng:wj w 4
theorem wj.below {w w1:World} {g:Nat} (h:wj w g) (hb:Below w.heap.size w w1):wj w1 g:=by
 obtain ⟨ev,hc,he⟩:=h
 exact ⟨ev,lX hb hc,he⟩
theorem bq.below {w w1:World} (h:bq w) (hb:Below w.heap.size w w1):bq w1:=by
 obtain ⟨⟨m,hm⟩,hs,hr⟩:=h
 exact ⟨⟨m,lX hb hm⟩,hs.below hb,hr.below hb⟩
theorem bq.drewN {w:World} (h:bq w) (n:Nat):bq (w.drewN n):=h.below (fU (Below.refl _ _) n)
theorem bq.drew {w:World} (h:bq w):bq w.drew:=h.below (fS (Below.refl _ _))
def one? (s:ByteArray):Option UInt8:=match s.data.toList with| [c]=>some c|_ =>none
theorem one?_eq {s:ByteArray} {c:UInt8} (h:one? s=some c):s=⟨#[c]⟩:=by
 obtain ⟨⟨l⟩⟩:=s
 unfold one? at h
 match l,h with
 | [d],h=>simp at h;subst h;rfl
def pieces (c:UInt8):List UInt8→List (List UInt8)
 | []=>[[]]
 |b :: l=>if b == c then [] :: pieces c l else match pieces c l with
  | []=>[[b]]
  |p :: ps=>(b :: p) :: ps
theorem Ru (c:UInt8):∀ l,pieces c l≠ []
 | []=>by simp [pieces]
 |b :: l=>by
  unfold pieces
  split
  ·simp
  ·split<;>simp
theorem nA (c:UInt8):∀ l,(pieces c l).length=l.count c + 1
 | []=>rfl
 |b :: l=>by
  have ih:=nA c l
  unfold pieces
  by_cases hb:b=c
  ·subst hb
   simp [ih]
  ·rw [if_neg xg]
   rw [List.count_cons_of_ne xg]
   cases hp:pieces c l with
   |nil=>exact absurd hp (Ru c l)
   |cons p ps=>rw [hp] at ih;simpa using ih
theorem yj (c:UInt8):∀ l,Lib.splitK [c] 0 (l.count c) l=pieces c l
 | []=>rfl
 |b :: l=>by
  have ih:=yj c l
  unfold pieces
  by_cases hb:b=c
  ·subst hb
   rw [if_pos cF,List.count_cons_self,Lib.splitK]
   have h0:Lib.index (b :: l) [b]=0:=by simp [Lib.index]
   rw [h0]
   simp [ih]
  ·rw [if_neg xg,List.count_cons_of_ne xg]
   have hi:Lib.index (b :: l) [c]=if Lib.index l [c] == -1 then -1 else Lib.index l [c] + 1:=by
    have: ¬ c=b:=fun e=>hb e.symm
    simp [Lib.index,this]
   cases hk:l.count c with
   |zero=>
    rw [hk] at ih
    rw [← ih]
    simp [Lib.splitK]
   |succ k=>
    rw [hk] at ih
    rw [← ih]
    unfold Lib.splitK
    rw [hi]
    rcases Lib.index_spec l [c] with ⟨h1,_⟩|⟨i,h1,_,_,_⟩
    ·simp [h1]
    ·have hn: ¬ ((i:Int) == -1)=true:=by simp
     have hn2: ¬ ((i:Int) + 1 == -1)=true:=by simp;omega
     rw [h1]
     rw [if_neg hn,if_neg hn2,if_neg hn]
     have e1:((i:Int) + 1).toNat=i + 1:=by omega
     have e2:((i:Int)).toNat=i:=by omega
     simp [e1,e2]
theorem zJ:∀ {xs ys:List ByteArray},xs.map (·.data.toList)=ys.map (·.data.toList)→xs=ys
 | [],[],_ =>rfl
 | [],_ :: _,h=>by simp at h
 |_ :: _,[],h=>by simp at h
 |x :: xs,y :: ys,h=>by
  simp only [List.map_cons,List.cons.injEq] at h
  obtain ⟨h1,h2⟩:=h
  rw [zJ h2]
  obtain ⟨⟨x⟩⟩:=x
  obtain ⟨⟨y⟩⟩:=y
  simp at h1
  rw [h1]
def cS (l:List UInt8):ByteArray:=⟨⟨l⟩⟩
theorem E4 (s:ByteArray) (c:UInt8):Lib.splitB ⟨#[c]⟩ 0 (Lib.countB s ⟨#[c]⟩) s=(pieces c s.data.toList).map cS:=by
 apply zJ
 rw [Lib.splitB_data]
 have:Lib.countB s ⟨#[c]⟩=s.data.toList.count c:=Lib.count_one c s.data.toList
 rw [this,List.map_map]
 exact (yj c _).trans (by rw [show ((fun x:ByteArray=>x.data.toList) ∘cS)=id from rfl];simp)
def strings_Split.f (s sep:ByteArray):Option (List ByteArray):=
 match one? sep with
 |some c=>if s.size < 4294967281 then some ((pieces c s.data.toList).map cS) else none
 |none=>none
theorem strings_Split.calls (a0 a1:ByteArray) (r:List ByteArray) (w:World) (hG:bq w) (h:strings_Split.f a0 a1=some r):
 Calls Tryz.prog 141 #[.string a0,.string a1] w fun e w'=>∃ D5:Value,e= .returned (D5)∧Kd.R Kd.string 9 w' w.heap.size (fun _ =>True) D5 r∧Below w.heap.size w w':=by
 unfold strings_Split.f at h
 cases ho:one? a1 with
 |none=>rw [ho] at h;cases h
 |some c=>
  rw [ho] at h
  by_cases hs:a0.size < 4294967281
  case neg=>simp only [if_neg hs] at h;cases h
  simp only [if_pos hs] at h
  obtain rfl:=Option.some.inj h
  obtain rfl:=one?_eq ho
  obtain ⟨m,hm⟩:=hG.most
  refine (Tryz.strings_Split a0 ⟨#[c]⟩ m w hs hm (Nat.le_refl 1)).mono ?_
  rintro e w' ⟨rfl,rfl⟩
  have hc:Lib.countB a0 ⟨#[c]⟩=a0.data.toList.count c:=Lib.count_one c a0.data.toList
  have hl:=nA c a0.data.toList
  have hle:a0.data.toList.count c≤a0.size:=List.count_le_length ..
  rw [E4,hc]
  refine ⟨_,rfl,?_,b9 (Below.refl _ _) _⟩
  refine Kd.Tv ⟨?_,.inr ⟨w.heap.size,a0.data.toList.count c + 1,_,?_,Nat.le_refl _,heap_alloc_new w _,?_,?_,?_,?_⟩⟩ (fun _ _ =>trivial)
  ·simp [Ao]
  ·simp [hl]
  ·simp [hl]
  ·simp only [maxLen];omega
  ·simp [hl]
  ·simp only [Ao,Nat.mul_one,List.map_map];exact List.take_of_length_le cF
def strings_Cut.f (s sep:ByteArray):Option (ByteArray×ByteArray×Bool):=
 if s.size < 4294967281 then some (cS (Lib.cut s.data.toList sep.data.toList).1,cS (Lib.cut s.data.toList sep.data.toList).2.1,(Lib.cut s.data.toList sep.data.toList).2.2) else none
theorem strings_Cut.calls (a0 a1:ByteArray) (r1 r2:ByteArray) (r3:Bool) (w:World) (hG:bq w) (h:strings_Cut.f a0 a1=some (r1,r2,r3)):
 Calls Tryz.prog 153 #[.string a0,.string a1] w fun e w'=>e= .returned (.tuple #[.string r1,.string r2,.bool r3])∧iy w w':=by
 unfold strings_Cut.f at h
 by_cases hs:a0.size < 4294967281
 case neg=>rw [if_neg hs] at h;cases h
 rw [if_pos hs] at h
 simp only [Option.some.injEq,Prod.mk.injEq] at h
 obtain ⟨rfl,rfl,rfl⟩:=h
 obtain ⟨m,hm⟩:=hG.most
 refine (Tryz.strings_Cut a0 a1 m w hs hm).mono ?_
 rintro e w' ⟨rfl,n,rfl⟩
 exact ⟨rfl,n,rfl⟩
end Go.Proofs.YtbjjaaodfbjkfaaGreatDoor
