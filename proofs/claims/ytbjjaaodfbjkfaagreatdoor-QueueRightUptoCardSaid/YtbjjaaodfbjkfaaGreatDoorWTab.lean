import Derived.Test.YtbjjaaodfbjkfaaGreatDoorWLast
import Derived.Test.YtbjjaaodfbjkfaaGreatDoorWWords
namespace Go.Proofs.ak.dA
open Go.Proofs.ak.bQ (ah)
def wL (md:Region.Mode) (o:Oper):List Nat:=(o.after.toList.filter (fun e=>Region.binds md e)).map (fun e=>e.on)
def Gj (md:Region.Mode) (ops:Array Oper) (i:Nat) (oi:Oper):List Nat:=(List.range ops.size).filter fun j=>!(j == i) && match ops[j]? with
 |some oj=>!(oj.after.any (fun e=>Region.binds md e && e.on == i) || oi.apart ops oj)
 |none=>false
def pW (md:Region.Mode) (ops:Array Oper):Bool×List (List Nat×List Nat):=(Region.noSelect ops,(List.range ops.size).map fun i=>match ops[i]? with
 |some o=>(wL md o,Gj md ops i o)
 |none=>([],[]))
def rE (T:List (List Nat×List Nat)) (l:List Bool) (i:Nat):Bool:=!l.getD i true && match T[i]? with
 |some r=>r.1.all (fun j=>l.getD j false)
 |none=>false
def Dp (T:List (List Nat×List Nat)) (l:List Bool):List Nat:=(List.range T.length).filter (rE T l)
def JQ (T:List (List Nat×List Nat)) (l:List Bool) (i:Nat):Bool:=match T[i]? with
 |some r=>r.2.all (fun j=>l.getD j true)
 |none=>false
def B0 (T:List (List Nat×List Nat)) (l:List Bool):Bool:=(List.range T.length).all fun j=>!l.getD j false || match T[j]? with
 |some r=>r.1.all (fun k=>l.getD k false)
 |none=>true
def Ac (T:List (List Nat×List Nat)) (i:Nat):Nat→Nat→Bool
 | 0,_ =>false
 |fuel + 1,d=>match T[d]? with
  |some r=>r.1.any fun j=>j == i || Ac T i fuel j
  |none=>false
def Nf (T:List (List Nat×List Nat)) (l:List Bool) (ds:List Nat) (i:Nat):Bool:=ds.all fun d=>l.getD d true || Ac T i T.length d
section
variable {md:Region.Mode} {ops:Array Oper} {T:Bool×List (List Nat×List Nat)} {l l' li lj lk:Array Bool} {ds:List Nat} {i j k:Nat}
theorem gd (l:Array Bool) (j:Nat) (b:Bool):l.getD j b=l.toList.getD j b:=by simp [Array.getD_eq_getD_getElem?,List.getD_eq_getElem?_getD]
theorem E0 (o:Oper) (p:Nat→Bool):o.after.all (fun e=>!Region.binds md e || p e.on)=(wL md o).all p:=by
 unfold wL
 rw [← Array.all_toList]
 induction o.after.toList with
 |nil=>rfl
 |cons e r ih=>
  rw [List.all_cons,ih,List.filter_cons]
  cases h:Region.binds md e<;>simp
theorem Qr (o:Oper) (p:Nat→Bool):o.after.any (fun e=>Region.binds md e && p e.on)=(wL md o).any p:=by
 unfold wL
 rw [← Array.any_toList]
 induction o.after.toList with
 |nil=>rfl
 |cons e r ih=>
  rw [List.any_cons,ih,List.filter_cons]
  cases h:Region.binds md e<;>simp
theorem rF:(pW md ops).2.length=ops.size:=by simp [pW]
theorem wM {o:Oper} (h:ops[i]? =some o):(pW md ops).2[i]? =some (wL md o,Gj md ops i o):=by
 have hi:=(Array.getElem?_eq_some_iff.1 h).1
 unfold pW
 rw [List.getElem?_map,List.getElem?_range hi,Option.map_some,h]
theorem wN (h:ops[i]? =none):(pW md ops).2[i]? =none:=by
 have hi:ops.size≤i:=Array.getElem?_eq_none_iff.1 h
 exact List.getElem?_eq_none (by rw [rF];exact hi)
theorem Lh:rE (pW md ops).2 l.toList i=(!l.getD i true && ((ops[i]?).map (·.after.all fun e=>!Region.binds md e || l.getD e.on false)).getD false):=by
 unfold rE
 rw [gd]
 cases h:ops[i]? with
 |none=>rw [wN h];rfl
 |some o=>
  rw [wM h]
  simp only [Option.map_some,Option.getD_some]
  rw [← E0]
  simp only [gd]
theorem Dq:Region.ready md ops l=Dp (pW md ops).2 l.toList:=by
 unfold Region.ready Dp
 rw [rF]
 refine List.filter_congr (fun i _ =>?_)
 rw [Lh]
theorem free_eq:Region.free md ops l i=JQ (pW md ops).2 l.toList i:=by
 unfold Region.free JQ
 cases h:ops[i]? with
 |none=>rw [wN h]
 |some oi=>
  rw [wM h]
  simp only [Gj]
  rw [List.all_filter]
  congr 1
  funext j
  rw [gd]
  cases hj:ops[j]? with
  |none=>cases (j == i)<;>cases (l.toList.getD j true)<;>simp
  |some oj=>
   cases (j == i)<;>cases (l.toList.getD j true)<;>cases (oj.after.any (fun e=>Region.binds md e && e.on == i) || oi.apart ops oj)<;>simp_all
theorem closed_eq:Region.yB md ops l=B0 (pW md ops).2 l.toList:=by
 unfold Region.yB B0
 rw [rF]
 congr 1
 funext j
 rw [gd]
 cases h:ops[j]? with
 |none=>rw [wN h]
 |some o=>
  rw [wM h]
  simp only
  rw [← E0]
  simp only [gd]
theorem reach_eq:∀ (fuel d:Nat),Region.qj md ops i fuel d=Ac (pW md ops).2 i fuel d
 | 0,_ =>rfl
 |fuel + 1,d=>by
  unfold Region.qj Ac
  cases h:ops[d]? with
  |none=>rw [wN h]
  |some o=>
   rw [wM h]
   simp only
   rw [← Qr]
   congr 1
   funext e
   rw [reach_eq fuel]
theorem last_eq:Region.Nb md ops l ds i=Nf (pW md ops).2 l.toList ds i:=by
 unfold Region.Nb Nf
 rw [rF]
 congr 1
 funext d
 rw [gd,reach_eq]
theorem Bk (h:rE T.2 l.toList i=true) (hT:pW md ops=T):(Region.ready md ops l).contains i=true:=by
 subst hT
 rw [Dq]
 unfold Dp
 rw [List.contains_iff_mem,List.mem_filter,List.mem_range]
 refine ⟨?_,h⟩
 unfold rE at h
 rw [Bool.and_eq_true] at h
 cases hq:(pW md ops).2[i]? with
 |none=>rw [hq] at h;simp at h
 |some r=>exact (List.getElem?_eq_some_iff.1 hq).1
theorem Li (h:(l.toList.set i true == l'.toList)=true):(l.setIfInBounds i true == l')=true:=by
 rw [beq_iff_eq] at h ⊢
 apply Array.ext'
 rw [Array.toList_setIfInBounds]
 exact h
def ad2 (T:Bool×List (List Nat×List Nat)) (l l':List Bool) (i:Nat):Bool:=T.1 && JQ T.2 l i && rE T.2 l i && (l.set i true == l')
theorem bg (hT:pW md ops=T) (h:ad2 T l.toList l'.toList i=true):UR md ops l l' i=true:=by
 simp only [ad2,Bool.and_eq_true] at h
 obtain ⟨⟨⟨h1,h2⟩,h3⟩,h4⟩:=h
 have h5:=Bk h3 hT
 have h6:=Li h4
 subst hT
 simp only [UR,Bool.and_eq_true]
 exact ⟨⟨⟨h1,by rw [free_eq];exact h2⟩,h5⟩,h6⟩
def SG (T:Bool×List (List Nat×List Nat)) (ds:List Nat) (l l':List Bool) (i:Nat):Bool:=T.1 && JQ T.2 l i && rE T.2 l i && B0 T.2 l && Nf T.2 l ds i && (l.set i true == l')
theorem UT (hT:pW md ops=T) (h:SG T ds l.toList l'.toList i=true):JN md ops ds l l' i=true:=by
 simp only [SG,Bool.and_eq_true] at h
 obtain ⟨⟨⟨⟨⟨h1,h2⟩,h3⟩,h4⟩,h5⟩,h6⟩:=h
 have h7:=Bk h3 hT
 have h8:=Li h6
 subst hT
 simp only [JN,Bool.and_eq_true]
 exact ⟨⟨⟨⟨⟨h1,by rw [free_eq];exact h2⟩,h7⟩,by rw [closed_eq];exact h4⟩,by rw [last_eq];exact h5⟩,h8⟩
theorem jJ (hT:pW md ops=T) (h:(Dp T.2 l.toList == [i] && l.toList.set i true == l'.toList)=true):Ab md ops l l' i=true:=by
 simp only [Bool.and_eq_true] at h
 obtain ⟨h1,h2⟩:=h
 subst hT
 simp only [Ab,Bool.and_eq_true]
 exact ⟨by rw [Dq];exact h1,Li h2⟩
theorem nD (hT:pW md ops=T) (h:(Dp T.2 l.toList == [])=true):(Region.ready md ops l == [])=true:=by
 subst hT
 rw [Dq]
 exact h
def upM (B:List Nat) (d:Nat):List Nat→Nat
 | []=>0
 |n :: r=>(2 ^ n ||| (if n < d then B.getD n 0 else 0)) ||| upM B d r
def pP (T:List (List Nat×List Nat)) (B:List Nat):Bool:=(List.range T.length).all fun d=>match T[d]? with
 |some r=>(B.getD d 0 ||| upM B d r.1) == upM B d r.1
 |none=>false
theorem Ng {B:List Nat} {d i:Nat}:∀ {ns:List Nat},(upM B d ns).testBit i=true→∃ n∈ns,n=i∨(n < d∧(B.getD n 0).testBit i=true)
 | [],h=>by simp [upM] at h
 |n :: r,h=>by
  unfold upM at h
  rw [Nat.testBit_or,Nat.testBit_or,Bool.or_eq_true,Bool.or_eq_true] at h
  rcases h with (h|h)|h
  ·rw [Nat.testBit_two_pow] at h
   exact ⟨n,List.mem_cons_self,.inl (by simpa using h)⟩
  ·by_cases hn:n < d
   ·rw [if_pos hn] at h
    exact ⟨n,List.mem_cons_self,.inr ⟨hn,h⟩⟩
   ·rw [if_neg hn] at h
    simp at h
  ·obtain ⟨m,hm,h2⟩:=Ng h
   exact ⟨m,List.mem_cons_of_mem _ hm,h2⟩
theorem E1 {T:List (List Nat×List Nat)} {B:List Nat} (hB:pP T B=true):∀ (fuel d:Nat),d < fuel→d < T.length→(B.getD d 0).testBit i=true→Ac T i fuel d=true
 | 0,d,h,_,_ =>by omega
 |fuel + 1,d,h,hd,hb=>by
  have h1:=List.all_eq_true.1 hB d (List.mem_range.2 hd)
  cases hr:T[d]? with
  |none=>rw [hr] at h1;simp at h1
  |some r=>
   rw [hr] at h1
   simp only [beq_iff_eq] at h1
   have h2:(upM B d r.1).testBit i=true:=by rw [← h1,Nat.testBit_or,hb,Bool.true_or]
   obtain ⟨n,hn,h3⟩:=Ng h2
   unfold Ac
   rw [hr]
   simp only
   rw [List.any_eq_true]
   refine ⟨n,hn,?_⟩
   rcases h3 with rfl|⟨h4,h5⟩
   ·simp
   ·rw [E1 hB fuel n fA fA h5,Bool.or_true]
def Z4 (T:List (List Nat×List Nat)) (B:List Nat) (l:List Bool) (ds:List Nat) (i:Nat):Bool:=ds.all fun d=>l.getD d true || (decide (d < T.length) && (B.getD d 0).testBit i)
def Z5 (T:Bool×List (List Nat×List Nat)) (B:List Nat) (ds:List Nat) (l l':List Bool) (i:Nat):Bool:=T.1 && JQ T.2 l i && rE T.2 l i && B0 T.2 l && Z4 T.2 B l ds i && (l.set i true == l')
theorem eU {B:List Nat} (hT:pW md ops=T) (hB:pP T.2 B=true) (h:Z5 T B ds l.toList l'.toList i=true):JN md ops ds l l' i=true:=by
 refine UT hT ?_
 simp only [Z5,SG,Bool.and_eq_true] at h ⊢
 obtain ⟨⟨⟨⟨⟨h1,h2⟩,h3⟩,h4⟩,h5⟩,h6⟩:=h
 refine ⟨⟨⟨⟨⟨h1,h2⟩,h3⟩,h4⟩,?_⟩,h6⟩
 unfold Z4 at h5
 unfold Nf
 rw [List.all_eq_true] at h5 ⊢
 intro d hd
 have h7:=h5 d hd
 rw [Bool.or_eq_true,Bool.and_eq_true,decide_eq_true_eq] at h7
 rcases h7 with h7|⟨h8,h9⟩
 ·rw [h7,Bool.true_or]
 ·rw [E1 hB _ d h8 h8 h9,Bool.or_true]
theorem kB {P:Program} {Q:Exit→Act→World→Prop} {S:World→Prop} {n:Nat} {a:Act} {w:World} {B:List Nat} (hT:pW md ops=T) (hB:pP T.2 B=true) (h:ah (pW md ops=T)→ah (pP T.2 B=true)→eT P md ops Q S ds n l a w):eT P md ops Q S ds n l a w:=h ⟨hT⟩ ⟨hB⟩
end
def xw:Code→Nat→Option (Array Oper)
 | .region id ops _,k=>if id == k then some ops else none
 | .seq a b,k=>match xw a k with
   |some o=>some o
   |none=>xw b k
 | .cond _ a b,k=>match xw a k with
   |some o=>some o
   |none=>xw b k
 | .block _ c,k=>xw c k
 | .loop c,k=>xw c k
 | .scope c,k=>xw c k
 | .rangeFunc _ _ a b,k=>match xw a k with
   |some o=>some o
   |none=>xw b k
 |_,_ =>none
def opsOf (f:Func) (k:Nat):Array Oper:=((f.body.bind fun c=>xw c k)).getD #[]
end Go.Proofs.ak.dA
