import Derived.Test.YtokpnfljjjjikaaGreatDoorZw
import Derived.Test.YtokpnfljjjjikaaGreatDoorWLast
import Derived.Test.YtokpnfljjjjikaaGreatDoorWWords
namespace Go.Proofs.aj.gq
open Go.Proofs.aj.bV (ah)
def xY (md:Region.Mode) (o:Oper):List Nat:=(o.after.toList.filter (fun e=>Region.binds md e)).map (fun e=>e.on)
def IZ (md:Region.Mode) (ops:Array Oper) (i:Nat) (oi:Oper):List Nat:=(List.range ops.size).filter fun j=>!(j == i) && match ops[j]? with
 |some oj=>!(oj.after.any (fun e=>Region.binds md e && e.on == i) || oi.apart ops oj)
 |none=>false
def sH (md:Region.Mode) (ops:Array Oper):Bool×List (List Nat×List Nat):=(Region.noSelect ops,(List.range ops.size).map fun i=>match ops[i]? with
 |some o=>(xY md o,IZ md ops i o)
 |none=>([],[]))
def s7 (T:List (List Nat×List Nat)) (l:List Bool) (i:Nat):Bool:=!l.getD i true && match T[i]? with
 |some r=>r.1.all (fun j=>l.getD j false)
 |none=>false
def Fh (T:List (List Nat×List Nat)) (l:List Bool):List Nat:=(List.range T.length).filter (s7 T l)
def LL (T:List (List Nat×List Nat)) (l:List Bool) (i:Nat):Bool:=match T[i]? with
 |some r=>r.2.all (fun j=>l.getD j true)
 |none=>false
def D2 (T:List (List Nat×List Nat)) (l:List Bool):Bool:=(List.range T.length).all fun j=>!l.getD j false || match T[j]? with
 |some r=>r.1.all (fun k=>l.getD k false)
 |none=>true
def BX (T:List (List Nat×List Nat)) (i:Nat):Nat→Nat→Bool
 | 0,_ =>false
 |fuel + 1,d=>match T[d]? with
  |some r=>r.1.any fun j=>j == i || BX T i fuel j
  |none=>false
def Qj (T:List (List Nat×List Nat)) (l:List Bool) (ds:List Nat) (i:Nat):Bool:=ds.all fun d=>l.getD d true || BX T i T.length d
section
variable {md:Region.Mode} {ops:Array Oper} {T:Bool×List (List Nat×List Nat)} {l l' li lj lk:Array Bool} {ds:List Nat} {i j k:Nat}
theorem gd (l:Array Bool) (j:Nat) (b:Bool):l.getD j b=l.toList.getD j b:=by simp [Array.getD_eq_getD_getElem?,List.getD_eq_getElem?_getD]
theorem G7 (o:Oper) (p:Nat→Bool):o.after.all (fun e=>!Region.binds md e || p e.on)=(xY md o).all p:=by
 unfold xY
 rw [← Array.all_toList]
 induction o.after.toList with
 |nil=>rfl
 |cons e r ih=>
  rw [List.all_cons,ih,List.filter_cons]
  cases h:Region.binds md e<;>simp
theorem S7 (o:Oper) (p:Nat→Bool):o.after.any (fun e=>Region.binds md e && p e.on)=(xY md o).any p:=by
 unfold xY
 rw [← Array.any_toList]
 induction o.after.toList with
 |nil=>rfl
 |cons e r ih=>
  rw [List.any_cons,ih,List.filter_cons]
  cases h:Region.binds md e<;>simp
theorem s8:(sH md ops).2.length=ops.size:=by simp [sH]
theorem xZ {o:Oper} (h:ops[i]? =some o):(sH md ops).2[i]? =some (xY md o,IZ md ops i o):=by
 have hi:=(Array.getElem?_eq_some_iff.1 h).1
 unfold sH
 rw [List.getElem?_map,List.getElem?_range hi,Option.map_some,h]
theorem ya (h:ops[i]? =none):(sH md ops).2[i]? =none:=by
 have hi:ops.size≤i:=Array.getElem?_eq_none_iff.1 h
 exact List.getElem?_eq_none (by rw [s8];exact hi)
theorem Oe:s7 (sH md ops).2 l.toList i=(!l.getD i true && ((ops[i]?).map (·.after.all fun e=>!Region.binds md e || l.getD e.on false)).getD false):=by
 unfold s7
 rw [gd]
 cases h:ops[i]? with
 |none=>rw [ya h];rfl
 |some o=>
  rw [xZ h]
  simp only [Option.map_some,Option.getD_some]
  rw [← G7]
  simp only [gd]
theorem Fi:Region.ready md ops l=Fh (sH md ops).2 l.toList:=by
 unfold Region.ready Fh
 rw [s8]
 refine List.filter_congr (fun i _ =>?_)
 rw [Oe]
theorem free_eq:Region.free md ops l i=LL (sH md ops).2 l.toList i:=by
 unfold Region.free LL
 cases h:ops[i]? with
 |none=>rw [ya h]
 |some oi=>
  rw [xZ h]
  simp only [IZ]
  rw [List.all_filter]
  congr 1
  funext j
  rw [gd]
  cases hj:ops[j]? with
  |none=>cases (j == i)<;>cases (l.toList.getD j true)<;>simp
  |some oj=>
   cases (j == i)<;>cases (l.toList.getD j true)<;>cases (oj.after.any (fun e=>Region.binds md e && e.on == i) || oi.apart ops oj)<;>simp_all
theorem closed_eq:Region.Ae md ops l=D2 (sH md ops).2 l.toList:=by
 unfold Region.Ae D2
 rw [s8]
 congr 1
 funext j
 rw [gd]
 cases h:ops[j]? with
 |none=>rw [ya h]
 |some o=>
  rw [xZ h]
  simp only
  rw [← G7]
  simp only [gd]
theorem reach_eq:∀ (fuel d:Nat),Region.rJ md ops i fuel d=BX (sH md ops).2 i fuel d
 | 0,_ =>rfl
 |fuel + 1,d=>by
  unfold Region.rJ BX
  cases h:ops[d]? with
  |none=>rw [ya h]
  |some o=>
   rw [xZ h]
   simp only
   rw [← S7]
   congr 1
   funext e
   rw [reach_eq fuel]
theorem last_eq:Region.Qh md ops l ds i=Qj (sH md ops).2 l.toList ds i:=by
 unfold Region.Qh Qj
 rw [s8]
 congr 1
 funext d
 rw [gd,reach_eq]
theorem CE (h:s7 T.2 l.toList i=true) (hT:sH md ops=T):(Region.ready md ops l).contains i=true:=by
 subst hT
 rw [Fi]
 unfold Fh
 rw [List.contains_iff_mem,List.mem_filter,List.mem_range]
 refine ⟨?_,h⟩
 unfold s7 at h
 rw [Bool.and_eq_true] at h
 cases hq:(sH md ops).2[i]? with
 |none=>rw [hq] at h;simp at h
 |some r=>exact (List.getElem?_eq_some_iff.1 hq).1
theorem Og (h:(l.toList.set i true == l'.toList)=true):(l.setIfInBounds i true == l')=true:=by
 rw [beq_iff_eq] at h ⊢
 apply Array.ext'
 rw [Array.toList_setIfInBounds]
 exact h
def adC (T:Bool×List (List Nat×List Nat)) (l l':List Bool) (i:Nat):Bool:=T.1 && LL T.2 l i && s7 T.2 l i && (l.set i true == l')
theorem fY (hT:sH md ops=T) (h:adC T l.toList l'.toList i=true):XF md ops l l' i=true:=by
 simp only [adC,Bool.and_eq_true] at h
 obtain ⟨⟨⟨h1,h2⟩,h3⟩,h4⟩:=h
 have h5:=CE h3 hT
 have h6:=Og h4
 subst hT
 simp only [XF,Bool.and_eq_true]
 exact ⟨⟨⟨h1,by rw [free_eq];exact h2⟩,h5⟩,h6⟩
def Vf (T:Bool×List (List Nat×List Nat)) (ds:List Nat) (l l':List Bool) (i:Nat):Bool:=T.1 && LL T.2 l i && s7 T.2 l i && D2 T.2 l && Qj T.2 l ds i && (l.set i true == l')
theorem XG (hT:sH md ops=T) (h:Vf T ds l.toList l'.toList i=true):LK md ops ds l l' i=true:=by
 simp only [Vf,Bool.and_eq_true] at h
 obtain ⟨⟨⟨⟨⟨h1,h2⟩,h3⟩,h4⟩,h5⟩,h6⟩:=h
 have h7:=CE h3 hT
 have h8:=Og h6
 subst hT
 simp only [LK,Bool.and_eq_true]
 exact ⟨⟨⟨⟨⟨h1,by rw [free_eq];exact h2⟩,h7⟩,by rw [closed_eq];exact h4⟩,by rw [last_eq];exact h5⟩,h8⟩
theorem xd (hT:sH md ops=T) (h:(Fh T.2 l.toList == [i] && l.toList.set i true == l'.toList)=true):IX md ops l l' i=true:=by
 simp only [Bool.and_eq_true] at h
 obtain ⟨h1,h2⟩:=h
 subst hT
 simp only [IX,Bool.and_eq_true]
 exact ⟨by rw [Fi];exact h1,Og h2⟩
theorem Ag (hT:sH md ops=T) (h:(Fh T.2 l.toList == [])=true):(Region.ready md ops l == [])=true:=by
 subst hT
 rw [Fi]
 exact h
def upM (B:List Nat) (d:Nat):List Nat→Nat
 | []=>0
 |n :: r=>(2 ^ n ||| (if n < d then B.getD n 0 else 0)) ||| upM B d r
def u5 (T:List (List Nat×List Nat)) (B:List Nat):Bool:=(List.range T.length).all fun d=>match T[d]? with
 |some r=>(B.getD d 0 ||| upM B d r.1) == upM B d r.1
 |none=>false
theorem Qk {B:List Nat} {d i:Nat}:∀ {ns:List Nat},(upM B d ns).testBit i=true→∃ n∈ns,n=i∨(n < d∧(B.getD n 0).testBit i=true)
 | [],h=>by simp [upM] at h
 |n :: r,h=>by
  unfold upM at h
  rw [Nat.testBit_or,Nat.testBit_or,Bool.or_eq_true,Bool.or_eq_true] at h
  rcases h with (h|h)|h
  ·rw [Nat.testBit_two_pow] at h
   exact ⟨n,List.mem_cons_self,.inl (by simpa using h)⟩
  ·by_cases hn:n < d
   ·rw [if_pos hn] at h
    exact ⟨n,List.mem_cons_self,.inr ⟨hn,h⟩⟩
   ·rw [if_neg hn] at h
    simp at h
  ·obtain ⟨m,hm,h2⟩:=Qk h
   exact ⟨m,List.mem_cons_of_mem _ hm,h2⟩
theorem G8 {T:List (List Nat×List Nat)} {B:List Nat} (hB:u5 T B=true):∀ (fuel d:Nat),d < fuel→d < T.length→(B.getD d 0).testBit i=true→BX T i fuel d=true
 | 0,d,h,_,_ =>by omega
 |fuel + 1,d,h,hd,hb=>by
  have h1:=List.all_eq_true.1 hB d (List.mem_range.2 hd)
  cases hr:T[d]? with
  |none=>rw [hr] at h1;simp at h1
  |some r=>
   rw [hr] at h1
   simp only [beq_iff_eq] at h1
   have h2:(upM B d r.1).testBit i=true:=by rw [← h1,Nat.testBit_or,hb,Bool.true_or]
   obtain ⟨n,hn,h3⟩:=Qk h2
   unfold BX
   rw [hr]
   simp only
   rw [List.any_eq_true]
   refine ⟨n,hn,?_⟩
   rcases h3 with rfl|⟨h4,h5⟩
   ·simp
   ·rw [G8 hB fuel n lF lF h5,Bool.or_true]
def Z8 (T:List (List Nat×List Nat)) (B:List Nat) (l:List Bool) (ds:List Nat) (i:Nat):Bool:=ds.all fun d=>l.getD d true || (decide (d < T.length) && (B.getD d 0).testBit i)
def Z9 (T:Bool×List (List Nat×List Nat)) (B:List Nat) (ds:List Nat) (l l':List Bool) (i:Nat):Bool:=T.1 && LL T.2 l i && s7 T.2 l i && D2 T.2 l && Z8 T.2 B l ds i && (l.set i true == l')
theorem nG {B:List Nat} (hT:sH md ops=T) (hB:u5 T.2 B=true) (h:Z9 T B ds l.toList l'.toList i=true):LK md ops ds l l' i=true:=by
 refine XG hT ?_
 simp only [Z9,Vf,Bool.and_eq_true] at h ⊢
 obtain ⟨⟨⟨⟨⟨h1,h2⟩,h3⟩,h4⟩,h5⟩,h6⟩:=h
 refine ⟨⟨⟨⟨⟨h1,h2⟩,h3⟩,h4⟩,?_⟩,h6⟩
 unfold Z8 at h5
 unfold Qj
 rw [List.all_eq_true] at h5 ⊢
 intro d hd
 have h7:=h5 d hd
 rw [Bool.or_eq_true,Bool.and_eq_true,decide_eq_true_eq] at h7
 rcases h7 with h7|⟨h8,h9⟩
 ·rw [h7,Bool.true_or]
 ·rw [G8 hB _ d h8 h8 h9,Bool.or_true]
theorem uJ {P:Program} {Q:Exit→Act→World→Prop} {S:World→Prop} {n:Nat} {a:Act} {w:World} {B:List Nat} (hT:sH md ops=T) (hB:u5 T.2 B=true) (h:ah (sH md ops=T)→ah (u5 T.2 B=true)→gm P md ops Q S ds n l a w):gm P md ops Q S ds n l a w:=h ⟨hT⟩ ⟨hB⟩
end
def zj:Code→Nat→Option (Array Oper)
 | .region id ops _,k=>if id == k then some ops else none
 | .seq a b,k=>match zj a k with
   |some o=>some o
   |none=>zj b k
 | .cond _ a b,k=>match zj a k with
   |some o=>some o
   |none=>zj b k
 | .block _ c,k=>zj c k
 | .loop c,k=>zj c k
 | .scope c,k=>zj c k
 | .rangeFunc _ _ a b,k=>match zj a k with
   |some o=>some o
   |none=>zj b k
 |_,_ =>none
def opsOf (f:Func) (k:Nat):Array Oper:=((f.body.bind fun c=>zj c k)).getD #[]
end Go.Proofs.aj.gq
