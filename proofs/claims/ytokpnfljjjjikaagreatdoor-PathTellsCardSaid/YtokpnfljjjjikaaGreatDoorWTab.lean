import Derived.Test.YtokpnfljjjjikaaGreatDoorWLast
import Derived.Test.YtokpnfljjjjikaaGreatDoorWWords
namespace Go.Proofs.aj.fA
open Go.Proofs.aj.bO (aa)
def xW (md:Region.Mode) (o:Oper):List Nat:=(o.after.toList.filter (fun e=>Region.binds md e)).map (fun e=>e.on)
def Jn (md:Region.Mode) (ops:Array Oper) (i:Nat) (oi:Oper):List Nat:=(List.range ops.size).filter fun j=>!(j == i) && match ops[j]? with
 |some oj=>!(oj.after.any (fun e=>Region.binds md e && e.on == i) || oi.apart ops oj)
 |none=>false
def rF (md:Region.Mode) (ops:Array Oper):Bool×List (List Nat×List Nat):=(Region.noSelect ops,(List.range ops.size).map fun i=>match ops[i]? with
 |some o=>(xW md o,Jn md ops i o)
 |none=>([],[]))
def tJ (T:List (List Nat×List Nat)) (l:List Bool) (i:Nat):Bool:=!l.getD i true && match T[i]? with
 |some r=>r.1.all (fun j=>l.getD j false)
 |none=>false
def E2 (T:List (List Nat×List Nat)) (l:List Bool):List Nat:=(List.range T.length).filter (tJ T l)
def Lu (T:List (List Nat×List Nat)) (l:List Bool) (i:Nat):Bool:=match T[i]? with
 |some r=>r.2.all (fun j=>l.getD j true)
 |none=>false
def D9 (T:List (List Nat×List Nat)) (l:List Bool):Bool:=(List.range T.length).all fun j=>!l.getD j false || match T[j]? with
 |some r=>r.1.all (fun k=>l.getD k false)
 |none=>true
def Cc (T:List (List Nat×List Nat)) (i:Nat):Nat→Nat→Bool
 | 0,_ =>false
 |fuel + 1,d=>match T[d]? with
  |some r=>r.1.any fun j=>j == i || Cc T i fuel j
  |none=>false
def QU (T:List (List Nat×List Nat)) (l:List Bool) (ds:List Nat) (i:Nat):Bool:=ds.all fun d=>l.getD d true || Cc T i T.length d
section
variable {md:Region.Mode} {ops:Array Oper} {T:Bool×List (List Nat×List Nat)} {l l' li lj lk:Array Bool} {ds:List Nat} {i j k:Nat}
theorem gd (l:Array Bool) (j:Nat) (b:Bool):l.getD j b=l.toList.getD j b:=by simp [Array.getD_eq_getD_getElem?,List.getD_eq_getElem?_getD]
theorem Ho (o:Oper) (p:Nat→Bool):o.after.all (fun e=>!Region.binds md e || p e.on)=(xW md o).all p:=by
 unfold xW
 rw [← Array.all_toList]
 induction o.after.toList with
 |nil=>rfl
 |cons e r ih=>
  rw [List.all_cons,ih,List.filter_cons]
  cases h:Region.binds md e<;>simp
theorem Tu (o:Oper) (p:Nat→Bool):o.after.any (fun e=>Region.binds md e && p e.on)=(xW md o).any p:=by
 unfold xW
 rw [← Array.any_toList]
 induction o.after.toList with
 |nil=>rfl
 |cons e r ih=>
  rw [List.any_cons,ih,List.filter_cons]
  cases h:Region.binds md e<;>simp
theorem tK:(rF md ops).2.length=ops.size:=by simp [rF]
theorem xX {o:Oper} (h:ops[i]? =some o):(rF md ops).2[i]? =some (xW md o,Jn md ops i o):=by
 have hi:=(Array.getElem?_eq_some_iff.1 h).1
 unfold rF
 rw [List.getElem?_map,List.getElem?_range hi,Option.map_some,h]
theorem xY (h:ops[i]? =none):(rF md ops).2[i]? =none:=by
 have hi:ops.size≤i:=Array.getElem?_eq_none_iff.1 h
 exact List.getElem?_eq_none (by rw [tK];exact hi)
theorem NY:tJ (rF md ops).2 l.toList i=(!l.getD i true && ((ops[i]?).map (·.after.all fun e=>!Region.binds md e || l.getD e.on false)).getD false):=by
 unfold tJ
 rw [gd]
 cases h:ops[i]? with
 |none=>rw [xY h];rfl
 |some o=>
  rw [xX h]
  simp only [Option.map_some,Option.getD_some]
  rw [← Ho]
  simp only [gd]
theorem E3:Region.ready md ops l=E2 (rF md ops).2 l.toList:=by
 unfold Region.ready E2
 rw [tK]
 refine List.filter_congr (fun i _ =>?_)
 rw [NY]
theorem free_eq:Region.free md ops l i=Lu (rF md ops).2 l.toList i:=by
 unfold Region.free Lu
 cases h:ops[i]? with
 |none=>rw [xY h]
 |some oi=>
  rw [xX h]
  simp only [Jn]
  rw [List.all_filter]
  congr 1
  funext j
  rw [gd]
  cases hj:ops[j]? with
  |none=>cases (j == i)<;>cases (l.toList.getD j true)<;>simp
  |some oj=>
   cases (j == i)<;>cases (l.toList.getD j true)<;>cases (oj.after.any (fun e=>Region.binds md e && e.on == i) || oi.apart ops oj)<;>simp_all
theorem closed_eq:Region.AA md ops l=D9 (rF md ops).2 l.toList:=by
 unfold Region.AA D9
 rw [tK]
 congr 1
 funext j
 rw [gd]
 cases h:ops[j]? with
 |none=>rw [xY h]
 |some o=>
  rw [xX h]
  simp only
  rw [← Ho]
  simp only [gd]
theorem reach_eq:∀ (fuel d:Nat),Region.rD md ops i fuel d=Cc (rF md ops).2 i fuel d
 | 0,_ =>rfl
 |fuel + 1,d=>by
  unfold Region.rD Cc
  cases h:ops[d]? with
  |none=>rw [xY h]
  |some o=>
   rw [xX h]
   simp only
   rw [← Tu]
   congr 1
   funext e
   rw [reach_eq fuel]
theorem last_eq:Region.QO md ops l ds i=QU (rF md ops).2 l.toList ds i:=by
 unfold Region.QO QU
 rw [tK]
 congr 1
 funext d
 rw [gd,reach_eq]
theorem CQ (h:tJ T.2 l.toList i=true) (hT:rF md ops=T):(Region.ready md ops l).contains i=true:=by
 subst hT
 rw [E3]
 unfold E2
 rw [List.contains_iff_mem,List.mem_filter,List.mem_range]
 refine ⟨?_,h⟩
 unfold tJ at h
 rw [Bool.and_eq_true] at h
 cases hq:(rF md ops).2[i]? with
 |none=>rw [hq] at h;simp at h
 |some r=>exact (List.getElem?_eq_some_iff.1 hq).1
theorem NZ (h:(l.toList.set i true == l'.toList)=true):(l.setIfInBounds i true == l')=true:=by
 rw [beq_iff_eq] at h ⊢
 apply Array.ext'
 rw [Array.toList_setIfInBounds]
 exact h
def afx (T:Bool×List (List Nat×List Nat)) (l l':List Bool) (i:Nat):Bool:=T.1 && Lu T.2 l i && tJ T.2 l i && (l.set i true == l')
theorem cW (hT:rF md ops=T) (h:afx T l.toList l'.toList i=true):YG md ops l l' i=true:=by
 simp only [afx,Bool.and_eq_true] at h
 obtain ⟨⟨⟨h1,h2⟩,h3⟩,h4⟩:=h
 have h5:=CQ h3 hT
 have h6:=NZ h4
 subst hT
 simp only [YG,Bool.and_eq_true]
 exact ⟨⟨⟨h1,by rw [free_eq];exact h2⟩,h5⟩,h6⟩
def Vk (T:Bool×List (List Nat×List Nat)) (ds:List Nat) (l l':List Bool) (i:Nat):Bool:=T.1 && Lu T.2 l i && tJ T.2 l i && D9 T.2 l && QU T.2 l ds i && (l.set i true == l')
theorem YH (hT:rF md ops=T) (h:Vk T ds l.toList l'.toList i=true):Lt md ops ds l l' i=true:=by
 simp only [Vk,Bool.and_eq_true] at h
 obtain ⟨⟨⟨⟨⟨h1,h2⟩,h3⟩,h4⟩,h5⟩,h6⟩:=h
 have h7:=CQ h3 hT
 have h8:=NZ h6
 subst hT
 simp only [Lt,Bool.and_eq_true]
 exact ⟨⟨⟨⟨⟨h1,by rw [free_eq];exact h2⟩,h7⟩,by rw [closed_eq];exact h4⟩,by rw [last_eq];exact h5⟩,h8⟩
theorem nA (hT:rF md ops=T) (h:(E2 T.2 l.toList == [i] && l.toList.set i true == l'.toList)=true):Cb md ops l l' i=true:=by
 simp only [Bool.and_eq_true] at h
 obtain ⟨h1,h2⟩:=h
 subst hT
 simp only [Cb,Bool.and_eq_true]
 exact ⟨by rw [E3];exact h1,NZ h2⟩
theorem qC (hT:rF md ops=T) (h:(E2 T.2 l.toList == [])=true):(Region.ready md ops l == [])=true:=by
 subst hT
 rw [E3]
 exact h
def upM (B:List Nat) (d:Nat):List Nat→Nat
 | []=>0
 |n :: r=>(2 ^ n ||| (if n < d then B.getD n 0 else 0)) ||| upM B d r
def rS (T:List (List Nat×List Nat)) (B:List Nat):Bool:=(List.range T.length).all fun d=>match T[d]? with
 |some r=>(B.getD d 0 ||| upM B d r.1) == upM B d r.1
 |none=>false
theorem QV {B:List Nat} {d i:Nat}:∀ {ns:List Nat},(upM B d ns).testBit i=true→∃ n∈ns,n=i∨(n < d∧(B.getD n 0).testBit i=true)
 | [],h=>by simp [upM] at h
 |n :: r,h=>by
  unfold upM at h
  rw [Nat.testBit_or,Nat.testBit_or,Bool.or_eq_true,Bool.or_eq_true] at h
  rcases h with (h|h)|h
  ·rw [Nat.testBit_two_pow] at h
   exact ⟨n,List.mem_cons_self,.inl (by simpa using h)⟩
  ·by_cases hn:n < d
   ·rw [if_pos hn] at h
    exact ⟨n,List.mem_cons_self,.inr ⟨hn,h⟩⟩
   ·rw [if_neg hn] at h
    simp at h
  ·obtain ⟨m,hm,h2⟩:=QV h
   exact ⟨m,List.mem_cons_of_mem _ hm,h2⟩
theorem Hp {T:List (List Nat×List Nat)} {B:List Nat} (hB:rS T B=true):∀ (fuel d:Nat),d < fuel→d < T.length→(B.getD d 0).testBit i=true→Cc T i fuel d=true
 | 0,d,h,_,_ =>by omega
 |fuel + 1,d,h,hd,hb=>by
  have h1:=List.all_eq_true.1 hB d (List.mem_range.2 hd)
  cases hr:T[d]? with
  |none=>rw [hr] at h1;simp at h1
  |some r=>
   rw [hr] at h1
   simp only [beq_iff_eq] at h1
   have h2:(upM B d r.1).testBit i=true:=by rw [← h1,Nat.testBit_or,hb,Bool.true_or]
   obtain ⟨n,hn,h3⟩:=QV h2
   unfold Cc
   rw [hr]
   simp only
   rw [List.any_eq_true]
   refine ⟨n,hn,?_⟩
   rcases h3 with rfl|⟨h4,h5⟩
   ·simp
   ·rw [Hp hB fuel n mj mj h5,Bool.or_true]
def abB (T:List (List Nat×List Nat)) (B:List Nat) (l:List Bool) (ds:List Nat) (i:Nat):Bool:=ds.all fun d=>l.getD d true || (decide (d < T.length) && (B.getD d 0).testBit i)
def abC (T:Bool×List (List Nat×List Nat)) (B:List Nat) (ds:List Nat) (l l':List Bool) (i:Nat):Bool:=T.1 && Lu T.2 l i && tJ T.2 l i && D9 T.2 l && abB T.2 B l ds i && (l.set i true == l')
theorem iO {B:List Nat} (hT:rF md ops=T) (hB:rS T.2 B=true) (h:abC T B ds l.toList l'.toList i=true):Lt md ops ds l l' i=true:=by
 refine YH hT ?_
 simp only [abC,Vk,Bool.and_eq_true] at h ⊢
 obtain ⟨⟨⟨⟨⟨h1,h2⟩,h3⟩,h4⟩,h5⟩,h6⟩:=h
 refine ⟨⟨⟨⟨⟨h1,h2⟩,h3⟩,h4⟩,?_⟩,h6⟩
 unfold abB at h5
 unfold QU
 rw [List.all_eq_true] at h5 ⊢
 intro d hd
 have h7:=h5 d hd
 rw [Bool.or_eq_true,Bool.and_eq_true,decide_eq_true_eq] at h7
 rcases h7 with h7|⟨h8,h9⟩
 ·rw [h7,Bool.true_or]
 ·rw [Hp hB _ d h8 h8 h9,Bool.or_true]
theorem nj {P:Program} {Q:Exit→Act→World→Prop} {S:World→Prop} {n:Nat} {a:Act} {w:World} {B:List Nat} (hT:rF md ops=T) (hB:rS T.2 B=true) (h:aa (rF md ops=T)→aa (rS T.2 B=true)→fH P md ops Q S ds n l a w):fH P md ops Q S ds n l a w:=h ⟨hT⟩ ⟨hB⟩
end
def zb:Code→Nat→Option (Array Oper)
 | .region id ops _,k=>if id == k then some ops else none
 | .seq a b,k=>match zb a k with
   |some o=>some o
   |none=>zb b k
 | .cond _ a b,k=>match zb a k with
   |some o=>some o
   |none=>zb b k
 | .block _ c,k=>zb c k
 | .loop c,k=>zb c k
 | .scope c,k=>zb c k
 | .rangeFunc _ _ a b,k=>match zb a k with
   |some o=>some o
   |none=>zb b k
 |_,_ =>none
def opsOf (f:Func) (k:Nat):Array Oper:=((f.body.bind fun c=>zb c k)).getD #[]
end Go.Proofs.aj.fA
