import Derived.Test.YtbjjaaodfbjkfaaGreatDoorWLast
import Derived.Test.YtbjjaaodfbjkfaaGreatDoorWWords
namespace Go.Proofs.ak.dU
open Go.Proofs.ak.bY (ah)
def xW (md:Region.Mode) (o:Oper):List Nat:=(o.after.toList.filter (fun e=>Region.binds md e)).map (fun e=>e.on)
def Ix (md:Region.Mode) (ops:Array Oper) (i:Nat) (oi:Oper):List Nat:=(List.range ops.size).filter fun j=>!(j == i) && match ops[j]? with
 |some oj=>!(oj.after.any (fun e=>Region.binds md e && e.on == i) || oi.apart ops oj)
 |none=>false
def qT (md:Region.Mode) (ops:Array Oper):Bool×List (List Nat×List Nat):=(Region.noSelect ops,(List.range ops.size).map fun i=>match ops[i]? with
 |some o=>(xW md o,Ix md ops i o)
 |none=>([],[]))
def td (T:List (List Nat×List Nat)) (l:List Bool) (i:Nat):Bool:=!l.getD i true && match T[i]? with
 |some r=>r.1.all (fun j=>l.getD j false)
 |none=>false
def EM (T:List (List Nat×List Nat)) (l:List Bool):List Nat:=(List.range T.length).filter (td T l)
def LO (T:List (List Nat×List Nat)) (l:List Bool) (i:Nat):Bool:=match T[i]? with
 |some r=>r.2.all (fun j=>l.getD j true)
 |none=>false
def Di (T:List (List Nat×List Nat)) (l:List Bool):Bool:=(List.range T.length).all fun j=>!l.getD j false || match T[j]? with
 |some r=>r.1.all (fun k=>l.getD k false)
 |none=>true
def Bv (T:List (List Nat×List Nat)) (i:Nat):Nat→Nat→Bool
 | 0,_ =>false
 |fuel + 1,d=>match T[d]? with
  |some r=>r.1.any fun j=>j == i || Bv T i fuel j
  |none=>false
def Qc (T:List (List Nat×List Nat)) (l:List Bool) (ds:List Nat) (i:Nat):Bool:=ds.all fun d=>l.getD d true || Bv T i T.length d
section
variable {md:Region.Mode} {ops:Array Oper} {T:Bool×List (List Nat×List Nat)} {l l' li lj lk:Array Bool} {ds:List Nat} {i j k:Nat}
theorem gd (l:Array Bool) (j:Nat) (b:Bool):l.getD j b=l.toList.getD j b:=by simp [Array.getD_eq_getD_getElem?,List.getD_eq_getElem?_getD]
theorem GG (o:Oper) (p:Nat→Bool):o.after.all (fun e=>!Region.binds md e || p e.on)=(xW md o).all p:=by
 unfold xW
 rw [← Array.all_toList]
 induction o.after.toList with
 |nil=>rfl
 |cons e r ih=>
  rw [List.all_cons,ih,List.filter_cons]
  cases h:Region.binds md e<;>simp
theorem UJ (o:Oper) (p:Nat→Bool):o.after.any (fun e=>Region.binds md e && p e.on)=(xW md o).any p:=by
 unfold xW
 rw [← Array.any_toList]
 induction o.after.toList with
 |nil=>rfl
 |cons e r ih=>
  rw [List.any_cons,ih,List.filter_cons]
  cases h:Region.binds md e<;>simp
theorem tj:(qT md ops).2.length=ops.size:=by simp [qT]
theorem xX {o:Oper} (h:ops[i]? =some o):(qT md ops).2[i]? =some (xW md o,Ix md ops i o):=by
 have hi:=(Array.getElem?_eq_some_iff.1 h).1
 unfold qT
 rw [List.getElem?_map,List.getElem?_range hi,Option.map_some,h]
theorem xY (h:ops[i]? =none):(qT md ops).2[i]? =none:=by
 have hi:ops.size≤i:=Array.getElem?_eq_none_iff.1 h
 exact List.getElem?_eq_none (by rw [tj];exact hi)
theorem NQ:td (qT md ops).2 l.toList i=(!l.getD i true && ((ops[i]?).map (·.after.all fun e=>!Region.binds md e || l.getD e.on false)).getD false):=by
 unfold td
 rw [gd]
 cases h:ops[i]? with
 |none=>rw [xY h];rfl
 |some o=>
  rw [xX h]
  simp only [Option.map_some,Option.getD_some]
  rw [← GG]
  simp only [gd]
theorem EN:Region.ready md ops l=EM (qT md ops).2 l.toList:=by
 unfold Region.ready EM
 rw [tj]
 refine List.filter_congr (fun i _ =>?_)
 rw [NQ]
theorem free_eq:Region.free md ops l i=LO (qT md ops).2 l.toList i:=by
 unfold Region.free LO
 cases h:ops[i]? with
 |none=>rw [xY h]
 |some oi=>
  rw [xX h]
  simp only [Ix]
  rw [List.all_filter]
  congr 1
  funext j
  rw [gd]
  cases hj:ops[j]? with
  |none=>cases (j == i)<;>cases (l.toList.getD j true)<;>simp
  |some oj=>
   cases (j == i)<;>cases (l.toList.getD j true)<;>cases (oj.after.any (fun e=>Region.binds md e && e.on == i) || oi.apart ops oj)<;>simp_all
theorem closed_eq:Region.zS md ops l=Di (qT md ops).2 l.toList:=by
 unfold Region.zS Di
 rw [tj]
 congr 1
 funext j
 rw [gd]
 cases h:ops[j]? with
 |none=>rw [xY h]
 |some o=>
  rw [xX h]
  simp only
  rw [← GG]
  simp only [gd]
theorem reach_eq:∀ (fuel d:Nat),Region.rA md ops i fuel d=Bv (qT md ops).2 i fuel d
 | 0,_ =>rfl
 |fuel + 1,d=>by
  unfold Region.rA Bv
  cases h:ops[d]? with
  |none=>rw [xY h]
  |some o=>
   rw [xX h]
   simp only
   rw [← UJ]
   congr 1
   funext e
   rw [reach_eq fuel]
theorem last_eq:Region.Qa md ops l ds i=Qc (qT md ops).2 l.toList ds i:=by
 unfold Region.Qa Qc
 rw [tj]
 congr 1
 funext d
 rw [gd,reach_eq]
theorem Cv (h:td T.2 l.toList i=true) (hT:qT md ops=T):(Region.ready md ops l).contains i=true:=by
 subst hT
 rw [EN]
 unfold EM
 rw [List.contains_iff_mem,List.mem_filter,List.mem_range]
 refine ⟨?_,h⟩
 unfold td at h
 rw [Bool.and_eq_true] at h
 cases hq:(qT md ops).2[i]? with
 |none=>rw [hq] at h;simp at h
 |some r=>exact (List.getElem?_eq_some_iff.1 hq).1
theorem NR (h:(l.toList.set i true == l'.toList)=true):(l.setIfInBounds i true == l')=true:=by
 rw [beq_iff_eq] at h ⊢
 apply Array.ext'
 rw [Array.toList_setIfInBounds]
 exact h
def aiQ (T:Bool×List (List Nat×List Nat)) (l l':List Bool) (i:Nat):Bool:=T.1 && LO T.2 l i && td T.2 l i && (l.set i true == l')
theorem br (hT:qT md ops=T) (h:aiQ T l.toList l'.toList i=true):Zh md ops l l' i=true:=by
 simp only [aiQ,Bool.and_eq_true] at h
 obtain ⟨⟨⟨h1,h2⟩,h3⟩,h4⟩:=h
 have h5:=Cv h3 hT
 have h6:=NR h4
 subst hT
 simp only [Zh,Bool.and_eq_true]
 exact ⟨⟨⟨h1,by rw [free_eq];exact h2⟩,h5⟩,h6⟩
def WK (T:Bool×List (List Nat×List Nat)) (ds:List Nat) (l l':List Bool) (i:Nat):Bool:=T.1 && LO T.2 l i && td T.2 l i && Di T.2 l && Qc T.2 l ds i && (l.set i true == l')
theorem Zi (hT:qT md ops=T) (h:WK T ds l.toList l'.toList i=true):LL md ops ds l l' i=true:=by
 simp only [WK,Bool.and_eq_true] at h
 obtain ⟨⟨⟨⟨⟨h1,h2⟩,h3⟩,h4⟩,h5⟩,h6⟩:=h
 have h7:=Cv h3 hT
 have h8:=NR h6
 subst hT
 simp only [LL,Bool.and_eq_true]
 exact ⟨⟨⟨⟨⟨h1,by rw [free_eq];exact h2⟩,h7⟩,by rw [closed_eq];exact h4⟩,by rw [last_eq];exact h5⟩,h8⟩
theorem kF (hT:qT md ops=T) (h:(EM T.2 l.toList == [i] && l.toList.set i true == l'.toList)=true):Bu md ops l l' i=true:=by
 simp only [Bool.and_eq_true] at h
 obtain ⟨h1,h2⟩:=h
 subst hT
 simp only [Bu,Bool.and_eq_true]
 exact ⟨by rw [EN];exact h1,NR h2⟩
theorem o7 (hT:qT md ops=T) (h:(EM T.2 l.toList == [])=true):(Region.ready md ops l == [])=true:=by
 subst hT
 rw [EN]
 exact h
def upM (B:List Nat) (d:Nat):List Nat→Nat
 | []=>0
 |n :: r=>(2 ^ n ||| (if n < d then B.getD n 0 else 0)) ||| upM B d r
def qM (T:List (List Nat×List Nat)) (B:List Nat):Bool:=(List.range T.length).all fun d=>match T[d]? with
 |some r=>(B.getD d 0 ||| upM B d r.1) == upM B d r.1
 |none=>false
theorem Qd {B:List Nat} {d i:Nat}:∀ {ns:List Nat},(upM B d ns).testBit i=true→∃ n∈ns,n=i∨(n < d∧(B.getD n 0).testBit i=true)
 | [],h=>by simp [upM] at h
 |n :: r,h=>by
  unfold upM at h
  rw [Nat.testBit_or,Nat.testBit_or,Bool.or_eq_true,Bool.or_eq_true] at h
  rcases h with (h|h)|h
  ·rw [Nat.testBit_two_pow] at h
   exact ⟨n,List.mem_cons_self,.inl (by simpa using h)⟩
  ·by_cases hn:n < d
   ·rw [if_pos hn] at h
    exact ⟨n,List.mem_cons_self,.inr ⟨hn,h⟩⟩
   ·rw [if_neg hn] at h
    simp at h
  ·obtain ⟨m,hm,h2⟩:=Qd h
   exact ⟨m,List.mem_cons_of_mem _ hm,h2⟩
theorem GH {T:List (List Nat×List Nat)} {B:List Nat} (hB:qM T B=true):∀ (fuel d:Nat),d < fuel→d < T.length→(B.getD d 0).testBit i=true→Bv T i fuel d=true
 | 0,d,h,_,_ =>by omega
 |fuel + 1,d,h,hd,hb=>by
  have h1:=List.all_eq_true.1 hB d (List.mem_range.2 hd)
  cases hr:T[d]? with
  |none=>rw [hr] at h1;simp at h1
  |some r=>
   rw [hr] at h1
   simp only [beq_iff_eq] at h1
   have h2:(upM B d r.1).testBit i=true:=by rw [← h1,Nat.testBit_or,hb,Bool.true_or]
   obtain ⟨n,hn,h3⟩:=Qd h2
   unfold Bv
   rw [hr]
   simp only
   rw [List.any_eq_true]
   refine ⟨n,hn,?_⟩
   rcases h3 with rfl|⟨h4,h5⟩
   ·simp
   ·rw [GH hB fuel n fV fV h5,Bool.or_true]
def aeC (T:List (List Nat×List Nat)) (B:List Nat) (l:List Bool) (ds:List Nat) (i:Nat):Bool:=ds.all fun d=>l.getD d true || (decide (d < T.length) && (B.getD d 0).testBit i)
def aeD (T:Bool×List (List Nat×List Nat)) (B:List Nat) (ds:List Nat) (l l':List Bool) (i:Nat):Bool:=T.1 && LO T.2 l i && td T.2 l i && Di T.2 l && aeC T.2 B l ds i && (l.set i true == l')
theorem fK {B:List Nat} (hT:qT md ops=T) (hB:qM T.2 B=true) (h:aeD T B ds l.toList l'.toList i=true):LL md ops ds l l' i=true:=by
 refine Zi hT ?_
 simp only [aeD,WK,Bool.and_eq_true] at h ⊢
 obtain ⟨⟨⟨⟨⟨h1,h2⟩,h3⟩,h4⟩,h5⟩,h6⟩:=h
 refine ⟨⟨⟨⟨⟨h1,h2⟩,h3⟩,h4⟩,?_⟩,h6⟩
 unfold aeC at h5
 unfold Qc
 rw [List.all_eq_true] at h5 ⊢
 intro d hd
 have h7:=h5 d hd
 rw [Bool.or_eq_true,Bool.and_eq_true,decide_eq_true_eq] at h7
 rcases h7 with h7|⟨h8,h9⟩
 ·rw [h7,Bool.true_or]
 ·rw [GH hB _ d h8 h8 h9,Bool.or_true]
theorem lG {P:Program} {Q:Exit→Act→World→Prop} {S:World→Prop} {n:Nat} {a:Act} {w:World} {B:List Nat} (hT:qT md ops=T) (hB:qM T.2 B=true) (h:ah (qT md ops=T)→ah (qM T.2 B=true)→fJ P md ops Q S ds n l a w):fJ P md ops Q S ds n l a w:=h ⟨hT⟩ ⟨hB⟩
end
def yH:Code→Nat→Option (Array Oper)
 | .region id ops _,k=>if id == k then some ops else none
 | .seq a b,k=>match yH a k with
   |some o=>some o
   |none=>yH b k
 | .cond _ a b,k=>match yH a k with
   |some o=>some o
   |none=>yH b k
 | .block _ c,k=>yH c k
 | .loop c,k=>yH c k
 | .scope c,k=>yH c k
 | .rangeFunc _ _ a b,k=>match yH a k with
   |some o=>some o
   |none=>yH b k
 |_,_ =>none
def opsOf (f:Func) (k:Nat):Array Oper:=((f.body.bind fun c=>yH c k)).getD #[]
end Go.Proofs.ak.dU
