import Derived.Test.YtokpnfljjjjikaaGreatDoorWLast
import Derived.Test.YtokpnfljjjjikaaGreatDoorWWords
namespace Go.Proofs.aj.eU
open Go.Proofs.aj.bw (af)
def pX (md:Region.Mode) (o:Oper):List Nat:=(o.after.toList.filter (fun e=>Region.binds md e)).map (fun e=>e.on)
def zo (md:Region.Mode) (ops:Array Oper) (i:Nat) (oi:Oper):List Nat:=(List.range ops.size).filter fun j=>!(j == i) && match ops[j]? with
 |some oj=>!(oj.after.any (fun e=>Region.binds md e && e.on == i) || oi.apart ops oj)
 |none=>false
def l9 (md:Region.Mode) (ops:Array Oper):Bool×List (List Nat×List Nat):=(Region.noSelect ops,(List.range ops.size).map fun i=>match ops[i]? with
 |some o=>(pX md o,zo md ops i o)
 |none=>([],[]))
def nu (T:List (List Nat×List Nat)) (l:List Bool) (i:Nat):Bool:=!l.getD i true && match T[i]? with
 |some r=>r.1.all (fun j=>l.getD j false)
 |none=>false
def vp (T:List (List Nat×List Nat)) (l:List Bool):List Nat:=(List.range T.length).filter (nu T l)
def Ar (T:List (List Nat×List Nat)) (l:List Bool) (i:Nat):Bool:=match T[i]? with
 |some r=>r.2.all (fun j=>l.getD j true)
 |none=>false
def uB (T:List (List Nat×List Nat)) (l:List Bool):Bool:=(List.range T.length).all fun j=>!l.getD j false || match T[j]? with
 |some r=>r.1.all (fun k=>l.getD k false)
 |none=>true
def sK (T:List (List Nat×List Nat)) (i:Nat):Nat→Nat→Bool
 | 0,_ =>false
 |fuel + 1,d=>match T[d]? with
  |some r=>r.1.any fun j=>j == i || sK T i fuel j
  |none=>false
def Ew (T:List (List Nat×List Nat)) (l:List Bool) (ds:List Nat) (i:Nat):Bool:=ds.all fun d=>l.getD d true || sK T i T.length d
section
variable {md:Region.Mode} {ops:Array Oper} {T:Bool×List (List Nat×List Nat)} {l l' li lj lk:Array Bool} {ds:List Nat} {i j k:Nat}
theorem gd (l:Array Bool) (j:Nat) (b:Bool):l.getD j b=l.toList.getD j b:=by simp [Array.getD_eq_getD_getElem?,List.getD_eq_getElem?_getD]
theorem xI (o:Oper) (p:Nat→Bool):o.after.all (fun e=>!Region.binds md e || p e.on)=(pX md o).all p:=by
 unfold pX
 rw [← Array.all_toList]
 induction o.after.toList with
 |nil=>rfl
 |cons e r ih=>
  rw [List.all_cons,ih,List.filter_cons]
  cases h:Region.binds md e<;>simp
theorem Gs (o:Oper) (p:Nat→Bool):o.after.any (fun e=>Region.binds md e && p e.on)=(pX md o).any p:=by
 unfold pX
 rw [← Array.any_toList]
 induction o.after.toList with
 |nil=>rfl
 |cons e r ih=>
  rw [List.any_cons,ih,List.filter_cons]
  cases h:Region.binds md e<;>simp
theorem nv:(l9 md ops).2.length=ops.size:=by simp [l9]
theorem pY {o:Oper} (h:ops[i]? =some o):(l9 md ops).2[i]? =some (pX md o,zo md ops i o):=by
 have hi:=(Array.getElem?_eq_some_iff.1 h).1
 unfold l9
 rw [List.getElem?_map,List.getElem?_range hi,Option.map_some,h]
theorem pZ (h:ops[i]? =none):(l9 md ops).2[i]? =none:=by
 have hi:ops.size≤i:=Array.getElem?_eq_none_iff.1 h
 exact List.getElem?_eq_none (by rw [nv];exact hi)
theorem CP:nu (l9 md ops).2 l.toList i=(!l.getD i true && ((ops[i]?).map (·.after.all fun e=>!Region.binds md e || l.getD e.on false)).getD false):=by
 unfold nu
 rw [gd]
 cases h:ops[i]? with
 |none=>rw [pZ h];rfl
 |some o=>
  rw [pY h]
  simp only [Option.map_some,Option.getD_some]
  rw [← xI]
  simp only [gd]
theorem vq:Region.ready md ops l=vp (l9 md ops).2 l.toList:=by
 unfold Region.ready vp
 rw [nv]
 refine List.filter_congr (fun i _ =>?_)
 rw [CP]
theorem free_eq:Region.free md ops l i=Ar (l9 md ops).2 l.toList i:=by
 unfold Region.free Ar
 cases h:ops[i]? with
 |none=>rw [pZ h]
 |some oi=>
  rw [pY h]
  simp only [zo]
  rw [List.all_filter]
  congr 1
  funext j
  rw [gd]
  cases hj:ops[j]? with
  |none=>cases (j == i)<;>cases (l.toList.getD j true)<;>simp
  |some oj=>
   cases (j == i)<;>cases (l.toList.getD j true)<;>cases (oj.after.any (fun e=>Region.binds md e && e.on == i) || oi.apart ops oj)<;>simp_all
theorem closed_eq:Region.rB md ops l=uB (l9 md ops).2 l.toList:=by
 unfold Region.rB uB
 rw [nv]
 congr 1
 funext j
 rw [gd]
 cases h:ops[j]? with
 |none=>rw [pZ h]
 |some o=>
  rw [pY h]
  simp only
  rw [← xI]
  simp only [gd]
theorem reach_eq:∀ (fuel d:Nat),Region.lU md ops i fuel d=sK (l9 md ops).2 i fuel d
 | 0,_ =>rfl
 |fuel + 1,d=>by
  unfold Region.lU sK
  cases h:ops[d]? with
  |none=>rw [pZ h]
  |some o=>
   rw [pY h]
   simp only
   rw [← Gs]
   congr 1
   funext e
   rw [reach_eq fuel]
theorem last_eq:Region.Et md ops l ds i=Ew (l9 md ops).2 l.toList ds i:=by
 unfold Region.Et Ew
 rw [nv]
 congr 1
 funext d
 rw [gd,reach_eq]
theorem tB (h:nu T.2 l.toList i=true) (hT:l9 md ops=T):(Region.ready md ops l).contains i=true:=by
 subst hT
 rw [vq]
 unfold vp
 rw [List.contains_iff_mem,List.mem_filter,List.mem_range]
 refine ⟨?_,h⟩
 unfold nu at h
 rw [Bool.and_eq_true] at h
 cases hq:(l9 md ops).2[i]? with
 |none=>rw [hq] at h;simp at h
 |some r=>exact (List.getElem?_eq_some_iff.1 hq).1
theorem CQ (h:(l.toList.set i true == l'.toList)=true):(l.setIfInBounds i true == l')=true:=by
 rw [beq_iff_eq] at h ⊢
 apply Array.ext'
 rw [Array.toList_setIfInBounds]
 exact h
def P7 (T:Bool×List (List Nat×List Nat)) (l l':List Bool) (i:Nat):Bool:=T.1 && Ar T.2 l i && nu T.2 l i && (l.set i true == l')
theorem cR (hT:l9 md ops=T) (h:P7 T l.toList l'.toList i=true):KP md ops l l' i=true:=by
 simp only [P7,Bool.and_eq_true] at h
 obtain ⟨⟨⟨h1,h2⟩,h3⟩,h4⟩:=h
 have h5:=tB h3 hT
 have h6:=CQ h4
 subst hT
 simp only [KP,Bool.and_eq_true]
 exact ⟨⟨⟨h1,by rw [free_eq];exact h2⟩,h5⟩,h6⟩
def IB (T:Bool×List (List Nat×List Nat)) (ds:List Nat) (l l':List Bool) (i:Nat):Bool:=T.1 && Ar T.2 l i && nu T.2 l i && uB T.2 l && Ew T.2 l ds i && (l.set i true == l')
theorem KQ (hT:l9 md ops=T) (h:IB T ds l.toList l'.toList i=true):Aq md ops ds l l' i=true:=by
 simp only [IB,Bool.and_eq_true] at h
 obtain ⟨⟨⟨⟨⟨h1,h2⟩,h3⟩,h4⟩,h5⟩,h6⟩:=h
 have h7:=tB h3 hT
 have h8:=CQ h6
 subst hT
 simp only [Aq,Bool.and_eq_true]
 exact ⟨⟨⟨⟨⟨h1,by rw [free_eq];exact h2⟩,h7⟩,by rw [closed_eq];exact h4⟩,by rw [last_eq];exact h5⟩,h8⟩
theorem mW (hT:l9 md ops=T) (h:(vp T.2 l.toList == [i] && l.toList.set i true == l'.toList)=true):zn md ops l l' i=true:=by
 simp only [Bool.and_eq_true] at h
 obtain ⟨h1,h2⟩:=h
 subst hT
 simp only [zn,Bool.and_eq_true]
 exact ⟨by rw [vq];exact h1,CQ h2⟩
theorem p8 (hT:l9 md ops=T) (h:(vp T.2 l.toList == [])=true):(Region.ready md ops l == [])=true:=by
 subst hT
 rw [vq]
 exact h
def Ox (B:List Nat) (d:Nat):List Nat→Nat
 | []=>0
 |n :: r=>(2 ^ n ||| (if n < d then B.getD n 0 else 0)) ||| Ox B d r
def nA (T:List (List Nat×List Nat)) (B:List Nat):Bool:=(List.range T.length).all fun d=>match T[d]? with
 |some r=>(B.getD d 0 ||| Ox B d r.1) == Ox B d r.1
 |none=>false
theorem Ex {B:List Nat} {d i:Nat}:∀ {ns:List Nat},(Ox B d ns).testBit i=true→∃ n∈ns,n=i∨(n < d∧(B.getD n 0).testBit i=true)
 | [],h=>by simp [Ox] at h
 |n :: r,h=>by
  unfold Ox at h
  rw [Nat.testBit_or,Nat.testBit_or,Bool.or_eq_true,Bool.or_eq_true] at h
  rcases h with (h|h)|h
  ·rw [Nat.testBit_two_pow] at h
   exact ⟨n,List.mem_cons_self,.inl (by simpa using h)⟩
  ·by_cases hn:n < d
   ·rw [if_pos hn] at h
    exact ⟨n,List.mem_cons_self,.inr ⟨hn,h⟩⟩
   ·rw [if_neg hn] at h
    simp at h
  ·obtain ⟨m,hm,h2⟩:=Ex h
   exact ⟨m,List.mem_cons_of_mem _ hm,h2⟩
theorem xJ {T:List (List Nat×List Nat)} {B:List Nat} (hB:nA T B=true):∀ (fuel d:Nat),d < fuel→d < T.length→(B.getD d 0).testBit i=true→sK T i fuel d=true
 | 0,d,h,_,_ =>by omega
 |fuel + 1,d,h,hd,hb=>by
  have h1:=List.all_eq_true.1 hB d (List.mem_range.2 hd)
  cases hr:T[d]? with
  |none=>rw [hr] at h1;simp at h1
  |some r=>
   rw [hr] at h1
   simp only [beq_iff_eq] at h1
   have h2:(Ox B d r.1).testBit i=true:=by rw [← h1,Nat.testBit_or,hb,Bool.true_or]
   obtain ⟨n,hn,h3⟩:=Ex h2
   unfold sK
   rw [hr]
   simp only
   rw [List.any_eq_true]
   refine ⟨n,hn,?_⟩
   rcases h3 with rfl|⟨h4,h5⟩
   ·simp
   ·rw [xJ hB fuel n iI iI h5,Bool.or_true]
def Nk (T:List (List Nat×List Nat)) (B:List Nat) (l:List Bool) (ds:List Nat) (i:Nat):Bool:=ds.all fun d=>l.getD d true || (decide (d < T.length) && (B.getD d 0).testBit i)
def Nl (T:Bool×List (List Nat×List Nat)) (B:List Nat) (ds:List Nat) (l l':List Bool) (i:Nat):Bool:=T.1 && Ar T.2 l i && nu T.2 l i && uB T.2 l && Nk T.2 B l ds i && (l.set i true == l')
theorem ji {B:List Nat} (hT:l9 md ops=T) (hB:nA T.2 B=true) (h:Nl T B ds l.toList l'.toList i=true):Aq md ops ds l l' i=true:=by
 refine KQ hT ?_
 simp only [Nl,IB,Bool.and_eq_true] at h ⊢
 obtain ⟨⟨⟨⟨⟨h1,h2⟩,h3⟩,h4⟩,h5⟩,h6⟩:=h
 refine ⟨⟨⟨⟨⟨h1,h2⟩,h3⟩,h4⟩,?_⟩,h6⟩
 unfold Nk at h5
 unfold Ew
 rw [List.all_eq_true] at h5 ⊢
 intro d hd
 have h7:=h5 d hd
 rw [Bool.or_eq_true,Bool.and_eq_true,decide_eq_true_eq] at h7
 rcases h7 with h7|⟨h8,h9⟩
 ·rw [h7,Bool.true_or]
 ·rw [xJ hB _ d h8 h8 h9,Bool.or_true]
theorem mD {P:Program} {Q:Exit→Act→World→Prop} {S:World→Prop} {n:Nat} {a:Act} {w:World} {B:List Nat} (hT:l9 md ops=T) (hB:nA T.2 B=true) (h:af (l9 md ops=T)→af (nA T.2 B=true)→dN P md ops Q S ds n l a w):dN P md ops Q S ds n l a w:=h ⟨hT⟩ ⟨hB⟩
end
def qx:Code→Nat→Option (Array Oper)
 | .region id ops _,k=>if id == k then some ops else none
 | .seq a b,k=>match qx a k with
   |some o=>some o
   |none=>qx b k
 | .cond _ a b,k=>match qx a k with
   |some o=>some o
   |none=>qx b k
 | .block _ c,k=>qx c k
 | .loop c,k=>qx c k
 | .scope c,k=>qx c k
 | .rangeFunc _ _ a b,k=>match qx a k with
   |some o=>some o
   |none=>qx b k
 |_,_ =>none
def opsOf (f:Func) (k:Nat):Array Oper:=((f.body.bind fun c=>qx c k)).getD #[]
end Go.Proofs.aj.eU
