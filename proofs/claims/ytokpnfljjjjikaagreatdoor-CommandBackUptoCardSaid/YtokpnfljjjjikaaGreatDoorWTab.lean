import Derived.Test.YtokpnfljjjjikaaGreatDoorZw
import Derived.Test.YtokpnfljjjjikaaGreatDoorWLast
import Derived.Test.YtokpnfljjjjikaaGreatDoorWWords
namespace Go.Proofs.aj.fW
open Go.Proofs.aj.bW (ah)
def xL (md:Region.Mode) (o:Oper):List Nat:=(o.after.toList.filter (fun e=>Region.binds md e)).map (fun e=>e.on)
def II (md:Region.Mode) (ops:Array Oper) (i:Nat) (oi:Oper):List Nat:=(List.range ops.size).filter fun j=>!(j == i) && match ops[j]? with
 |some oj=>!(oj.after.any (fun e=>Region.binds md e && e.on == i) || oi.apart ops oj)
 |none=>false
def sx (md:Region.Mode) (ops:Array Oper):Bool×List (List Nat×List Nat):=(Region.noSelect ops,(List.range ops.size).map fun i=>match ops[i]? with
 |some o=>(xL md o,II md ops i o)
 |none=>([],[]))
def sS (T:List (List Nat×List Nat)) (l:List Bool) (i:Nat):Bool:=!l.getD i true && match T[i]? with
 |some r=>r.1.all (fun j=>l.getD j false)
 |none=>false
def EX (T:List (List Nat×List Nat)) (l:List Bool):List Nat:=(List.range T.length).filter (sS T l)
def Lt (T:List (List Nat×List Nat)) (l:List Bool) (i:Nat):Bool:=match T[i]? with
 |some r=>r.2.all (fun j=>l.getD j true)
 |none=>false
def DC (T:List (List Nat×List Nat)) (l:List Bool):Bool:=(List.range T.length).all fun j=>!l.getD j false || match T[j]? with
 |some r=>r.1.all (fun k=>l.getD k false)
 |none=>true
def BL (T:List (List Nat×List Nat)) (i:Nat):Nat→Nat→Bool
 | 0,_ =>false
 |fuel + 1,d=>match T[d]? with
  |some r=>r.1.any fun j=>j == i || BL T i fuel j
  |none=>false
def P7 (T:List (List Nat×List Nat)) (l:List Bool) (ds:List Nat) (i:Nat):Bool:=ds.all fun d=>l.getD d true || BL T i T.length d
section
variable {md:Region.Mode} {ops:Array Oper} {T:Bool×List (List Nat×List Nat)} {l l' li lj lk:Array Bool} {ds:List Nat} {i j k:Nat}
theorem gd (l:Array Bool) (j:Nat) (b:Bool):l.getD j b=l.toList.getD j b:=by simp [Array.getD_eq_getD_getElem?,List.getD_eq_getElem?_getD]
theorem GP (o:Oper) (p:Nat→Bool):o.after.all (fun e=>!Region.binds md e || p e.on)=(xL md o).all p:=by
 unfold xL
 rw [← Array.all_toList]
 induction o.after.toList with
 |nil=>rfl
 |cons e r ih=>
  rw [List.all_cons,ih,List.filter_cons]
  cases h:Region.binds md e<;>simp
theorem SN (o:Oper) (p:Nat→Bool):o.after.any (fun e=>Region.binds md e && p e.on)=(xL md o).any p:=by
 unfold xL
 rw [← Array.any_toList]
 induction o.after.toList with
 |nil=>rfl
 |cons e r ih=>
  rw [List.any_cons,ih,List.filter_cons]
  cases h:Region.binds md e<;>simp
theorem sU:(sx md ops).2.length=ops.size:=by simp [sx]
theorem xM {o:Oper} (h:ops[i]? =some o):(sx md ops).2[i]? =some (xL md o,II md ops i o):=by
 have hi:=(Array.getElem?_eq_some_iff.1 h).1
 unfold sx
 rw [List.getElem?_map,List.getElem?_range hi,Option.map_some,h]
theorem xN (h:ops[i]? =none):(sx md ops).2[i]? =none:=by
 have hi:ops.size≤i:=Array.getElem?_eq_none_iff.1 h
 exact List.getElem?_eq_none (by rw [sU];exact hi)
theorem N6:sS (sx md ops).2 l.toList i=(!l.getD i true && ((ops[i]?).map (·.after.all fun e=>!Region.binds md e || l.getD e.on false)).getD false):=by
 unfold sS
 rw [gd]
 cases h:ops[i]? with
 |none=>rw [xN h];rfl
 |some o=>
  rw [xM h]
  simp only [Option.map_some,Option.getD_some]
  rw [← GP]
  simp only [gd]
theorem EY:Region.ready md ops l=EX (sx md ops).2 l.toList:=by
 unfold Region.ready EX
 rw [sU]
 refine List.filter_congr (fun i _ =>?_)
 rw [N6]
theorem free_eq:Region.free md ops l i=Lt (sx md ops).2 l.toList i:=by
 unfold Region.free Lt
 cases h:ops[i]? with
 |none=>rw [xN h]
 |some oi=>
  rw [xM h]
  simp only [II]
  rw [List.all_filter]
  congr 1
  funext j
  rw [gd]
  cases hj:ops[j]? with
  |none=>cases (j == i)<;>cases (l.toList.getD j true)<;>simp
  |some oj=>
   cases (j == i)<;>cases (l.toList.getD j true)<;>cases (oj.after.any (fun e=>Region.binds md e && e.on == i) || oi.apart ops oj)<;>simp_all
theorem closed_eq:Region.zN md ops l=DC (sx md ops).2 l.toList:=by
 unfold Region.zN DC
 rw [sU]
 congr 1
 funext j
 rw [gd]
 cases h:ops[j]? with
 |none=>rw [xN h]
 |some o=>
  rw [xM h]
  simp only
  rw [← GP]
  simp only [gd]
theorem reach_eq:∀ (fuel d:Nat),Region.rC md ops i fuel d=BL (sx md ops).2 i fuel d
 | 0,_ =>rfl
 |fuel + 1,d=>by
  unfold Region.rC BL
  cases h:ops[d]? with
  |none=>rw [xN h]
  |some o=>
   rw [xM h]
   simp only
   rw [← SN]
   congr 1
   funext e
   rw [reach_eq fuel]
theorem last_eq:Region.P5 md ops l ds i=P7 (sx md ops).2 l.toList ds i:=by
 unfold Region.P5 P7
 rw [sU]
 congr 1
 funext d
 rw [gd,reach_eq]
theorem Cn (h:sS T.2 l.toList i=true) (hT:sx md ops=T):(Region.ready md ops l).contains i=true:=by
 subst hT
 rw [EY]
 unfold EX
 rw [List.contains_iff_mem,List.mem_filter,List.mem_range]
 refine ⟨?_,h⟩
 unfold sS at h
 rw [Bool.and_eq_true] at h
 cases hq:(sx md ops).2[i]? with
 |none=>rw [hq] at h;simp at h
 |some r=>exact (List.getElem?_eq_some_iff.1 hq).1
theorem N7 (h:(l.toList.set i true == l'.toList)=true):(l.setIfInBounds i true == l')=true:=by
 rw [beq_iff_eq] at h ⊢
 apply Array.ext'
 rw [Array.toList_setIfInBounds]
 exact h
def adX (T:Bool×List (List Nat×List Nat)) (l l':List Bool) (i:Nat):Bool:=T.1 && Lt T.2 l i && sS T.2 l i && (l.set i true == l')
theorem fP (hT:sx md ops=T) (h:adX T l.toList l'.toList i=true):Xb md ops l l' i=true:=by
 simp only [adX,Bool.and_eq_true] at h
 obtain ⟨⟨⟨h1,h2⟩,h3⟩,h4⟩:=h
 have h5:=Cn h3 hT
 have h6:=N7 h4
 subst hT
 simp only [Xb,Bool.and_eq_true]
 exact ⟨⟨⟨h1,by rw [free_eq];exact h2⟩,h5⟩,h6⟩
def UI (T:Bool×List (List Nat×List Nat)) (ds:List Nat) (l l':List Bool) (i:Nat):Bool:=T.1 && Lt T.2 l i && sS T.2 l i && DC T.2 l && P7 T.2 l ds i && (l.set i true == l')
theorem Xc (hT:sx md ops=T) (h:UI T ds l.toList l'.toList i=true):Ls md ops ds l l' i=true:=by
 simp only [UI,Bool.and_eq_true] at h
 obtain ⟨⟨⟨⟨⟨h1,h2⟩,h3⟩,h4⟩,h5⟩,h6⟩:=h
 have h7:=Cn h3 hT
 have h8:=N7 h6
 subst hT
 simp only [Ls,Bool.and_eq_true]
 exact ⟨⟨⟨⟨⟨h1,by rw [free_eq];exact h2⟩,h7⟩,by rw [closed_eq];exact h4⟩,by rw [last_eq];exact h5⟩,h8⟩
theorem wM (hT:sx md ops=T) (h:(EX T.2 l.toList == [i] && l.toList.set i true == l'.toList)=true):IE md ops l l' i=true:=by
 simp only [Bool.and_eq_true] at h
 obtain ⟨h1,h2⟩:=h
 subst hT
 simp only [IE,Bool.and_eq_true]
 exact ⟨by rw [EY];exact h1,N7 h2⟩
theorem zP (hT:sx md ops=T) (h:(EX T.2 l.toList == [])=true):(Region.ready md ops l == [])=true:=by
 subst hT
 rw [EY]
 exact h
def upM (B:List Nat) (d:Nat):List Nat→Nat
 | []=>0
 |n :: r=>(2 ^ n ||| (if n < d then B.getD n 0 else 0)) ||| upM B d r
def uG (T:List (List Nat×List Nat)) (B:List Nat):Bool:=(List.range T.length).all fun d=>match T[d]? with
 |some r=>(B.getD d 0 ||| upM B d r.1) == upM B d r.1
 |none=>false
theorem P8 {B:List Nat} {d i:Nat}:∀ {ns:List Nat},(upM B d ns).testBit i=true→∃ n∈ns,n=i∨(n < d∧(B.getD n 0).testBit i=true)
 | [],h=>by simp [upM] at h
 |n :: r,h=>by
  unfold upM at h
  rw [Nat.testBit_or,Nat.testBit_or,Bool.or_eq_true,Bool.or_eq_true] at h
  rcases h with (h|h)|h
  ·rw [Nat.testBit_two_pow] at h
   exact ⟨n,List.mem_cons_self,.inl (by simpa using h)⟩
  ·by_cases hn:n < d
   ·rw [if_pos hn] at h
    exact ⟨n,List.mem_cons_self,.inr ⟨hn,h⟩⟩
   ·rw [if_neg hn] at h
    simp at h
  ·obtain ⟨m,hm,h2⟩:=P8 h
   exact ⟨m,List.mem_cons_of_mem _ hm,h2⟩
theorem GQ {T:List (List Nat×List Nat)} {B:List Nat} (hB:uG T B=true):∀ (fuel d:Nat),d < fuel→d < T.length→(B.getD d 0).testBit i=true→BL T i fuel d=true
 | 0,d,h,_,_ =>by omega
 |fuel + 1,d,h,hd,hb=>by
  have h1:=List.all_eq_true.1 hB d (List.mem_range.2 hd)
  cases hr:T[d]? with
  |none=>rw [hr] at h1;simp at h1
  |some r=>
   rw [hr] at h1
   simp only [beq_iff_eq] at h1
   have h2:(upM B d r.1).testBit i=true:=by rw [← h1,Nat.testBit_or,hb,Bool.true_or]
   obtain ⟨n,hn,h3⟩:=P8 h2
   unfold BL
   rw [hr]
   simp only
   rw [List.any_eq_true]
   refine ⟨n,hn,?_⟩
   rcases h3 with rfl|⟨h4,h5⟩
   ·simp
   ·rw [GQ hB fuel n lC lC h5,Bool.or_true]
def aau (T:List (List Nat×List Nat)) (B:List Nat) (l:List Bool) (ds:List Nat) (i:Nat):Bool:=ds.all fun d=>l.getD d true || (decide (d < T.length) && (B.getD d 0).testBit i)
def aav (T:Bool×List (List Nat×List Nat)) (B:List Nat) (ds:List Nat) (l l':List Bool) (i:Nat):Bool:=T.1 && Lt T.2 l i && sS T.2 l i && DC T.2 l && aau T.2 B l ds i && (l.set i true == l')
theorem nC {B:List Nat} (hT:sx md ops=T) (hB:uG T.2 B=true) (h:aav T B ds l.toList l'.toList i=true):Ls md ops ds l l' i=true:=by
 refine Xc hT ?_
 simp only [aav,UI,Bool.and_eq_true] at h ⊢
 obtain ⟨⟨⟨⟨⟨h1,h2⟩,h3⟩,h4⟩,h5⟩,h6⟩:=h
 refine ⟨⟨⟨⟨⟨h1,h2⟩,h3⟩,h4⟩,?_⟩,h6⟩
 unfold aau at h5
 unfold P7
 rw [List.all_eq_true] at h5 ⊢
 intro d hd
 have h7:=h5 d hd
 rw [Bool.or_eq_true,Bool.and_eq_true,decide_eq_true_eq] at h7
 rcases h7 with h7|⟨h8,h9⟩
 ·rw [h7,Bool.true_or]
 ·rw [GQ hB _ d h8 h8 h9,Bool.or_true]
theorem ue {P:Program} {Q:Exit→Act→World→Prop} {S:World→Prop} {n:Nat} {a:Act} {w:World} {B:List Nat} (hT:sx md ops=T) (hB:uG T.2 B=true) (h:ah (sx md ops=T)→ah (uG T.2 B=true)→fU P md ops Q S ds n l a w):fU P md ops Q S ds n l a w:=h ⟨hT⟩ ⟨hB⟩
end
def yV:Code→Nat→Option (Array Oper)
 | .region id ops _,k=>if id == k then some ops else none
 | .seq a b,k=>match yV a k with
   |some o=>some o
   |none=>yV b k
 | .cond _ a b,k=>match yV a k with
   |some o=>some o
   |none=>yV b k
 | .block _ c,k=>yV c k
 | .loop c,k=>yV c k
 | .scope c,k=>yV c k
 | .rangeFunc _ _ a b,k=>match yV a k with
   |some o=>some o
   |none=>yV b k
 |_,_ =>none
def opsOf (f:Func) (k:Nat):Array Oper:=((f.body.bind fun c=>yV c k)).getD #[]
end Go.Proofs.aj.fW
