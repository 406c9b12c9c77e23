import Derived.Test.YtbjjaaodfbjkfaaGreatDoorWLast
import Derived.Test.YtbjjaaodfbjkfaaGreatDoorWWords
namespace Go.Proofs.aj.dX
open Go.Proofs.aj.bQ (ah)
def vW (md:Region.Mode) (o:Oper):List Nat:=(o.after.toList.filter (fun e=>Region.binds md e)).map (fun e=>e.on)
def C7 (md:Region.Mode) (ops:Array Oper) (i:Nat) (oi:Oper):List Nat:=(List.range ops.size).filter fun j=>!(j == i) && match ops[j]? with
 |some oj=>!(oj.after.any (fun e=>Region.binds md e && e.on == i) || oi.apart ops oj)
 |none=>false
def pO (md:Region.Mode) (ops:Array Oper):Bool×List (List Nat×List Nat):=(Region.noSelect ops,(List.range ops.size).map fun i=>match ops[i]? with
 |some o=>(vW md o,C7 md ops i o)
 |none=>([],[]))
def rE (T:List (List Nat×List Nat)) (l:List Bool) (i:Nat):Bool:=!l.getD i true && match T[i]? with
 |some r=>r.1.all (fun j=>l.getD j false)
 |none=>false
def zx (T:List (List Nat×List Nat)) (l:List Bool):List Nat:=(List.range T.length).filter (rE T l)
def HJ (T:List (List Nat×List Nat)) (l:List Bool) (i:Nat):Bool:=match T[i]? with
 |some r=>r.2.all (fun j=>l.getD j true)
 |none=>false
def Ah (T:List (List Nat×List Nat)) (l:List Bool):Bool:=(List.range T.length).all fun j=>!l.getD j false || match T[j]? with
 |some r=>r.1.all (fun k=>l.getD k false)
 |none=>true
def zy (T:List (List Nat×List Nat)) (i:Nat):Nat→Nat→Bool
 | 0,_ =>false
 |fuel + 1,d=>match T[d]? with
  |some r=>r.1.any fun j=>j == i || zy T i fuel j
  |none=>false
def K9 (T:List (List Nat×List Nat)) (l:List Bool) (ds:List Nat) (i:Nat):Bool:=ds.all fun d=>l.getD d true || zy T i T.length d
section
variable {md:Region.Mode} {ops:Array Oper} {T:Bool×List (List Nat×List Nat)} {l l' li lj lk:Array Bool} {ds:List Nat} {i j k:Nat}
theorem gd (l:Array Bool) (j:Nat) (b:Bool):l.getD j b=l.toList.getD j b:=by simp [Array.getD_eq_getD_getElem?,List.getD_eq_getElem?_getD]
theorem Cz (o:Oper) (p:Nat→Bool):o.after.all (fun e=>!Region.binds md e || p e.on)=(vW md o).all p:=by
 unfold vW
 rw [← Array.all_toList]
 induction o.after.toList with
 |nil=>rfl
 |cons e r ih=>
  rw [List.all_cons,ih,List.filter_cons]
  cases h:Region.binds md e<;>simp
theorem O7 (o:Oper) (p:Nat→Bool):o.after.any (fun e=>Region.binds md e && p e.on)=(vW md o).any p:=by
 unfold vW
 rw [← Array.any_toList]
 induction o.after.toList with
 |nil=>rfl
 |cons e r ih=>
  rw [List.any_cons,ih,List.filter_cons]
  cases h:Region.binds md e<;>simp
theorem rF:(pO md ops).2.length=ops.size:=by simp [pO]
theorem vX {o:Oper} (h:ops[i]? =some o):(pO md ops).2[i]? =some (vW md o,C7 md ops i o):=by
 have hi:=(Array.getElem?_eq_some_iff.1 h).1
 unfold pO
 rw [List.getElem?_map,List.getElem?_range hi,Option.map_some,h]
theorem vY (h:ops[i]? =none):(pO md ops).2[i]? =none:=by
 have hi:ops.size≤i:=Array.getElem?_eq_none_iff.1 h
 exact List.getElem?_eq_none (by rw [rF];exact hi)
theorem Jv:rE (pO md ops).2 l.toList i=(!l.getD i true && ((ops[i]?).map (·.after.all fun e=>!Region.binds md e || l.getD e.on false)).getD false):=by
 unfold rE
 rw [gd]
 cases h:ops[i]? with
 |none=>rw [vY h];rfl
 |some o=>
  rw [vX h]
  simp only [Option.map_some,Option.getD_some]
  rw [← Cz]
  simp only [gd]
theorem xL:Region.ready md ops l=zx (pO md ops).2 l.toList:=by
 unfold Region.ready zx
 rw [rF]
 refine List.filter_congr (fun i _ =>?_)
 rw [Jv]
theorem free_eq:Region.free md ops l i=HJ (pO md ops).2 l.toList i:=by
 unfold Region.free HJ
 cases h:ops[i]? with
 |none=>rw [vY h]
 |some oi=>
  rw [vX h]
  simp only [C7]
  rw [List.all_filter]
  congr 1
  funext j
  rw [gd]
  cases hj:ops[j]? with
  |none=>cases (j == i)<;>cases (l.toList.getD j true)<;>simp
  |some oj=>
   cases (j == i)<;>cases (l.toList.getD j true)<;>cases (oj.after.any (fun e=>Region.binds md e && e.on == i) || oi.apart ops oj)<;>simp_all
theorem closed_eq:Region.xJ md ops l=Ah (pO md ops).2 l.toList:=by
 unfold Region.xJ Ah
 rw [rF]
 congr 1
 funext j
 rw [gd]
 cases h:ops[j]? with
 |none=>rw [vY h]
 |some o=>
  rw [vX h]
  simp only
  rw [← Cz]
  simp only [gd]
theorem reach_eq:∀ (fuel d:Nat),Region.p9 md ops i fuel d=zy (pO md ops).2 i fuel d
 | 0,_ =>rfl
 |fuel + 1,d=>by
  unfold Region.p9 zy
  cases h:ops[d]? with
  |none=>rw [vY h]
  |some o=>
   rw [vX h]
   simp only
   rw [← O7]
   congr 1
   funext e
   rw [reach_eq fuel]
theorem last_eq:Region.K7 md ops l ds i=K9 (pO md ops).2 l.toList ds i:=by
 unfold Region.K7 K9
 rw [rF]
 congr 1
 funext d
 rw [gd,reach_eq]
theorem zP (h:rE T.2 l.toList i=true) (hT:pO md ops=T):(Region.ready md ops l).contains i=true:=by
 subst hT
 rw [xL]
 unfold zx
 rw [List.contains_iff_mem,List.mem_filter,List.mem_range]
 refine ⟨?_,h⟩
 unfold rE at h
 rw [Bool.and_eq_true] at h
 cases hq:(pO md ops).2[i]? with
 |none=>rw [hq] at h;simp at h
 |some r=>exact (List.getElem?_eq_some_iff.1 hq).1
theorem Bk (h:(l.toList.set i true == l'.toList)=true):(l.setIfInBounds i true == l')=true:=by
 rw [beq_iff_eq] at h ⊢
 apply Array.ext'
 rw [Array.toList_setIfInBounds]
 exact h
def agH (T:Bool×List (List Nat×List Nat)) (l l':List Bool) (i:Nat):Bool:=T.1 && HJ T.2 l i && rE T.2 l i && (l.set i true == l')
theorem cY (hT:pO md ops=T) (h:agH T l.toList l'.toList i=true):Uj md ops l l' i=true:=by
 simp only [agH,Bool.and_eq_true] at h
 obtain ⟨⟨⟨h1,h2⟩,h3⟩,h4⟩:=h
 have h5:=zP h3 hT
 have h6:=Bk h4
 subst hT
 simp only [Uj,Bool.and_eq_true]
 exact ⟨⟨⟨h1,by rw [free_eq];exact h2⟩,h5⟩,h6⟩
def QG (T:Bool×List (List Nat×List Nat)) (ds:List Nat) (l l':List Bool) (i:Nat):Bool:=T.1 && HJ T.2 l i && rE T.2 l i && Ah T.2 l && K9 T.2 l ds i && (l.set i true == l')
theorem Uk (hT:pO md ops=T) (h:QG T ds l.toList l'.toList i=true):Hy md ops ds l l' i=true:=by
 simp only [QG,Bool.and_eq_true] at h
 obtain ⟨⟨⟨⟨⟨h1,h2⟩,h3⟩,h4⟩,h5⟩,h6⟩:=h
 have h7:=zP h3 hT
 have h8:=Bk h6
 subst hT
 simp only [Hy,Bool.and_eq_true]
 exact ⟨⟨⟨⟨⟨h1,by rw [free_eq];exact h2⟩,h7⟩,by rw [closed_eq];exact h4⟩,by rw [last_eq];exact h5⟩,h8⟩
theorem ko (hT:pO md ops=T) (h:(zx T.2 l.toList == [i] && l.toList.set i true == l'.toList)=true):zw md ops l l' i=true:=by
 simp only [Bool.and_eq_true] at h
 obtain ⟨h1,h2⟩:=h
 subst hT
 simp only [zw,Bool.and_eq_true]
 exact ⟨by rw [xL];exact h1,Bk h2⟩
theorem QH (hT:pO md ops=T) (h:(zx T.2 l.toList == [i,j] && l.toList.set i true == li.toList && l.toList.set j true == lj.toList)=true):(Region.ready md ops l == [i,j] && l.setIfInBounds i true == li && l.setIfInBounds j true == lj)=true:=by
 simp only [Bool.and_eq_true] at h ⊢
 obtain ⟨⟨h1,h2⟩,h3⟩:=h
 subst hT
 exact ⟨⟨by rw [xL];exact h1,Bk h2⟩,Bk h3⟩
theorem tE (hT:pO md ops=T) (h:(zx T.2 l.toList == [])=true):(Region.ready md ops l == [])=true:=by
 subst hT
 rw [xL]
 exact h
def upM (B:List Nat) (d:Nat):List Nat→Nat
 | []=>0
 |n :: r=>(2 ^ n ||| (if n < d then B.getD n 0 else 0)) ||| upM B d r
def ql (T:List (List Nat×List Nat)) (B:List Nat):Bool:=(List.range T.length).all fun d=>match T[d]? with
 |some r=>(B.getD d 0 ||| upM B d r.1) == upM B d r.1
 |none=>false
theorem La {B:List Nat} {d i:Nat}:∀ {ns:List Nat},(upM B d ns).testBit i=true→∃ n∈ns,n=i∨(n < d∧(B.getD n 0).testBit i=true)
 | [],h=>by simp [upM] at h
 |n :: r,h=>by
  unfold upM at h
  rw [Nat.testBit_or,Nat.testBit_or,Bool.or_eq_true,Bool.or_eq_true] at h
  rcases h with (h|h)|h
  ·rw [Nat.testBit_two_pow] at h
   exact ⟨n,List.mem_cons_self,.inl (by simpa using h)⟩
  ·by_cases hn:n < d
   ·rw [if_pos hn] at h
    exact ⟨n,List.mem_cons_self,.inr ⟨hn,h⟩⟩
   ·rw [if_neg hn] at h
    simp at h
  ·obtain ⟨m,hm,h2⟩:=La h
   exact ⟨m,List.mem_cons_of_mem _ hm,h2⟩
theorem CA {T:List (List Nat×List Nat)} {B:List Nat} (hB:ql T B=true):∀ (fuel d:Nat),d < fuel→d < T.length→(B.getD d 0).testBit i=true→zy T i fuel d=true
 | 0,d,h,_,_ =>by omega
 |fuel + 1,d,h,hd,hb=>by
  have h1:=List.all_eq_true.1 hB d (List.mem_range.2 hd)
  cases hr:T[d]? with
  |none=>rw [hr] at h1;simp at h1
  |some r=>
   rw [hr] at h1
   simp only [beq_iff_eq] at h1
   have h2:(upM B d r.1).testBit i=true:=by rw [← h1,Nat.testBit_or,hb,Bool.true_or]
   obtain ⟨n,hn,h3⟩:=La h2
   unfold zy
   rw [hr]
   simp only
   rw [List.any_eq_true]
   refine ⟨n,hn,?_⟩
   rcases h3 with rfl|⟨h4,h5⟩
   ·simp
   ·rw [CA hB fuel n fI fI h5,Bool.or_true]
def aa8 (T:List (List Nat×List Nat)) (B:List Nat) (l:List Bool) (ds:List Nat) (i:Nat):Bool:=ds.all fun d=>l.getD d true || (decide (d < T.length) && (B.getD d 0).testBit i)
def aa9 (T:Bool×List (List Nat×List Nat)) (B:List Nat) (ds:List Nat) (l l':List Bool) (i:Nat):Bool:=T.1 && HJ T.2 l i && rE T.2 l i && Ah T.2 l && aa8 T.2 B l ds i && (l.set i true == l')
theorem jS {B:List Nat} (hT:pO md ops=T) (hB:ql T.2 B=true) (h:aa9 T B ds l.toList l'.toList i=true):Hy md ops ds l l' i=true:=by
 refine Uk hT ?_
 simp only [aa9,QG,Bool.and_eq_true] at h ⊢
 obtain ⟨⟨⟨⟨⟨h1,h2⟩,h3⟩,h4⟩,h5⟩,h6⟩:=h
 refine ⟨⟨⟨⟨⟨h1,h2⟩,h3⟩,h4⟩,?_⟩,h6⟩
 unfold aa8 at h5
 unfold K9
 rw [List.all_eq_true] at h5 ⊢
 intro d hd
 have h7:=h5 d hd
 rw [Bool.or_eq_true,Bool.and_eq_true,decide_eq_true_eq] at h7
 rcases h7 with h7|⟨h8,h9⟩
 ·rw [h7,Bool.true_or]
 ·rw [CA hB _ d h8 h8 h9,Bool.or_true]
theorem pz {P:Program} {Q:Exit→Act→World→Prop} {S:World→Prop} {n:Nat} {a:Act} {w:World} {B:List Nat} (hT:pO md ops=T) (hB:ql T.2 B=true) (h:ah (pO md ops=T)→ah (ql T.2 B=true)→dh P md ops Q S ds n l a w):dh P md ops Q S ds n l a w:=h ⟨hT⟩ ⟨hB⟩
end
def wE:Code→Nat→Option (Array Oper)
 | .region id ops _,k=>if id == k then some ops else none
 | .seq a b,k=>match wE a k with
   |some o=>some o
   |none=>wE b k
 | .cond _ a b,k=>match wE a k with
   |some o=>some o
   |none=>wE b k
 | .block _ c,k=>wE c k
 | .loop c,k=>wE c k
 | .scope c,k=>wE c k
 | .rangeFunc _ _ a b,k=>match wE a k with
   |some o=>some o
   |none=>wE b k
 |_,_ =>none
def opsOf (f:Func) (k:Nat):Array Oper:=((f.body.bind fun c=>wE c k)).getD #[]
end Go.Proofs.aj.dX
