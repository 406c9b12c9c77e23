import Derived.Test.YtbjjaaodfbjkfaaGreatDoorWLast
import Derived.Test.YtbjjaaodfbjkfaaGreatDoorWWords
namespace Go.Proofs.ak.dz
open Go.Proofs.ak.bR (ah)
def xj (md:Region.Mode) (o:Oper):List Nat:=(o.after.toList.filter (fun e=>Region.binds md e)).map (fun e=>e.on)
def GQ (md:Region.Mode) (ops:Array Oper) (i:Nat) (oi:Oper):List Nat:=(List.range ops.size).filter fun j=>!(j == i) && match ops[j]? with
 |some oj=>!(oj.after.any (fun e=>Region.binds md e && e.on == i) || oi.apart ops oj)
 |none=>false
def pZ (md:Region.Mode) (ops:Array Oper):Bool×List (List Nat×List Nat):=(Region.noSelect ops,(List.range ops.size).map fun i=>match ops[i]? with
 |some o=>(xj md o,GQ md ops i o)
 |none=>([],[]))
def rG (T:List (List Nat×List Nat)) (l:List Bool) (i:Nat):Bool:=!l.getD i true && match T[i]? with
 |some r=>r.1.all (fun j=>l.getD j false)
 |none=>false
def DL (T:List (List Nat×List Nat)) (l:List Bool):List Nat:=(List.range T.length).filter (rG T l)
def Ky (T:List (List Nat×List Nat)) (l:List Bool) (i:Nat):Bool:=match T[i]? with
 |some r=>r.2.all (fun j=>l.getD j true)
 |none=>false
def Cx (T:List (List Nat×List Nat)) (l:List Bool):Bool:=(List.range T.length).all fun j=>!l.getD j false || match T[j]? with
 |some r=>r.1.all (fun k=>l.getD k false)
 |none=>true
def Ar (T:List (List Nat×List Nat)) (i:Nat):Nat→Nat→Bool
 | 0,_ =>false
 |fuel + 1,d=>match T[d]? with
  |some r=>r.1.any fun j=>j == i || Ar T i fuel j
  |none=>false
def N8 (T:List (List Nat×List Nat)) (l:List Bool) (ds:List Nat) (i:Nat):Bool:=ds.all fun d=>l.getD d true || Ar T i T.length d
section
variable {md:Region.Mode} {ops:Array Oper} {T:Bool×List (List Nat×List Nat)} {l l' li lj lk:Array Bool} {ds:List Nat} {i j k:Nat}
theorem gd (l:Array Bool) (j:Nat) (b:Bool):l.getD j b=l.toList.getD j b:=by simp [Array.getD_eq_getD_getElem?,List.getD_eq_getElem?_getD]
theorem Fp (o:Oper) (p:Nat→Bool):o.after.all (fun e=>!Region.binds md e || p e.on)=(xj md o).all p:=by
 unfold xj
 rw [← Array.all_toList]
 induction o.after.toList with
 |nil=>rfl
 |cons e r ih=>
  rw [List.all_cons,ih,List.filter_cons]
  cases h:Region.binds md e<;>simp
theorem Rl (o:Oper) (p:Nat→Bool):o.after.any (fun e=>Region.binds md e && p e.on)=(xj md o).any p:=by
 unfold xj
 rw [← Array.any_toList]
 induction o.after.toList with
 |nil=>rfl
 |cons e r ih=>
  rw [List.any_cons,ih,List.filter_cons]
  cases h:Region.binds md e<;>simp
theorem rH:(pZ md ops).2.length=ops.size:=by simp [pZ]
theorem xk {o:Oper} (h:ops[i]? =some o):(pZ md ops).2[i]? =some (xj md o,GQ md ops i o):=by
 have hi:=(Array.getElem?_eq_some_iff.1 h).1
 unfold pZ
 rw [List.getElem?_map,List.getElem?_range hi,Option.map_some,h]
theorem xm (h:ops[i]? =none):(pZ md ops).2[i]? =none:=by
 have hi:ops.size≤i:=Array.getElem?_eq_none_iff.1 h
 exact List.getElem?_eq_none (by rw [rH];exact hi)
theorem Mh:rG (pZ md ops).2 l.toList i=(!l.getD i true && ((ops[i]?).map (·.after.all fun e=>!Region.binds md e || l.getD e.on false)).getD false):=by
 unfold rG
 rw [gd]
 cases h:ops[i]? with
 |none=>rw [xm h];rfl
 |some o=>
  rw [xk h]
  simp only [Option.map_some,Option.getD_some]
  rw [← Fp]
  simp only [gd]
theorem DM:Region.ready md ops l=DL (pZ md ops).2 l.toList:=by
 unfold Region.ready DL
 rw [rH]
 refine List.filter_congr (fun i _ =>?_)
 rw [Mh]
theorem free_eq:Region.free md ops l i=Ky (pZ md ops).2 l.toList i:=by
 unfold Region.free Ky
 cases h:ops[i]? with
 |none=>rw [xm h]
 |some oi=>
  rw [xk h]
  simp only [GQ]
  rw [List.all_filter]
  congr 1
  funext j
  rw [gd]
  cases hj:ops[j]? with
  |none=>cases (j == i)<;>cases (l.toList.getD j true)<;>simp
  |some oj=>
   cases (j == i)<;>cases (l.toList.getD j true)<;>cases (oj.after.any (fun e=>Region.binds md e && e.on == i) || oi.apart ops oj)<;>simp_all
theorem closed_eq:Region.zm md ops l=Cx (pZ md ops).2 l.toList:=by
 unfold Region.zm Cx
 rw [rH]
 congr 1
 funext j
 rw [gd]
 cases h:ops[j]? with
 |none=>rw [xm h]
 |some o=>
  rw [xk h]
  simp only
  rw [← Fp]
  simp only [gd]
theorem reach_eq:∀ (fuel d:Nat),Region.qq md ops i fuel d=Ar (pZ md ops).2 i fuel d
 | 0,_ =>rfl
 |fuel + 1,d=>by
  unfold Region.qq Ar
  cases h:ops[d]? with
  |none=>rw [xm h]
  |some o=>
   rw [xk h]
   simp only
   rw [← Rl]
   congr 1
   funext e
   rw [reach_eq fuel]
theorem last_eq:Region.N6 md ops l ds i=N8 (pZ md ops).2 l.toList ds i:=by
 unfold Region.N6 N8
 rw [rH]
 congr 1
 funext d
 rw [gd,reach_eq]
theorem BD (h:rG T.2 l.toList i=true) (hT:pZ md ops=T):(Region.ready md ops l).contains i=true:=by
 subst hT
 rw [DM]
 unfold DL
 rw [List.contains_iff_mem,List.mem_filter,List.mem_range]
 refine ⟨?_,h⟩
 unfold rG at h
 rw [Bool.and_eq_true] at h
 cases hq:(pZ md ops).2[i]? with
 |none=>rw [hq] at h;simp at h
 |some r=>exact (List.getElem?_eq_some_iff.1 hq).1
theorem Mi (h:(l.toList.set i true == l'.toList)=true):(l.setIfInBounds i true == l')=true:=by
 rw [beq_iff_eq] at h ⊢
 apply Array.ext'
 rw [Array.toList_setIfInBounds]
 exact h
def afl (T:Bool×List (List Nat×List Nat)) (l l':List Bool) (i:Nat):Bool:=T.1 && Ky T.2 l i && rG T.2 l i && (l.set i true == l')
theorem bf (hT:pZ md ops=T) (h:afl T l.toList l'.toList i=true):VH md ops l l' i=true:=by
 simp only [afl,Bool.and_eq_true] at h
 obtain ⟨⟨⟨h1,h2⟩,h3⟩,h4⟩:=h
 have h5:=BD h3 hT
 have h6:=Mi h4
 subst hT
 simp only [VH,Bool.and_eq_true]
 exact ⟨⟨⟨h1,by rw [free_eq];exact h2⟩,h5⟩,h6⟩
def TB (T:Bool×List (List Nat×List Nat)) (ds:List Nat) (l l':List Bool) (i:Nat):Bool:=T.1 && Ky T.2 l i && rG T.2 l i && Cx T.2 l && N8 T.2 l ds i && (l.set i true == l')
theorem VI (hT:pZ md ops=T) (h:TB T ds l.toList l'.toList i=true):Ku md ops ds l l' i=true:=by
 simp only [TB,Bool.and_eq_true] at h
 obtain ⟨⟨⟨⟨⟨h1,h2⟩,h3⟩,h4⟩,h5⟩,h6⟩:=h
 have h7:=BD h3 hT
 have h8:=Mi h6
 subst hT
 simp only [Ku,Bool.and_eq_true]
 exact ⟨⟨⟨⟨⟨h1,by rw [free_eq];exact h2⟩,h7⟩,by rw [closed_eq];exact h4⟩,by rw [last_eq];exact h5⟩,h8⟩
theorem jU (hT:pZ md ops=T) (h:(DL T.2 l.toList == [i] && l.toList.set i true == l'.toList)=true):Aq md ops l l' i=true:=by
 simp only [Bool.and_eq_true] at h
 obtain ⟨h1,h2⟩:=h
 subst hT
 simp only [Aq,Bool.and_eq_true]
 exact ⟨by rw [DM];exact h1,Mi h2⟩
theorem nJ (hT:pZ md ops=T) (h:(DL T.2 l.toList == [])=true):(Region.ready md ops l == [])=true:=by
 subst hT
 rw [DM]
 exact h
def upM (B:List Nat) (d:Nat):List Nat→Nat
 | []=>0
 |n :: r=>(2 ^ n ||| (if n < d then B.getD n 0 else 0)) ||| upM B d r
def pT (T:List (List Nat×List Nat)) (B:List Nat):Bool:=(List.range T.length).all fun d=>match T[d]? with
 |some r=>(B.getD d 0 ||| upM B d r.1) == upM B d r.1
 |none=>false
theorem N9 {B:List Nat} {d i:Nat}:∀ {ns:List Nat},(upM B d ns).testBit i=true→∃ n∈ns,n=i∨(n < d∧(B.getD n 0).testBit i=true)
 | [],h=>by simp [upM] at h
 |n :: r,h=>by
  unfold upM at h
  rw [Nat.testBit_or,Nat.testBit_or,Bool.or_eq_true,Bool.or_eq_true] at h
  rcases h with (h|h)|h
  ·rw [Nat.testBit_two_pow] at h
   exact ⟨n,List.mem_cons_self,.inl (by simpa using h)⟩
  ·by_cases hn:n < d
   ·rw [if_pos hn] at h
    exact ⟨n,List.mem_cons_self,.inr ⟨hn,h⟩⟩
   ·rw [if_neg hn] at h
    simp at h
  ·obtain ⟨m,hm,h2⟩:=N9 h
   exact ⟨m,List.mem_cons_of_mem _ hm,h2⟩
theorem Fq {T:List (List Nat×List Nat)} {B:List Nat} (hB:pT T B=true):∀ (fuel d:Nat),d < fuel→d < T.length→(B.getD d 0).testBit i=true→Ar T i fuel d=true
 | 0,d,h,_,_ =>by omega
 |fuel + 1,d,h,hd,hb=>by
  have h1:=List.all_eq_true.1 hB d (List.mem_range.2 hd)
  cases hr:T[d]? with
  |none=>rw [hr] at h1;simp at h1
  |some r=>
   rw [hr] at h1
   simp only [beq_iff_eq] at h1
   have h2:(upM B d r.1).testBit i=true:=by rw [← h1,Nat.testBit_or,hb,Bool.true_or]
   obtain ⟨n,hn,h3⟩:=N9 h2
   unfold Ar
   rw [hr]
   simp only
   rw [List.any_eq_true]
   refine ⟨n,hn,?_⟩
   rcases h3 with rfl|⟨h4,h5⟩
   ·simp
   ·rw [Fq hB fuel n fy fy h5,Bool.or_true]
def abc (T:List (List Nat×List Nat)) (B:List Nat) (l:List Bool) (ds:List Nat) (i:Nat):Bool:=ds.all fun d=>l.getD d true || (decide (d < T.length) && (B.getD d 0).testBit i)
def abd (T:Bool×List (List Nat×List Nat)) (B:List Nat) (ds:List Nat) (l l':List Bool) (i:Nat):Bool:=T.1 && Ky T.2 l i && rG T.2 l i && Cx T.2 l && abc T.2 B l ds i && (l.set i true == l')
theorem eV {B:List Nat} (hT:pZ md ops=T) (hB:pT T.2 B=true) (h:abd T B ds l.toList l'.toList i=true):Ku md ops ds l l' i=true:=by
 refine VI hT ?_
 simp only [abd,TB,Bool.and_eq_true] at h ⊢
 obtain ⟨⟨⟨⟨⟨h1,h2⟩,h3⟩,h4⟩,h5⟩,h6⟩:=h
 refine ⟨⟨⟨⟨⟨h1,h2⟩,h3⟩,h4⟩,?_⟩,h6⟩
 unfold abc at h5
 unfold N8
 rw [List.all_eq_true] at h5 ⊢
 intro d hd
 have h7:=h5 d hd
 rw [Bool.or_eq_true,Bool.and_eq_true,decide_eq_true_eq] at h7
 rcases h7 with h7|⟨h8,h9⟩
 ·rw [h7,Bool.true_or]
 ·rw [Fq hB _ d h8 h8 h9,Bool.or_true]
theorem kL {P:Program} {Q:Exit→Act→World→Prop} {S:World→Prop} {n:Nat} {a:Act} {w:World} {B:List Nat} (hT:pZ md ops=T) (hB:pT T.2 B=true) (h:ah (pZ md ops=T)→ah (pT T.2 B=true)→eU P md ops Q S ds n l a w):eU P md ops Q S ds n l a w:=h ⟨hT⟩ ⟨hB⟩
end
def yf:Code→Nat→Option (Array Oper)
 | .region id ops _,k=>if id == k then some ops else none
 | .seq a b,k=>match yf a k with
   |some o=>some o
   |none=>yf b k
 | .cond _ a b,k=>match yf a k with
   |some o=>some o
   |none=>yf b k
 | .block _ c,k=>yf c k
 | .loop c,k=>yf c k
 | .scope c,k=>yf c k
 | .rangeFunc _ _ a b,k=>match yf a k with
   |some o=>some o
   |none=>yf b k
 |_,_ =>none
def opsOf (f:Func) (k:Nat):Array Oper:=((f.body.bind fun c=>yf c k)).getD #[]
end Go.Proofs.ak.dz
