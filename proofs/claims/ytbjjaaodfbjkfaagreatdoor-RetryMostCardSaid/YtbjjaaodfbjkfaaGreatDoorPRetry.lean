import Derived.Test.YtbjjaaodfbjkfaaGreatDoorQQux16
namespace Go.Proofs.YtbjjaaodfbjkfaaGreatDoor.O0
open Go.RowKit Go.Proofs.YtbjjaaodfbjkfaaGreatDoor.qb Go.Proofs.aj.bQ Go.Proofs.aj.dX Go.Proofs.aj.dJ
theorem rM (a b:Int):fZ.f a b=some (decide (b≤a∧a≤1099511627776)):=by
 unfold fZ.f
 by_cases h:a≥b
 ·rw [if_pos h];congr 1;by_cases h2:a≤1099511627776<;>simp [h2]<;>omega
 ·rw [if_neg h];congr 1;symm;rw [decide_eq_false_iff_not];omega
def good (x:Int):Prop:=1≤x∧x≤1099511627776
instance (x:Int):Decidable (good x):=by unfold good;infer_instance
theorem CL (a:Int):kD.f a=some (!decide (good a)):=by
 unfold kD.f;rw [rM];rfl
theorem idx (l:List Int) (hm:l.length≤9223372036854775807):∀ (d k n:Nat),n + d=l.length→d < k→
 ∃ r,aG.l0 k l (l.length:Int) (n:Int)=some r∧(0≤r↔∃ x∈l.drop n,¬ good x):=by
 intro d
 induction d with
 |zero=>
  intro k n hn hk
  obtain ⟨k,rfl⟩:∃ m,k=m + 1:=⟨k - 1,ay⟩
  refine ⟨-1,?_,?_⟩
  ·simp only [aG.l0];rw [if_neg ay]
  ·rw [List.drop_of_length_le ay];simp
 |succ d ih=>
  intro k n hn hk
  obtain ⟨k,rfl⟩:∃ m,k=m + 1:=⟨k - 1,ay⟩
  have hlt:n < l.length:=by omega
  have hrd:rd l (n:Int)=l[n]:=by unfold rd;simp [List.getD_eq_getElem?_getD,List.getElem?_eq_getElem hlt]
  have hdr:l.drop n=l[n] :: l.drop (n + 1):=List.drop_eq_getElem_cons hlt
  by_cases hg:good l[n]
  ·obtain ⟨r,hr,hi⟩:=ih k (n + 1) ay ay
   refine ⟨r,?_,?_⟩
   ·simp only [aG.l0]
    rw [if_pos ay,if_pos ay,if_pos ay,CL,hrd]
    simp only [Option.bind_some,decide_eq_true hg,Bool.not_true,Bool.false_eq_true,if_false]
    rw [show wrap64 ((n:Int) + 1)=((n + 1:Nat):Int) from by unfold wrap64;omega]
    exact hr
   ·rw [hi,hdr]
    constructor
    ·rintro ⟨x,hx,h⟩;exact ⟨x,List.mem_cons_of_mem _ hx,h⟩
    ·rintro ⟨x,hx,h⟩
     rcases List.mem_cons.1 hx with rfl|hx
     ·exact absurd hg h
     ·exact ⟨x,hx,h⟩
  ·refine ⟨(n:Int),?_,?_⟩
   ·simp only [aG.l0]
    rw [if_pos ay,if_pos ay,if_pos ay,CL,hrd]
    simp [hg]
   ·rw [hdr];exact ⟨fun _ =>⟨_,List.mem_cons_self,hg⟩,fun _ =>by omega⟩
def Rt (l:List Int) (a:Int):Prop:=1≤l.length∧l.length≤50∧good a∧∀ x∈l,good x
instance (l:List Int) (a:Int):Decidable (Rt l a):=by unfold Rt;infer_instance
theorem right_eq (l:List Int) (a:Int) (k:Nat) (hk: 50 < k):dw.f k l a=some (decide (Rt l a)):=by
 unfold dw.f
 by_cases h1: 1≤l.length
 ·by_cases h2:l.length≤50
  ·rw [if_pos ay,if_pos ay,rM]
   simp only [Option.bind_some]
   by_cases h3:good a
   ·rw [if_pos (by rw [decide_eq_true_iff];exact h3)]
    obtain ⟨r,hr,hi⟩:=idx l ay l.length k 0 ay ay
    unfold bU.f aG.f
    simp only [Int.natCast_zero] at hr
    rw [hr]
    simp only [Option.bind_some]
    congr 1
    rw [List.drop_zero] at hi
    by_cases h4:∀ x∈l,good x
    ·have: ¬ (0≤r):=by rw [hi];rintro ⟨x,hx,hg⟩;exact hg (h4 x hx)
     have e1:decide (r≥0)=false:=by rw [decide_eq_false_iff_not];exact this
     rw [e1];symm;simp only [Bool.not_false];rw [decide_eq_true_iff];exact ⟨h1,h2,h3,h4⟩
    ·have: 0≤r:=by rw [hi];simpa using h4
     have e1:decide (r≥0)=true:=by rw [decide_eq_true_iff];exact this
     rw [e1];symm;simp only [Bool.not_true];rw [decide_eq_false_iff_not];exact fun h=>h4 h.2.2.2
   ·rw [if_neg (by rw [decide_eq_true_iff];exact h3)]
    congr 1;symm;rw [decide_eq_false_iff_not];exact fun h=>h3 h.2.2.1
  ·rw [if_pos ay,if_neg ay]
   congr 1;symm;rw [decide_eq_false_iff_not];exact fun h=>h2 h.2.1
 ·rw [if_neg ay]
  congr 1;symm;rw [decide_eq_false_iff_not];exact fun h=>h1 h.1
def jh (l:List Int) (n:Int):Int:=rd l (mn n (l.length:Int) - 1)
theorem O1 (a b:Int):mn a b≤a∧mn a b≤b∧(mn a b=a∨mn a b=b):=by unfold mn;split<;>omega
theorem z6 {l:List Int} {a:Int} (h:Rt l a) {n:Int} (_hn: 1≤n):good (jh l n):=by
 obtain ⟨h1,h2,_,h4⟩:=h
 have m:=O1 n (l.length:Int)
 unfold jh rd
 have hi:(mn n (l.length:Int) - 1).toNat < l.length:=by omega
 rw [List.getD_eq_getElem?_getD,List.getElem?_eq_getElem hi]
 exact h4 _ (List.getElem_mem hi)
def z7 (l:List Int) (n now:Int):Int:=if Rt l 1∧1≤n∧0≤now∧now≤1099511627776 then mn (now + jh l n) 1099511627776 else 0
theorem O2 {l:List Int} {n now:Int} (hr:Rt l 1) (h1: 1≤n) (h2: 0≤now) (h3:now≤1099511627776):z7 l n now=mn (now + jh l n) 1099511627776:=by
 unfold z7;rw [if_pos ⟨hr,h1,h2,h3⟩]
theorem afn (l:List Int) (n now:Int) (k:Nat) (hk: 50 < k):dK.f k l n now=some (z7 l n now):=by
 unfold dK.f
 rw [right_eq l 1 k hk]
 simp only [Option.bind_some]
 by_cases hr:Rt l 1
 ·rw [if_pos (by simpa using hr)]
  by_cases h1:n < 1
  ·rw [if_pos h1];unfold z7;rw [if_neg ay]
  ·rw [if_neg h1,rM]
   simp only [Option.bind_some]
   by_cases h2: 0≤now∧now≤1099511627776
   ·rw [if_pos (by simpa using h2),O2 hr ay h2.1 h2.2]
    have m:=O1 n (l.length:Int)
    have hw:=z6 hr (n:=n) ay
    have hl:=hr.1
    have hl2:=hr.2.1
    have e1:wrap64 (mn n (l.length:Int) - 1)=mn n (l.length:Int) - 1:=by unfold wrap64;omega
    rw [e1,if_pos ay,if_pos ay]
    have e2:rd l (mn n (l.length:Int) - 1)=jh l n:=rfl
    rw [e2]
    unfold good at hw
    rw [show wrap64 (now + jh l n)=now + jh l n from by unfold wrap64;omega]
   ·rw [if_neg (by simpa using h2)];unfold z7;rw [if_neg (fun h=>h2 h.2.2)]
 ·rw [if_neg (by simpa using hr)];unfold z7;rw [if_neg (fun h=>hr h.1)]
theorem TV (k:Nat) (hk: 60≤k):dA.f k=some true:=
 qw (fun k=>dA.mono k) hk (by decide +kernel:dA.f 60=some true)
def M:List Int→Int→Int→Int
 | [],last,left=>left / last
 |w :: ws,last,left=>if w > left then 0 else 1 + M ws last (left - w)
theorem wf_u8 {x:Int} (h:(Lit.int .u8 x).wf=true): 0≤x∧x≤255:=by
 simp [Lit.wf,IntKind.min,IntKind.max,IntKind.bits,IntKind.signed] at h;omega
theorem wf_u32 {x:Int} (h:(Lit.int .u32 x).wf=true): 0≤x∧x≤4294967295:=by
 simp [Lit.wf,IntKind.min,IntKind.max,IntKind.bits,IntKind.signed] at h;omega
theorem zj:∀ (ws:List Int) (last left:Int),(∀ x∈ws,1≤x)→1≤last→0≤left→0≤M ws last left∧M ws last left≤left
 | [],last,left,_,hl,h0=>⟨Int.ediv_nonneg h0 ay,Int.ediv_le_self _ h0⟩
 |w :: ws,last,left,hw,hl,h0=>by
  unfold M
  have h1:=hw w cO
  by_cases h:w > left
  ·rw [if_pos h];omega
  ·rw [if_neg h]
   have:=zj ws last (left - w) (fun x hx=>hw x (by simp [hx])) hl ay
   omega
def iz (l:List Int):Int:=rd l ((l.length:Int) - 1)
theorem BZ {l:List Int} {i:Int} (h0: 0≤i) (h1:i < l.length):rd l i∈l:=by
 unfold rd
 have hi:i.toNat < l.length:=by omega
 rw [List.getD_eq_getElem?_getD,List.getElem?_eq_getElem hi]
 exact List.getElem_mem hi
theorem PN (l:List Int) (hl:l.length≤50) (h1: 1≤l.length) (hg:∀ x∈l,good x):∀ (d k n:Nat) (left many:Int),n + d=l.length→d < k→0≤left→left≤1099511627776→0≤many→many≤n→
 cA.l0 k l left many l (l.length:Int) (n:Int)=some (many + M (l.drop n) (iz l) left + 2):=by
 intro d
 have hgl:good (iz l):=hg _ (BZ ay ay)
 unfold good at hgl
 induction d with
 |zero=>
  intro k n left many hn hk h0 h2 h3 h4
  obtain ⟨k,rfl⟩:∃ m,k=m + 1:=⟨k - 1,ay⟩
  simp only [cA.l0]
  rw [if_neg ay,show wrap64 ((l.length:Int) - 1)=(l.length:Int) - 1 from by unfold wrap64;omega,if_pos ay,if_pos ay]
  have e:rd l ((l.length:Int) - 1)=iz l:=rfl
  rw [e,if_neg ay,List.drop_of_length_le ay]
  have e2:Int.tdiv left (iz l)=left / iz l:=Int.tdiv_eq_ediv_of_nonneg h0
  have b:=zj [] (iz l) left cO hgl.1 h0
  unfold M at b ⊢
  rw [e2]
  congr 1
  unfold wrap64
  omega
 |succ d ih=>
  intro k n left many hn hk h0 h2 h3 h4
  obtain ⟨k,rfl⟩:∃ m,k=m + 1:=⟨k - 1,ay⟩
  have hlt:n < l.length:=by omega
  have hrd:rd l (n:Int)=l[n]:=by unfold rd;simp [List.getD_eq_getElem?_getD,List.getElem?_eq_getElem hlt]
  have hdr:l.drop n=l[n] :: l.drop (n + 1):=List.drop_eq_getElem_cons hlt
  have hgn:=hg l[n] (List.getElem_mem hlt)
  unfold good at hgn
  simp only [cA.l0]
  rw [if_pos ay,if_pos ay,if_pos ay,hrd,hdr]
  simp only [M]
  by_cases h:l[n] > left
  ·rw [if_pos h,if_pos h]
   congr 1
   unfold wrap64
   omega
  ·rw [if_neg h,if_neg h,show wrap64 (left - l[n])=left - l[n] from by unfold wrap64;omega,show wrap64 (many + 1)=many + 1 from by unfold wrap64;omega,show wrap64 ((n:Int) + 1)=((n + 1:Nat):Int) from by unfold wrap64;omega]
   rw [ih k (n + 1) (left - l[n]) (many + 1) ay ay ay ay ay ay]
   congr 1
   omega
theorem most_eq (l:List Int) (a:Int) (h:Rt l a) (k:Nat) (hk: 60≤k):cA.f k l a=some (M l (iz l) (a - 1) + 2):=by
 obtain ⟨h1,h2,h3,h4⟩:=h
 unfold cA.f
 rw [right_eq l a k ay]
 simp only [Option.bind_some]
 rw [if_pos (by rw [decide_eq_true_iff];exact ⟨h1,h2,h3,h4⟩)]
 unfold good at h3
 rw [show wrap64 (a - 1)=a - 1 from by unfold wrap64;omega]
 have:=PN l h2 h1 h4 l.length k 0 (a - 1) 0 ay ay ay ay ay ay
 simp only [Int.natCast_zero,List.drop_zero,Int.zero_add] at this
 exact this
def waits (l:List Int):List Int:=if l.length=0 then [1] else (l.take 50).map (fun x=>1 + x)
theorem Ky (t:List Int) (ht:t.length≤50) (hb:∀ x∈t,0≤x∧x≤255):∀ (d k n:Nat) (acc:List Int),n + d=t.length→d < k→acc.length≤50→(1≤n→acc=(t.take n).map (fun x=>1 + x))→
 ck.l0 k acc t (t.length:Int) (n:Int)=some (if t.length=0 then acc else t.map (fun x=>1 + x)):=by
 intro d
 induction d with
 |zero=>
  intro k n acc hn hk hacc ha
  obtain ⟨k,rfl⟩:∃ m,k=m + 1:=⟨k - 1,ay⟩
  simp only [ck.l0]
  rw [if_neg ay]
  by_cases h0:t.length=0
  ·rw [if_pos h0]
  ·rw [if_neg h0,ha ay,List.take_of_length_le ay]
 |succ d ih=>
  intro k n acc hn hk hacc ha
  obtain ⟨k,rfl⟩:∃ m,k=m + 1:=⟨k - 1,ay⟩
  have hlt:n < t.length:=by omega
  have hrd:rd t (n:Int)=t[n]:=by unfold rd;simp [List.getD_eq_getElem?_getD,List.getElem?_eq_getElem hlt]
  have hbn:=hb t[n] (List.getElem_mem hlt)
  simp only [ck.l0]
  rw [if_pos ay,if_pos ay,if_pos ay,hrd,show wrap64 (1 + wrap64 t[n])=1 + t[n] from by unfold wrap64;omega,show wrap64 ((n:Int) + 1)=((n + 1:Nat):Int) from by unfold wrap64;omega]
  by_cases h0:n=0
  ·subst h0
   rw [if_pos ay,if_pos cO,ih k 1 _ ay ay cO (fun _ =>by rw [List.take_succ_eq_append_getElem hlt,List.map_append];rfl)]
   rw [if_neg ay,if_neg ay]
  ·rw [if_neg ay,if_pos ay,ih k (n + 1) _ ay ay (by simp [ha ay];omega) (fun _ =>by rw [ha ay,List.take_succ_eq_append_getElem hlt,List.map_append];rfl)]
   rw [if_neg ay,if_neg ay]
theorem TW (l:List Int) (hl:l.length≤140737488351232) (hb:∀ x∈l,0≤x∧x≤255) (k:Nat) (hk: 60≤k):ck.f k l=some (waits l):=by
 unfold ck.f
 have m:=O1 (l.length:Int) 50
 rw [if_pos ay,if_pos ay]
 have e:l.take (mn (l.length:Int) 50).toNat=l.take 50:=by
  rcases m.2.2 with h|h
  ·rw [h,List.take_of_length_le ay,List.take_of_length_le ay]
  ·rw [h];rfl
 rw [e]
 have:=Ky (l.take 50) xy (fun x hx=>hb x (List.mem_of_mem_take hx)) (l.take 50).length k 0 [1] ay xy cO (fun h=>by omega)
 simp only [Int.natCast_zero] at this
 rw [this]
 unfold waits
 by_cases h0:l.length=0
 ·rw [if_pos xy,if_pos h0]
 ·rw [if_neg xy,if_neg h0]
theorem Kz (l:List Int) (hb:∀ x∈l,0≤x∧x≤255): 1≤(waits l).length∧(waits l).length≤50∧∀ x∈waits l,1≤x∧x≤256:=by
 unfold waits
 by_cases h0:l.length=0
 ·rw [if_pos h0];simp
 ·rw [if_neg h0]
  refine ⟨tD,tD,?_⟩
  intro x hx
  rw [List.mem_map] at hx
  obtain ⟨y,hy,rfl⟩:=hx
  have:=hb y (List.mem_of_mem_take hy)
  omega
end Go.Proofs.YtbjjaaodfbjkfaaGreatDoor.O0
