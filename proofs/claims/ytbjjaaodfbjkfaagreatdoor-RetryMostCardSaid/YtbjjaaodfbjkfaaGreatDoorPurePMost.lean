import Derived.Test.YtbjjaaodfbjkfaaGreatDoorPQue
import Derived.Test.YtbjjaaodfbjkfaaGreatDoorPRetry
import Derived.Test.YtbjjaaodfbjkfaaGreatDoorQQux17
namespace Go.Proofs.YtbjjaaodfbjkfaaGreatDoor.O0
open Go.RowKit Go.Proofs.YtbjjaaodfbjkfaaGreatDoor.qb Go.Proofs.YtbjjaaodfbjkfaaGreatDoor.acL Go.Proofs.aj.bQ Go.Proofs.aj.dX Go.Proofs.aj.dJ
set_option linter.unusedVariables false
set_option linter.unusedSimpArgs false
def wB (ws:List Int) (i:Int):Nat→Int
 | 0=>0
 |c + 1=>jh ws (i + 1) + wB ws (i + 1) c
theorem CM (ws:List Int):∀ (c:Nat) (i:Int),wB ws i (c + 1)=wB ws i c + jh ws (i + c + 1)
 | 0,i=>by simp [wB]
 |c + 1,i=>by
  have h:=CM ws c (i + 1)
  show jh ws (i + 1) + wB ws (i + 1) (c + 1)=jh ws (i + 1) + wB ws (i + 1) c + jh ws (i + (c + 1:Nat) + 1)
  rw [h,show i + 1 + (c:Int) + 1=i + ((c + 1:Nat):Int) + 1 by omega]
  omega
theorem I5 {ws:List Int} {i:Int} (h:(ws.length:Int)≤i):jh ws (i + 1)=iz ws:=by
 unfold jh iz mn
 rw [if_pos ay]
theorem CN {ws:List Int} {i:Nat} (h:i < ws.length):jh ws ((i:Int) + 1)=ws[i]:=by
 unfold jh mn rd
 by_cases hl:(ws.length:Int) < (i:Int) + 1
 ·omega
 ·rw [if_neg hl,show ((i:Int) + 1 - 1).toNat=i by omega,List.getD_eq_getElem?_getD,List.getElem?_eq_getElem h]
  rfl
theorem CO (ws:List Int):∀ (c:Nat) (i:Int),(ws.length:Int)≤i→wB ws i c=c * iz ws
 | 0,_,_ =>by simp [wB]
 |c + 1,i,h=>by
  show jh ws (i + 1) + wB ws (i + 1) c=_
  rw [I5 h,CO ws c (i + 1) ay]
  rw [show ((c + 1:Nat):Int)=(c:Int) + 1 by omega,Int.add_mul,Int.one_mul]
  omega
theorem aqI (ws:List Int) (hl: 1≤iz ws) (hw:∀ x∈ws,1≤x):∀ (d i:Nat) (left:Int),i + d=ws.length→0≤left→left < wB ws (i:Int) ((M (ws.drop i) (iz ws) left).toNat + 1):=by
 intro d
 induction d with
 |zero=>
  intro i left hi h0
  rw [List.drop_of_length_le ay,CO ws _ _ ay]
  show left < _
  unfold M
  have h1: 0≤left / iz ws:=Int.ediv_nonneg h0 ay
  rw [show (((left / iz ws).toNat + 1:Nat):Int)=left / iz ws + 1 by omega]
  exact Int.lt_ediv_add_one_mul_self left ay
 |succ d ih=>
  intro i left hi h0
  have hlt:i < ws.length:=by omega
  rw [List.drop_eq_getElem_cons hlt]
  unfold M
  by_cases h:ws[i] > left
  ·rw [if_pos h]
   show left < jh ws ((i:Int) + 1) + 0
   rw [CN hlt]
   omega
  ·rw [if_neg h]
   have h2:=ih (i + 1) (left - ws[i]) ay ay
   have h3:=(zj (ws.drop (i + 1)) (iz ws) (left - ws[i]) (fun x hx=>hw x (List.mem_of_mem_drop hx)) hl ay).1
   rw [show (1 + M (ws.drop (i + 1)) (iz ws) (left - ws[i])).toNat + 1=((M (ws.drop (i + 1)) (iz ws) (left - ws[i])).toNat + 1) + 1 by omega]
   show left < jh ws ((i:Int) + 1) + wB ws ((i:Int) + 1) _
   rw [CN hlt,show ((i:Int) + 1)=((i + 1:Nat):Int) by omega]
   omega
def PO:Bx:=⟨⟨#[97]⟩,⟨#[98]⟩,false⟩
def pK:Bx:=⟨⟨#[120]⟩,⟨#[99]⟩,false⟩
def ml (born st tries due:Int):Ml:=⟨1,⟨false,[],PO⟩,[⟨pK,st,tries,due⟩],[],born⟩
def PR:Ml:=⟨0,⟨false,[],⟨⟨#[]⟩,⟨#[]⟩,false⟩⟩,[],[],0⟩
def ro (p:Pt):Bool:=!p.f2.f1.toList.isEmpty
theorem afo:rN ro 80 ⟨false,[],PO⟩:=fun k hk=>
 have h:cU.f 80 false [] ⟨#[97]⟩ ⟨#[98]⟩ false=some (ro ⟨false,[],PO⟩):=by decide +kernel
 qw (g:=fun k=>cU.f k false [] ⟨#[97]⟩ ⟨#[98]⟩ false) (fun k=>cU.mono _ _ _ _ _ k) hk h
theorem afp:rN ro 80 ⟨false,[],pK⟩:=fun k hk=>
 have h:cU.f 80 false [] ⟨#[120]⟩ ⟨#[99]⟩ false=some (ro ⟨false,[],pK⟩):=by decide +kernel
 qw (g:=fun k=>cU.f k false [] ⟨#[120]⟩ ⟨#[99]⟩ false) (fun k=>cU.mono _ _ _ _ _ k) hk h
theorem afq:rN ro 80 ⟨false,[],⟨⟨#[]⟩,⟨#[]⟩,false⟩⟩:=fun k hk=>
 have h:cU.f 80 false [] ⟨#[]⟩ ⟨#[]⟩ false=some (ro ⟨false,[],⟨⟨#[]⟩,⟨#[]⟩,false⟩⟩):=by decide +kernel
 qw (g:=fun k=>cU.f k false [] ⟨#[]⟩ ⟨#[]⟩ false) (fun k=>cU.mono _ _ _ _ _ k) hk h
theorem afr (born st tries due:Int):BX ro 80 (ml born st tries due):=⟨afo,fun r hr=>by obtain rfl:=List.mem_singleton.1 hr;exact afp⟩
theorem afs:BX ro 80 PR:=⟨afq,fun r hr=>by cases hr⟩
theorem acM (born st tries due:Int):yC (ml born st tries due):=by
 unfold yC ml;simp
theorem aft (k:Nat) (hk: 10≤k):bC.f k 1 ⟨#[97]⟩ [⟨#[120]⟩]=some (1,false,[],⟨#[97]⟩,⟨#[98]⟩,false,[⟨pK,0,0,0⟩],[],0):=
 qw (fun k=>bC.mono _ _ _ k) hk (aR:bC.f 10 1 ⟨#[97]⟩ [⟨#[120]⟩]=some (1,false,[],⟨#[97]⟩,⟨#[98]⟩,false,[⟨pK,0,0,0⟩],[],0))
theorem roA:ro ⟨false,[],PO⟩=true:=by decide +kernel
theorem roX:ro ⟨false,[],pK⟩=true:=by decide +kernel
theorem aEJ:decide (PO.f1.toList= [])=false:=by decide +kernel
theorem vA {n:Int} (h0: 0≤n) (h1:n≤1099511627776):qO n=true:=by simp [qO,h0,h1]
theorem PS (born:Int) (h0: 0≤born) (h1:born≤4294967295) (k:Nat) (hk: 200≤k):
 eO.f k 1 [] 1 0 0 0 1 false [] ⟨#[97]⟩ ⟨#[98]⟩ false [⟨pK,0,0,born⟩] [] born=some (2,[ml born 0 0 born],0):=by
 unfold eO.f
 rw [copied_eq [] cO cO 1 k tD]
 have hc:=change_eq (afr born 0 0 born) (by simp [ml]) (by simp [ml]) 1 0 0 0 k ay
 have hv:wm ro 1 0 0 0 (ml born 0 0 born)=true:=by
  simp [wm,I3,ml,z1,vA h0 (show born≤1099511627776 by omega),vA (show (0:Int)≤0 by omega) ay,roA,roX]
  exact aEJ
 rw [hv] at hc
 simp only [Option.bind_some]
 rw [show eX.f k 1 0 0 0 1 false [] ⟨#[97]⟩ ⟨#[98]⟩ false [⟨pK,0,0,born⟩] [] born=some true from hc]
 simp only [Option.bind_some,if_true]
 have hf:kF.f 1 [] 1 0 0 0 (ml born 0 0 born)=some (true,2,[ml born 0 0 born]):=by
  unfold kF.f FI
  rw [if_pos rfl,if_pos ⟨acM _ _ _ _,cO⟩]
  have e1:(ml born 0 0 born).f0=1:=rfl
  rw [e1]
  simp [wrap64]
 rw [show kF.f 1 [] 1 0 0 0 ⟨1,⟨false,[],⟨⟨#[97]⟩,⟨#[98]⟩,false⟩⟩,[⟨pK,0,0,born⟩],[],born⟩=some (true,2,[ml born 0 0 born]) from hf]
 rfl
theorem B0 (kind born t d due:Int) (hk:kind=2∨kind=4) (h0: 0≤due) (h1:due≤1099511627776) (hz:kind=4→due=0) (ht0: 0≤t) (ht1:t < 1099511627776) (k:Nat) (hkk: 200≤k):
 eO.f k 2 [ml born 0 t d] kind 1 0 due 0 false [] ⟨#[]⟩ ⟨#[]⟩ false [] [] 0=some (2,[if kind=2 then ml born 0 (t + 1) due else ml born 2 t d],0):=by
 unfold eO.f
 rw [copied_eq [ml born 0 t d] cO (fun m hm=>by obtain rfl:=List.mem_singleton.1 hm;exact acM _ _ _ _) 2 k tD]
 have hc:=change_eq afs (by simp [PR]) (by simp [PR]) kind 1 0 due k ay
 have hn:pW PR=true:=by decide +kernel
 have hv:wm ro kind 1 0 due PR=true:=by
  unfold wm
  rw [hn]
  have e1: [1,0,due].all qO=true:=by simp [vA h0 h1,vA (show (0:Int)≤1 by omega) ay,vA (show (0:Int)≤0 by omega) ay]
  rw [e1]
  rcases hk with rfl|rfl
  ·rfl
  ·obtain rfl:=hz rfl
   rfl
 rw [hv] at hc
 simp only [Option.bind_some]
 rw [show eX.f k kind 1 0 due 0 false [] ⟨#[]⟩ ⟨#[]⟩ false [] [] 0=some true from hc]
 simp only [Option.bind_some,if_true]
 have hf:kF.f 2 [ml born 0 t d] kind 1 0 due PR=some (true,2,[if kind=2 then ml born 0 (t + 1) due else ml born 2 t d]):=by
  have hw:wrap64 (t + 1)=t + 1:=by unfold wrap64;omega
  rcases hk with rfl|rfl
  ·show some (FE 2 ⟨pK,0,t,d⟩,(2:Int),[(⟨1,⟨false,[],PO⟩,[xd 2 due ⟨pK,0,t,d⟩],[],born⟩:Ml)])=_
   unfold FE xd
   rw [if_pos rfl,if_pos rfl,if_pos rfl,hw,decide_eq_true ay]
   rfl
  ·rfl
 rw [show kF.f 2 [ml born 0 t d] kind 1 0 due ⟨0,⟨false,[],⟨⟨#[]⟩,⟨#[]⟩,false⟩⟩,[],[],0⟩=_ from hf]
 rfl
theorem I6 (born t d:Int) (k:Nat) (hk: 5≤k):dH.f k 2 [ml born 2 t d]=some [1]:=by
 obtain ⟨k,rfl⟩:∃ j,k=j + 2:=⟨k - 2,ay⟩
 unfold dH.f
 simp [dH.l0,av,ml,lO.f,hasB,wrap64]
theorem after_eq (ws:List Int) (n born t d now:Int) (hr:Rt ws n) (h0: 0≤now) (h1:now < 1099511627776) (hb0: 0≤born) (hb1:born≤4294967295) (ht0: 0≤t) (ht1:t < 1099511627776) (k:Nat) (hk: 100≤k):
 cg.f k ws n 1 false [] ⟨#[97]⟩ ⟨#[98]⟩ false [⟨pK,0,t,d⟩] [] born 0 3 now=some (if now - born < n then 2 else 4,1,0,if now - born < n then z7 ws (t + 1) now else 0,0,false,[],⟨#[]⟩,⟨#[]⟩,false,[],[],0,0):=by
 unfold cg.f
 rw [right_eq ws n k ay,decide_eq_true hr]
 simp only [Option.bind_some,if_true]
 rw [if_neg ay,if_neg cO,if_pos ay,if_pos cO,if_pos (by rfl),rM]
 simp only [Option.bind_some]
 rw [decide_eq_true ⟨h0,ay⟩,Bool.not_true]
 obtain ⟨k,rfl⟩:∃ j,k=j + 1:=⟨k - 1,ay⟩
 simp only [cg.j0]
 rw [if_neg bE,if_neg (show ¬ ((3:Int)=1) by omega),if_neg (show ¬ ((3:Int)=2) by omega),if_pos trivial,show wrap64 (now - born)=now - born by unfold wrap64;omega]
 by_cases h:now - born < n
 ·rw [if_pos h,if_pos h1,if_pos ay,if_pos cO,if_pos h,if_pos h]
  rw [show (bg [(⟨pK,0,t,d⟩:Rc)] 0).f2=t from rfl,show wrap64 (t + 1)=t + 1 by unfold wrap64;omega,afn ws (t + 1) now k ay]
  rfl
 ·rw [if_neg h,if_neg h,if_neg h]
theorem aaV (late:List Int) (hb:∀ x∈late,0≤x∧x≤255) (i:Int) (h0: 0≤i) (hl: 0 < late.length): 0≤Int.tmod i (late.length:Int)∧Int.tmod i (late.length:Int) < (late.length:Int)∧0≤rd late (Int.tmod i (late.length:Int))∧rd late (Int.tmod i (late.length:Int))≤255:=by
 have h1: 0≤Int.tmod i (late.length:Int):=Int.tmod_nonneg _ h0
 have h2:Int.tmod i (late.length:Int) < (late.length:Int):=Int.tmod_lt_of_pos _ ay
 have h3:=hb _ (BZ h1 h2)
 exact ⟨h1,h2,h3.1,h3.2⟩
structure Run (ws late:List Int) (n long born:Int):Prop where
 rt:Rt ws n
 wl:∀ x∈ws,x≤long
 l1:long≤256
 n1:n≤1000
 b0: 0≤born
 b1:born≤4294967295
 lb:∀ x∈late,0≤x∧x≤255
theorem AL {ws late:List Int} {n long born:Int} (H:Run ws late n long born) (i:Nat): 1≤jh ws ((i:Int) + 1)∧jh ws ((i:Int) + 1)≤long:=by
 have h:=z6 H.rt (n:=(i:Int) + 1) ay
 unfold good at h
 refine ⟨h.1,H.wl _ ?_⟩
 have m:=O1 ((i:Int) + 1) (ws.length:Int)
 have h1:=H.rt.1
 exact BZ ay ay
theorem afu {ws late:List Int} {n long born:Int} (H:Run ws late n long born): 0≤M ws (iz ws) (n - 1)∧M ws (iz ws) (n - 1)≤n - 1:=by
 obtain ⟨h1,h2,h3,h4⟩:=H.rt
 have hl:=h4 _ (BZ (l:=ws) (i:=(ws.length:Int) - 1) ay ay)
 unfold good at h3 hl
 exact zj ws (iz ws) (n - 1) (fun x hx=>(h4 x hx).1) hl.1 ay
theorem over {ws late:List Int} {n long born:Int} (H:Run ws late n long born) {i:Nat} (hi:(i:Int)=M ws (iz ws) (n - 1) + 1):n - 1 < wB ws 0 i:=by
 obtain ⟨h1,h2,h3,h4⟩:=H.rt
 have hl:=h4 _ (BZ (l:=ws) (i:=(ws.length:Int) - 1) ay ay)
 unfold good at h3 hl
 have h:=aqI ws hl.1 (fun x hx=>(h4 x hx).1) ws.length 0 (n - 1) ay ay
 have hm:=(afu H).1
 rw [List.drop_zero] at h
 rwa [show (M ws (iz ws) (n - 1)).toNat + 1=i by omega] at h
theorem CP {ws late:List Int} {n long born:Int} (H:Run ws late n long born) (k i:Nat) (Uf prev D:Int) (hi:(i:Int)≤M ws (iz ws) (n - 1) + 1) (hk: 400≤k)
 (PT:late.length=0→Uf=0) (hs:wB ws 0 i≤D - born) (hp:prev≤D) (hD:D≤born + 2000) (hend:late.length=0→D - born < n + long)
 (next:∀ now,D≤now→now - born < n→∀ (k':Nat) (pX:Int),k≤k' + 4→(late.length=0→pX=0)→
   aq.l1 k' late ws n long pX now (M ws (iz ws) (n - 1) + 2) ((i:Int) + 1) 1 false [] ⟨#[97]⟩ ⟨#[98]⟩ false [⟨pK,0,0,born⟩] [] born 2 [ml born 0 ((i:Int) + 1) (now + jh ws ((i:Int) + 1))]=some true):
 aq.l1 k late ws n long Uf prev (M ws (iz ws) (n - 1) + 2) (i:Int) 1 false [] ⟨#[97]⟩ ⟨#[98]⟩ false [⟨pK,0,0,born⟩] [] born 2 [ml born 0 (i:Int) D]=some true:=by
 obtain ⟨k,rfl⟩:∃ j,k=j + 4:=⟨k - 4,ay⟩
 have hmb:=afu H
 have hn1:=H.n1
 have hb0:=H.b0
 have hb1:=H.b1
 have hl1:=H.l1
 have hw:=AL H i
 have hr:=H.rt
 have hg: 1≤n:=by have:=hr.2.2.1;unfold good at this;omega
 have hsum: 0≤D - born:=by
  have:∀ (c:Nat) (j:Nat),0≤wB ws (j:Int) c:=by
   intro c
   induction c with
   |zero=>intro j;exact Int.le_refl _
   |succ c ih=>
    intro j
    have h1:=(AL H j).1
    have h2:=ih (j + 1)
    show 0≤jh ws ((j:Int) + 1) + wB ws ((j:Int) + 1) c
    rw [show ((j:Int) + 1)=((j + 1:Nat):Int) by omega] at h1 ⊢
    omega
  have:=this i 0
  simp only [Int.natCast_zero] at this
  omega
 have core:∀ pX:Int,0≤pX→pX≤255→(late.length=0→pX=0)→
  aq.j3 (k + 3) late ws n long pX prev (M ws (iz ws) (n - 1) + 2) (i:Int) 1 false [] ⟨#[97]⟩ ⟨#[98]⟩ false [⟨pK,0,0,born⟩] [] born 2 [ml born 0 (i:Int) D]=some true:=by
  intro pX h0 h1 hz
  simp only [aq.j3]
  have e0:av [ml born 0 (i:Int) D] 0=ml born 0 (i:Int) D:=rfl
  have e1:bg (ml born 0 (i:Int) D).f2 0=⟨pK,0,(i:Int),D⟩:=rfl
  rw [if_pos cO,if_pos cO,e0,if_pos (by simp [ml]),if_pos (by simp [ml]),e1]
  simp only [aq.j4]
  rw [decide_eq_false (by show ¬ D < prev;omega),if_neg bE,if_pos cO,e0,if_pos (by simp [ml]),e1]
  have aEK:wrap64 (D + pX)=D + pX:=by unfold wrap64;omega
  rw [aEK]
  have ha:=after_eq ws n born (i:Int) D (D + pX) hr ay ay hb0 hb1 ay ay (k + 1) ay
  rw [show cg.f (k + 1) ws n (ml born 0 (i:Int) D).f0 (ml born 0 (i:Int) D).f1.f0 (ml born 0 (i:Int) D).f1.f1 (ml born 0 (i:Int) D).f1.f2.f0 (ml born 0 (i:Int) D).f1.f2.f1 (ml born 0 (i:Int) D).f1.f2.f2 (ml born 0 (i:Int) D).f2 (ml born 0 (i:Int) D).f3 (ml born 0 (i:Int) D).f4 0 3 (D + pX)=_ from ha]
  simp only [Option.bind_some]
  rw [if_pos trivial]
  have hwb:wrap64 (D + pX - born)=D + pX - born:=by unfold wrap64;omega
  by_cases hlt:D + pX - born < n
  ·have aEL:z7 ws ((i:Int) + 1) (D + pX)=D + pX + jh ws ((i:Int) + 1):=by
    rw [O2 ⟨hr.1,hr.2.1,by unfold good;omega,hr.2.2.2⟩ ay ay ay]
    unfold mn
    rw [if_neg ay]
   have hap:=B0 2 born (i:Int) D (D + pX + jh ws ((i:Int) + 1)) (.inl rfl) ay ay (fun h=>absurd h ay) ay ay (k + 1) ay
   rw [if_pos rfl] at hap
   simp only [if_pos hlt,aEL]
   rw [hap]
   simp only [Option.bind_some]
   rw [if_pos trivial,hwb,show (((2:Int) == 4) != decide (D + pX - born≥n))=false by rw [decide_eq_false ay];rfl,if_neg bE,if_neg (show ¬ ((2:Int)=4) by omega),if_pos trivial,if_neg ay]
   have hlo:wrap64 (D + pX + long)=D + pX + long:=by unfold wrap64;omega
   rw [hlo,decide_eq_false ay]
   simp only [aq.j5]
   rw [if_neg bE,if_neg (show ¬ ((2:Int)=4) by omega),show wrap64 ((i:Int) + 1)=(i:Int) + 1 by unfold wrap64;omega]
   exact next (D + pX) ay hlt k pX ay hz
  ·have hap:=B0 4 born (i:Int) D 0 (.inr rfl) ay ay (fun _ =>rfl) ay ay (k + 1) ay
   rw [if_neg (show ¬ ((4:Int)=2) by omega)] at hap
   simp only [if_neg hlt]
   rw [hap]
   simp only [Option.bind_some]
   rw [if_pos trivial,hwb,show (((4:Int) == 4) != decide (D + pX - born≥n))=false by rw [decide_eq_true ay];rfl,if_neg bE,if_pos trivial]
   simp only [aq.j5]
   rw [if_neg bE,if_pos trivial]
   have hfin:((dH.f k 2 [ml born 2 (i:Int) D]).bind fun Km=>(if (Km.length:Int)=1 then ((dA.f k).bind fun TE=>(some TE)) else (some false)))=some true:=by
    rw [I6 _ _ _ k ay]
    simp only [Option.bind_some]
    rw [if_pos cO,TV k ay]
    rfl
   by_cases acN:(late.length:Int) > 0
   ·rw [if_pos acN]
    exact hfin
   ·rw [if_neg acN]
    have h2:=hz ay
    have h3:=hend ay
    rw [hwb,if_pos tv]
    exact hfin
 simp only [aq.l1]
 rw [if_pos ay]
 by_cases hl:(late.length:Int) > 0
 ·obtain ⟨t1,t2,t3,t4⟩:=aaV late H.lb (i:Int) ay ay
  rw [if_pos hl,if_neg ay,if_pos t1,if_pos t2,show wrap64 (rd late (Int.tmod (i:Int) (late.length:Int)))=rd late (Int.tmod (i:Int) (late.length:Int)) by unfold wrap64;omega]
  exact core _ t3 t4 (fun h=>by omega)
 ·rw [if_neg hl]
  have:=PT ay
  exact core Uf ay ay PT
theorem TX {ws late:List Int} {n long born:Int} (H:Run ws late n long born):∀ (d k i:Nat) (Uf prev D:Int),(i:Int) + d=M ws (iz ws) (n - 1) + 1→4 * d + 400≤k→
 (late.length=0→Uf=0)→wB ws 0 i≤D - born→prev≤D→D≤born + 2000→(late.length=0→D - born < n + long)→
 aq.l1 k late ws n long Uf prev (M ws (iz ws) (n - 1) + 2) (i:Int) 1 false [] ⟨#[97]⟩ ⟨#[98]⟩ false [⟨pK,0,0,born⟩] [] born 2 [ml born 0 (i:Int) D]=some true:=by
 intro d
 induction d with
 |zero=>
  intro k i Uf prev D hi hk PT hs hp hD hend
  refine CP H k i Uf prev D ay hk PT hs hp hD hend (fun now hn h=>?_)
  have:=over H (i:=i) ay
  omega
 |succ d ih=>
  intro k i Uf prev D hi hk PT hs hp hD hend
  refine CP H k i Uf prev D ay ay PT hs hp hD hend (fun now hn h k' pX hk' hl'=>?_)
  have hw:=AL H i
  have hn1:=H.n1
  have hl1:=H.l1
  have hs2:=CM ws i 0
  rw [show (0:Int) + (i:Int) + 1=(i:Int) + 1 by omega] at hs2
  have h1:=ih k' (i + 1) pX now (now + jh ws ((i:Int) + 1)) ay ay hl' ay ay ay (fun _ =>by omega)
  rw [show ((i + 1:Nat):Int)=(i:Int) + 1 by omega] at h1
  exact h1
theorem PU (ws late:List Int) (n most born:Int) (hg:∀ x∈ws,1≤x∧x≤256) (hlen:ws.length≤50)
 (cont:∀ (k':Nat) (L:Int),60000≤k'→(∀ x∈ws,x≤L)→0≤L→L≤256→aq.j1 k' late ws n most L 0 (decide (most < 2)) 1 false [] ⟨#[97]⟩ ⟨#[98]⟩ false [⟨pK,0,0,born⟩] [] born 2 [ml born 0 0 born]=some true):
 ∀ (d k j:Nat) (L:Int),j + d=ws.length→60000 + d < k→(∀ x∈ws.take j,x≤L)→0≤L→L≤256→
 aq.l0 k late ws n 0 most L 0 ws (ws.length:Int) (j:Int) 1 false [] ⟨#[97]⟩ ⟨#[98]⟩ false [⟨pK,0,0,born⟩] [] born 2 [ml born 0 0 born]=some true:=by
 intro d
 induction d with
 |zero=>
  intro k j L hj hk hL h0 h1
  obtain ⟨k,rfl⟩:∃ q,k=q + 1:=⟨k - 1,ay⟩
  simp only [aq.l0]
  rw [if_neg ay,if_pos trivial]
  rw [List.take_of_length_le ay] at hL
  exact cont k L ay hL h0 h1
 |succ d ih=>
  intro k j L hj hk hL h0 h1
  obtain ⟨k,rfl⟩:∃ q,k=q + 1:=⟨k - 1,ay⟩
  have hlt:j < ws.length:=by omega
  have hrd:rd ws (j:Int)=ws[j]:=by unfold rd;simp [List.getD_eq_getElem?_getD,List.getElem?_eq_getElem hlt]
  have hgj:=hg ws[j] (List.getElem_mem hlt)
  have hw:wrap64 ((j:Int) + 1)=((j + 1:Nat):Int):=by unfold wrap64;omega
  simp only [aq.l0]
  rw [if_pos ay,if_pos ay,if_pos ay,hrd,hw]
  have hmx:L≤mx L ws[j]∧ws[j]≤mx L ws[j]∧mx L ws[j]≤256:=by unfold mx;split<;>omega
  refine ih k (j + 1) (mx L ws[j]) ay ay (fun x hx=>?_) ay ay
  rw [List.take_succ_eq_append_getElem hlt,List.mem_append,List.mem_singleton] at hx
  rcases hx with hx|rfl
  ·have:=hL x hx;omega
  ·omega
theorem wf_u16 {x:Int} (h:(Lit.int .u16 x).wf=true): 0≤x∧x≤65535:=by
 simp [Lit.wf,IntKind.min,IntKind.max,IntKind.bits,IntKind.signed] at h;omega
theorem B6 (l:List Int) (life born:Int) (late:List Int) (hl:l.length≤140737488351232) (hb:∀ x∈l,(Lit.int .u8 x).wf=true) (h1:(Lit.int .u16 life).wf=true) (h2:(Lit.int .u32 born).wf=true) (hlb:∀ x∈late,(Lit.int .u8 x).wf=true) (k:Nat) (hk: 70000≤k):
 aq.f k l life born late=some true:=by
 have hb':∀ x∈l,0≤x∧x≤255:=fun x hx=>wf_u8 (hb x hx)
 have aEM:∀ x∈late,0≤x∧x≤255:=fun x hx=>wf_u8 (hlb x hx)
 have b1:=wf_u16 h1
 have b2:=wf_u32 h2
 obtain ⟨w1,w2,w3⟩:=Kz l hb'
 have hm0: 0≤Int.tmod life 1000:=Int.tmod_nonneg _ b1.1
 have hm1:Int.tmod life 1000 < 1000:=Int.tmod_lt_of_pos _ ay
 have en:wrap64 (1 + wrap64 (Int.tmod life 1000))=1 + Int.tmod life 1000:=by unfold wrap64;omega
 have eb:wrap64 born=born:=by unfold wrap64;omega
 obtain ⟨q,hq⟩:∃ q,q=Int.tmod life 1000:=⟨_,rfl⟩
 rw [← hq] at hm0 hm1 en
 have hrt:Rt (waits l) (1 + q):=⟨w1,w2,by unfold good;omega,fun x hx=>by have:=w3 x hx;unfold good;omega⟩
 unfold aq.f
 rw [← hq]
 rw [TW l hl hb' k ay,aft k ay]
 generalize waits l=ws at w1 w2 w3 hrt
 simp only [Option.bind_some]
 rw [if_pos cO,eb,en]
 have ey:([(⟨pK,0,0,0⟩:Rc)].set (0:Int).toNat (⟨⟨(bg [(⟨pK,0,0,0⟩:Rc)] 0).f0.f0,(bg [(⟨pK,0,0,0⟩:Rc)] 0).f0.f1,(bg [(⟨pK,0,0,0⟩:Rc)] 0).f0.f2⟩,(bg [(⟨pK,0,0,0⟩:Rc)] 0).f1,(bg [(⟨pK,0,0,0⟩:Rc)] 0).f2,born⟩:Rc))= [⟨pK,0,0,born⟩]:=rfl
 rw [ey]
 have hf:ku.f=some (1,[]):=rfl
 rw [hf]
 simp only [Option.bind_some]
 rw [PS born b2.1 b2.2 k ay]
 simp only [Option.bind_some]
 rw [most_eq ws (1 + q) hrt k ay]
 simp only [Option.bind_some]
 refine PU ws late (1 + q) (M ws (iz ws) (1 + q - 1) + 2) born w3 w2 (fun k' L hk' hL hL0 hL1=>?_) ws.length k 0 0 ay ay cO ay ay
 have H:Run ws late (1 + q) L born:=⟨hrt,hL,hL1,ay,b2.1,b2.2,aEM⟩
 have hM:=afu H
 have hL2: 1≤L:=by have:=(AL H 0);omega
 obtain ⟨k',rfl⟩:∃ j,k'=j + 1:=⟨k' - 1,ay⟩
 simp only [aq.j1]
 rw [decide_eq_false ay,if_neg bE]
 have h:=TX H (M ws (iz ws) (1 + q - 1) + 1).toNat k' 0 0 born born ay ay (fun _ =>rfl) (by show (0:Int)≤_;omega) (Int.le_refl _) ay (fun _ =>by omega)
 exact h
theorem RetryMost:aq.Pure:=fun l0 a1 a2 l3 hm0 y0 hw0 w1 w2 hm3 y3 hw3=>
 ⟨70000,B6 l0 a1 a2 l3 ay hw0 w1 w2 hw3 70000 (Nat.le_refl _)⟩
end Go.Proofs.YtbjjaaodfbjkfaaGreatDoor.O0
