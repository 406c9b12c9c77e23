import Derived.Test.YtokpnfljjjjikaaGreatDoorEBytes
import Derived.Test.YtokpnfljjjjikaaGreatDoorEStr
namespace Go.Proofs.YtokpnfljjjjikaaGreatDoor
open Go.RowKit Go.Proofs.aj.bQ Go.Proofs.aj.cT
theorem Yf (k k':IntKind) (x y:Int):Builtin.min2 (.int k x) (.int k' y)=pure (.int k (mn x y)):=iY k k' x y
set_option linter.unusedVariables false
attribute [local go_sem] Yf kJ
def tv (c y:Int):Int:=if 65≤c∧c≤90∧Int.tmod y 2=1 then ((c + 97) % 256 - 65) % 256 else c
def lQ (ys xs:List Int):Nat→List Int
 | 0=>xs
 |k + 1=>(lQ ys xs k).set k (tv (xs.getD k 0) (ys.getD k 0))
theorem jo (ys xs:List Int):∀ k,(lQ ys xs k).length=xs.length
 | 0=>rfl
 |k + 1=>by
  show ((lQ ys xs k).set k _).length=_
  rw [List.length_set,jo ys xs k]
theorem DB (ys xs:List Int):∀ k j,k≤j→(lQ ys xs k).getD j 0=xs.getD j 0
 | 0,_,_ =>rfl
 |k + 1,j,h=>by
  show ((lQ ys xs k).set k _).getD j 0=_
  rw [List.getD_eq_getElem?_getD,List.getElem?_set_ne aq,← List.getD_eq_getElem?_getD,DB ys xs k j aq]
theorem Oe (ys xs:List Int) (k:Nat) (h:k < xs.length) (hf:tv (xs.getD k 0) (ys.getD k 0)=xs.getD k 0):lQ ys xs (k + 1)=lQ ys xs k:=by
 show (lQ ys xs k).set k _=_
 rw [hf,← DB ys xs k k (Nat.le_refl _)]
 have hk:k < (lQ ys xs k).length:=by rw [jo];exact h
 rw [List.getD_eq_getElem?_getD,List.getElem?_eq_getElem hk]
 exact List.set_getElem_self hk
def dY.f (s:ByteArray) (ys:List Int):Option ByteArray:=if s.size≤9223372036854775807∧ys.length≤9223372036854775807 then some (strOfNums (lQ ys (bytesOf s) (min s.size ys.length))) else none
set_option maxRecDepth 100000 in
set_option maxHeartbeats 4000000 in
theorem dY.calls (a0:ByteArray) (A1:Option Addr) (c1:Nat) (l1:List Int) (r:ByteArray) (w:World) (hr1:Kd.C (Kd.int .u8) w A1 l1.length l1) (hc1:l1.length≤c1) (h:dY.f a0 l1=some r):
 Calls Tryz.prog 39 #[.string a0,.slice A1 l1.length c1] w fun e w'=>e= .returned (.string r)∧Below w.heap.size w w':=by
 unfold dY.f at h
 by_cases hs:a0.size≤9223372036854775807∧l1.length≤9223372036854775807
 case neg=>rw [if_neg hs] at h;cases h
 rw [if_pos hs] at h
 obtain rfl:=Option.some.inj h
 clear h
 obtain ⟨hs1,hs2⟩:=hs
 obtain ⟨m,hm⟩:∃ m:Nat,min a0.size l1.length=m:=⟨_,rfl⟩
 have hm1:m≤a0.size:=by omega
 have hm2:m≤l1.length:=by omega
 have hmi:mn (a0.size:Int) (l1.length:Int)=(m:Int):=by unfold mn;split<;>omega
 rw [hm]
 have HC1:=Lib.hid hr1
 clear hr1
 have kc:=fun W=>Lib.run_convert_string_bytes (P:=Tryz.prog) W 9 23 5 a0 Tryz.underlying9 Tryz.underlying23 Tryz.underlying5
 have kd:=fun (W:World) (c:Nat) (h:jr W .u8 (some ⟨w.heap.size,0,none⟩) a0.size (lQ l1 (bytesOf a0) m))=>nu (P:=Tryz.prog) (c:=c) Tryz.underlying23 Tryz.underlying5 Tryz.underlying9 h
 have hl:=bytesOf_length a0
 have HL:=Lib.hid hl
 clear hl
 go_enter Tryz.func39,Tryz.ntmps39
 go_wp2
 have yI:=Lib.hid (jF.made w 5 a0)
 have BD:=Lib.hid (mo (Below.refl w.heap.size w) (Nat.le_refl _) 5 a0)
 go_loopw [15] (fun v wr=>∃ k:Nat,k≤m∧v= .int .i64 k∧Hid (jF wr w.heap.size (lQ l1 (bytesOf a0) k))∧Hid (Below w.heap.size w wr)) (fun v _ =>m - (intOf v).toNat)
 case atStart=>exact ⟨0,Nat.zero_le _,rfl,yI,BD⟩
 case round=>
  obtain ⟨k,hk,rfl,HR,HB⟩:=hrel
  by_cases hlt:k < m
  ·have hr:=HR.out k (by rw [jo,HL.out];omega)
   rw [DB _ _ _ _ (Nat.le_refl _)] at hr
   obtain ⟨b0,b1⟩:=o9 a0 k
   obtain ⟨ad,e1,hcy⟩:=Kd.acX (Kd.dI HC1.out HB.out) (k:Int) aq aq
   subst e1
   rw [show ((k:Int)).toNat=k by omega] at hcy
   have hrd:rd l1 (k:Int)=l1.getD k 0:=by unfold rd;rw [show ((k:Int)).toNat=k by omega]
   rw [hrd] at hcy
   have HS:=Lib.hid (show lQ l1 (bytesOf a0) (k + 1)=(lQ l1 (bytesOf a0) k).set k (tv ((bytesOf a0).getD k 0) (l1.getD k 0)) from rfl)
   have HK:=Lib.hid (Oe l1 (bytesOf a0) k uz)
   have HW:=Lib.hid (fun x=>HR.out.set k (by rw [jo,HL.out];omega) x)
   have HC:=Lib.hid hr
   clear hr hrd
   generalize (bytesOf a0).getD k 0=c at HC HS HK b0 b1
   generalize l1.getD k 0=y at hcy HS HK
   obtain ⟨hc,hf⟩:=HC.out
   have hw:wrap64 ((k:Int) + 1)=((k + 1:Nat):Int):=by unfold wrap64;omega
   by_cases h1: 65≤c
   ·by_cases h2:c≤90
    ·by_cases h3:Int.tmod y 2=1
     ·have HV:=Lib.hid (show tv c y=((c + 97) % 256 - 65) % 256 by unfold tv;rw [if_pos ⟨h1,h2,h3⟩])
      go_wp2
      go_roundw
      case rel=>exact ⟨k + 1,aq,Fk,Lib.hid (by rw [HS.out,HV.out,show ((c + 97) % 256 - 65) % 256=c + 97 - 65 by omega];exact HW.out _),Lib.hid (HB.out.setCell (Nat.le_refl _) _)⟩
      case measure=>(try rw [hw]);simp [intOf];omega
     ·go_wp2
      go_roundw
      case rel=>exact ⟨k + 1,aq,Fk,Lib.hid J6,HB⟩
      case measure=>(try rw [hw]);simp [intOf];omega
    ·go_wp2
     go_roundw
     case rel=>exact ⟨k + 1,aq,Fk,Lib.hid J6,HB⟩
     case measure=>(try rw [hw]);simp [intOf];omega
   ·go_wp2
    go_roundw
    case rel=>exact ⟨k + 1,aq,Fk,Lib.hid J6,HB⟩
    case measure=>(try rw [hw]);simp [intOf];omega
  ·have hkm:k=m:=by omega
   subst hkm
   have hkd:=fun c=>kd wr c (by
    have h3:=HR.out.reads (by rw [jo,HL.out];exact hs1)
    rw [jo,HL.out] at h3
    exact h3)
   clear kd
   go_wp2
   go_ret
   exact ⟨rfl,HB.out⟩
end Go.Proofs.YtokpnfljjjjikaaGreatDoor
