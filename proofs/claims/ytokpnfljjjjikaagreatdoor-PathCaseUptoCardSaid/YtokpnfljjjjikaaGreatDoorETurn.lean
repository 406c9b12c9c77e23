import Derived.Test.YtokpnfljjjjikaaGreatDoorEBytes
import Derived.Test.YtokpnfljjjjikaaGreatDoorEStr
namespace Go.Proofs.YtokpnfljjjjikaaGreatDoor
open Go.RowKit Go.Proofs.aj.bw Go.Proofs.aj.cj
set_option linter.unusedVariables false
def lq (c y:Int):Int:=if 97≤c∧c≤122∧Int.tmod y 2=1 then ((c - 97) % 256 + 65) % 256 else c
def iH (ys xs:List Int):Nat→List Int
 | 0=>xs
 |k + 1=>(iH ys xs k).set k (lq (xs.getD k 0) (ys.getD k 0))
theorem fU (ys xs:List Int):∀ k,(iH ys xs k).length=xs.length
 | 0=>rfl
 |k + 1=>by
  show ((iH ys xs k).set k _).length=_
  rw [List.length_set,fU ys xs k]
theorem sM (ys xs:List Int):∀ k j,k≤j→(iH ys xs k).getD j 0=xs.getD j 0
 | 0,_,_ =>rfl
 |k + 1,j,h=>by
  show ((iH ys xs k).set k _).getD j 0=_
  rw [List.getD_eq_getElem?_getD,List.getElem?_set_ne ak,← List.getD_eq_getElem?_getD,sM ys xs k j ak]
theorem BC (ys xs:List Int) (k:Nat) (h:k < xs.length) (hf:lq (xs.getD k 0) (ys.getD k 0)=xs.getD k 0):iH ys xs (k + 1)=iH ys xs k:=by
 show (iH ys xs k).set k _=_
 rw [hf,← sM ys xs k k (Nat.le_refl _)]
 have hk:k < (iH ys xs k).length:=by rw [fU];exact h
 rw [List.getD_eq_getElem?_getD,List.getElem?_eq_getElem hk]
 exact List.set_getElem_self hk
def bK.f (s:ByteArray) (ys:List Int):Option ByteArray:=if s.size≤9223372036854775807∧ys.length≤9223372036854775807 then some (strOfNums (iH ys (bytesOf s) s.size)) else none
set_option maxRecDepth 100000 in
set_option maxHeartbeats 4000000 in
theorem bK.calls (a0:ByteArray) (A1:Option Addr) (c1:Nat) (l1:List Int) (r:ByteArray) (w:World) (hr1:Kd.C (Kd.int .u8) w A1 l1.length l1) (hc1:l1.length≤c1) (h:bK.f a0 l1=some r):
 Calls Tryz.prog 47 #[.string a0,.slice A1 l1.length c1] w fun e w'=>e= .returned (.string r)∧Below w.heap.size w w':=by
 unfold bK.f at h
 by_cases hs:a0.size≤9223372036854775807∧l1.length≤9223372036854775807
 case neg=>rw [if_neg hs] at h;cases h
 rw [if_pos hs] at h
 obtain rfl:=Option.some.inj h
 clear h
 obtain ⟨hs1,hs2⟩:=hs
 have Rk:=Lib.hid hr1
 clear hr1
 have kc:=fun W=>Lib.run_convert_string_bytes (P:=Tryz.prog) W 9 23 5 a0 Tryz.underlying9 Tryz.underlying23 Tryz.underlying5
 have kd:=fun (W:World) (c:Nat) (h:gw W .u8 (some ⟨w.heap.size,0,none⟩) a0.size (iH l1 (bytesOf a0) a0.size))=>jP (P:=Tryz.prog) (c:=c) Tryz.underlying23 Tryz.underlying5 Tryz.underlying9 h
 have hl:=bytesOf_length a0
 have HL:=Lib.hid hl
 clear hl
 go_enter Tryz.func47,Tryz.ntmps47
 go_wp2
 have rE:=Lib.hid (gK.made w 5 a0)
 have Ho:=Lib.hid (j3 (Below.refl w.heap.size w) (Nat.le_refl _) 5 a0)
 go_loopw [12] (fun v wr=>∃ k:Nat,k≤a0.size∧v= .int .i64 k∧Hid (gK wr w.heap.size (iH l1 (bytesOf a0) k))∧Hid (Below w.heap.size w wr)) (fun v _ =>a0.size - (intOf v).toNat)
 case atStart=>exact ⟨0,Nat.zero_le _,rfl,rE,Ho⟩
 case round=>
  obtain ⟨k,hk,rfl,HR,HB⟩:=hrel
  by_cases hlt:k < a0.size
  ·have hr:=HR.out k (by rw [fU,HL.out];omega)
   rw [sM _ _ _ _ (Nat.le_refl _)] at hr
   obtain ⟨b0,b1⟩:=jG a0 k
   have HS:=Lib.hid (show iH l1 (bytesOf a0) (k + 1)=(iH l1 (bytesOf a0) k).set k (lq ((bytesOf a0).getD k 0) (l1.getD k 0)) from rfl)
   have HK:=Lib.hid (BC l1 (bytesOf a0) k pU)
   have HW:=Lib.hid (fun x=>HR.out.set k (by rw [fU,HL.out];omega) x)
   have HC:=Lib.hid hr
   clear hr
   generalize (bytesOf a0).getD k 0=c at HC HS HK b0 b1
   obtain ⟨hc,hf⟩:=HC.out
   have hw:wrap64 ((k:Int) + 1)=((k + 1:Nat):Int):=by unfold wrap64;omega
   have hka:(k:Int) < (a0.size:Int):=by omega
   by_cases hin:k < l1.length
   ·have abg:(k:Int) < (l1.length:Int):=by omega
    obtain ⟨ad,e1,hcy⟩:=Kd.Ou (Kd.fR Rk.out HB.out) (k:Int) ak ak
    subst e1
    rw [show ((k:Int)).toNat=k by omega] at hcy
    have hrd:rd l1 (k:Int)=l1.getD k 0:=by unfold rd;rw [show ((k:Int)).toNat=k by omega]
    rw [hrd] at hcy
    clear hrd
    generalize l1.getD k 0=y at hcy HS HK
    by_cases h1: 97≤c
    ·by_cases h2:c≤122
     ·by_cases h3:Int.tmod y 2=1
      ·have HV:=Lib.hid (show lq c y=((c - 97) % 256 + 65) % 256 by unfold lq;rw [if_pos ⟨h1,h2,h3⟩])
       go_wp2
       go_roundw
       case rel=>exact ⟨k + 1,ak,ot,Lib.hid (by rw [HS.out,HV.out,show ((c - 97) % 256 + 65) % 256=c - 97 + 65 by omega];exact HW.out _),Lib.hid (HB.out.setCell (Nat.le_refl _) _)⟩
       case measure=>(try rw [hw]);simp [intOf];omega
      ·go_wp2
       go_roundw
       case rel=>exact ⟨k + 1,ak,ot,Lib.hid zf,HB⟩
       case measure=>(try rw [hw]);simp [intOf];omega
     ·go_wp2
      go_roundw
      case rel=>exact ⟨k + 1,ak,ot,Lib.hid zf,HB⟩
      case measure=>(try rw [hw]);simp [intOf];omega
    ·go_wp2
     go_roundw
     case rel=>exact ⟨k + 1,ak,ot,Lib.hid zf,HB⟩
     case measure=>(try rw [hw]);simp [intOf];omega
   ·have abg: ¬ (k:Int) < (l1.length:Int):=by omega
    have hy0:l1.getD k 0=0:=by rw [List.getD_eq_getElem?_getD,List.getElem?_eq_none ak];rfl
    rw [hy0] at HS HK
    have HK0:=Lib.hid (HK.out (by unfold lq;rw [if_neg (by rintro ⟨_,_,h⟩;exact absurd h bg)]))
    by_cases h1: 97≤c
    ·by_cases h2:c≤122
     ·go_wp2
      go_roundw
      case rel=>exact ⟨k + 1,ak,ot,Lib.hid (by rw [HK0.out];exact HR.out),HB⟩
      case measure=>(try rw [hw]);simp [intOf];omega
     ·go_wp2
      go_roundw
      case rel=>exact ⟨k + 1,ak,ot,Lib.hid (by rw [HK0.out];exact HR.out),HB⟩
      case measure=>(try rw [hw]);simp [intOf];omega
    ·go_wp2
     go_roundw
     case rel=>exact ⟨k + 1,ak,ot,Lib.hid (by rw [HK0.out];exact HR.out),HB⟩
     case measure=>(try rw [hw]);simp [intOf];omega
  ·have hkm:k=a0.size:=by omega
   subst hkm
   have hkd:=fun c=>kd wr c (by
    have h3:=HR.out.reads (by rw [fU,HL.out];exact hs1)
    rw [fU,HL.out] at h3
    exact h3)
   clear kd
   go_wp2
   go_ret
   exact ⟨rfl,HB.out⟩
end Go.Proofs.YtokpnfljjjjikaaGreatDoor
