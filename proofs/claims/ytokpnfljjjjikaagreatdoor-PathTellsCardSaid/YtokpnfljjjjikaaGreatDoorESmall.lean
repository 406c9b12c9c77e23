import Derived.Test.YtokpnfljjjjikaaGreatDoorZo
import Derived.Test.YtokpnfljjjjikaaGreatDoorEBytes
import Derived.Lib.Hide
namespace Go.Proofs.YtokpnfljjjjikaaGreatDoor
open Go.RowKit Go.Proofs.aj.bO Go.Proofs.aj.cK
def Ji (c:Int):Int:=if 65≤c∧c≤90 then c + 32 else c
def cS.g (s:ByteArray):ByteArray:=strOfNums ((bytesOf s).map Ji)
def cS.f (s:ByteArray):Option ByteArray:=if s.size≤9223372036854775807 then some (cS.g s) else none
set_option maxRecDepth 100000 in
set_option maxHeartbeats 1000000 in
theorem cS.calls (s:ByteArray) (r:ByteArray) (w:World) (h:cS.f s=some r):
 Calls Tryz.prog 81 #[.string s] w fun e w'=>e= .returned (.string r)∧Below w.heap.size w w':=by
 unfold cS.f at h
 by_cases hs:s.size≤9223372036854775807
 case neg=>rw [if_neg hs] at h;cases h
 rw [if_pos hs] at h
 obtain rfl:=Option.some.inj h
 clear h
 have kc:=fun W=>Lib.run_convert_string_bytes (P:=Tryz.prog) W 9 23 5 s Tryz.underlying9 Tryz.underlying23 Tryz.underlying5
 have kd:=fun (W:World) (c:Nat) (h:kK W .u8 (some ⟨w.heap.size,0,none⟩) s.size ((bytesOf s).map Ji))=>rC (P:=Tryz.prog) (c:=c) Tryz.underlying23 Tryz.underlying5 Tryz.underlying9 h
 have hl:=bytesOf_length s
 have HL:=Lib.hid hl
 clear hl
 go_enter Tryz.func81,Tryz.ntmps81
 go_wp2
 have Ce:=Lib.hid (kY.made w 5 s)
 have Yu:=Lib.hid (qO (Below.refl w.heap.size w) (Nat.le_refl _) 5 s)
 go_loopw [10] (fun v wr=>∃ k:Nat,k≤s.size∧v= .int .i64 k∧Hid (kY wr w.heap.size (sO Ji (bytesOf s) k))∧Hid (Below w.heap.size w wr)) (fun v _ =>s.size - (intOf v).toNat)
 case atStart=>exact ⟨0,Nat.zero_le _,rfl,Lib.hid (by rw [N0];exact Ce.out),Yu⟩
 case round=>
  obtain ⟨k,hk,rfl,HR,HB⟩:=hrel
  by_cases hlt:k < s.size
  ·have hr:=HR.out k (by rw [uW,HL.out];exact hlt)
   rw [Lz _ _ _ uU] at hr
   obtain ⟨b0,b1⟩:=uk s k
   have HS:=Lib.hid (E5 Ji (bytesOf s) k uU)
   have HK:=Lib.hid (N1 Ji (bytesOf s) k uU)
   have HW:=Lib.hid (fun x=>HR.out.set k (by rw [uW,HL.out];exact hlt) x)
   have HC:=Lib.hid hr
   clear hr
   generalize (bytesOf s).getD k 0=c at HC HS HK b0 b1
   obtain ⟨hc,hf⟩:=HC.out
   by_cases h1: 65≤c
   ·by_cases h2:c≤90
    ·go_wp2
     go_roundw
     case rel=>exact ⟨k + 1,ak,nE,Lib.hid (by rw [HS.out];have:=HW.out (Ji c);unfold Ji at this ⊢;rw [if_pos ⟨h1,h2⟩] at this ⊢;rw [show c + 97 - 65=c + 32 from by omega];exact this),Lib.hid (HB.out.setCell (Nat.le_refl _) _)⟩
     case measure=>simp [intOf];omega
    ·go_wp2
     go_roundw
     case rel=>exact ⟨k + 1,ak,nE,Lib.hid QJ,HB⟩
     case measure=>simp [intOf];omega
   ·go_wp2
    go_roundw
    case rel=>exact ⟨k + 1,ak,nE,Lib.hid QJ,HB⟩
    case measure=>simp [intOf];omega
  ·have hkd:=fun c=>kd wr c (by
    have:=HR.out
    rw [Tx _ _ _ Aw] at this
    have h3:=this.reads (by rw [List.length_map,HL.out];exact hs)
    rw [List.length_map,HL.out] at h3
    exact h3)
   clear kd
   go_wp2
   go_ret
   exact ⟨rfl,HB.out⟩
end Go.Proofs.YtokpnfljjjjikaaGreatDoor
