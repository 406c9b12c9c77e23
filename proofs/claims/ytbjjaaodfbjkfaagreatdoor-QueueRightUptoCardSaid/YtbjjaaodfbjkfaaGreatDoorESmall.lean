import Derived.Test.YtbjjaaodfbjkfaaGreatDoorZo
import Derived.Test.YtbjjaaodfbjkfaaGreatDoorEBytes
import Derived.Lib.Hide
namespace Go.Proofs.YtbjjaaodfbjkfaaGreatDoor
open Go.RowKit Go.Proofs.ak.bQ Go.Proofs.ak.cX
def Gb (c:Int):Int:=if 65≤c∧c≤90 then c + 32 else c
def eW.g (s:ByteArray):ByteArray:=strOfNums ((bytesOf s).map Gb)
def eW.f (s:ByteArray):Option ByteArray:=if s.size≤9223372036854775807 then some (eW.g s) else none
set_option maxRecDepth 100000 in
set_option maxHeartbeats 1000000 in
theorem eW.calls (s:ByteArray) (r:ByteArray) (w:World) (h:eW.f s=some r):
 Calls Tryz.prog 139 #[.string s] w fun e w'=>e= .returned (.string r)∧Below w.heap.size w w':=by
 unfold eW.f at h
 by_cases hs:s.size≤9223372036854775807
 case neg=>rw [if_neg hs] at h;cases h
 rw [if_pos hs] at h
 obtain rfl:=Option.some.inj h
 clear h
 have kc:=fun W=>Lib.run_convert_string_bytes (P:=Tryz.prog) W 9 22 5 s Tryz.underlying9 Tryz.underlying22 Tryz.underlying5
 have kd:=fun (W:World) (c:Nat) (h:jD W .u8 (some ⟨w.heap.size,0,none⟩) s.size ((bytesOf s).map Gb))=>BA (P:=Tryz.prog) (c:=c) Tryz.underlying22 Tryz.underlying5 Tryz.underlying9 h
 have hl:=bytesOf_length s
 have HL:=Lib.hid hl
 clear hl
 go_enter Tryz.func139,Tryz.ntmps139
 go_wp2
 have qZ:=Lib.hid (xm.made w 5 s)
 have HB0:=Lib.hid (vS (Below.refl w.heap.size w) (Nat.le_refl _) 5 s)
 go_loopw [10] (fun v wr=>∃ k:Nat,k≤s.size∧v= .int .i64 k∧Hid (xm wr w.heap.size (qT Gb (bytesOf s) k))∧Hid (Below w.heap.size w wr)) (fun v _ =>s.size - (intOf v).toNat)
 case atStart=>exact ⟨0,Nat.zero_le _,rfl,Lib.hid (by rw [Lu];exact qZ.out),HB0⟩
 case round=>
  obtain ⟨k,hk,rfl,HR,HB⟩:=hrel
  by_cases hlt:k < s.size
  ·have hr:=HR.out k (by rw [uj,HL.out];exact hlt)
   rw [J3 _ _ _ yu] at hr
   obtain ⟨b0,b1⟩:=sM s k
   have HS:=Lib.hid (DB Gb (bytesOf s) k yu)
   have HK:=Lib.hid (Lv Gb (bytesOf s) k yu)
   have HW:=Lib.hid (fun x=>HR.out.set k (by rw [uj,HL.out];exact hlt) x)
   have HC:=Lib.hid hr
   clear hr
   generalize (bytesOf s).getD k 0=c at HC HS HK b0 b1
   obtain ⟨hc,hf⟩:=HC.out
   by_cases h1: 65≤c
   ·by_cases h2:c≤90
    ·go_wp2
     go_roundw
     case rel=>exact ⟨k + 1,aA,by go_num,Lib.hid (by rw [HS.out];have:=HW.out (Gb c);unfold Gb at this ⊢;rw [if_pos ⟨h1,h2⟩] at this ⊢;rw [show c + 97 - 65=c + 32 from by omega];exact this),Lib.hid (HB.out.setCell (Nat.le_refl _) _)⟩
     case measure=>simp [intOf];omega
    ·go_wp2
     go_roundw
     case rel=>exact ⟨k + 1,aA,by go_num,Lib.hid M7,HB⟩
     case measure=>simp [intOf];omega
   ·go_wp2
    go_roundw
    case rel=>exact ⟨k + 1,aA,by go_num,Lib.hid M7,HB⟩
    case measure=>simp [intOf];omega
  ·have hkd:=fun c=>kd wr c (by
    have:=HR.out
    rw [Qx _ _ _ (by rw [HL.out];omega)] at this
    have h3:=this.reads (by rw [List.length_map,HL.out];exact hs)
    rw [List.length_map,HL.out] at h3
    exact h3)
   clear kd
   go_wp2
   go_ret
   exact ⟨rfl,HB.out⟩
end Go.Proofs.YtbjjaaodfbjkfaaGreatDoor
