import Derived.Test.YtbjjaaodfbjkfaaGreatDoorZo
import Derived.Test.YtbjjaaodfbjkfaaGreatDoorEBytes
import Derived.Lib.Hide
namespace Go.Proofs.YtbjjaaodfbjkfaaGreatDoor
open Go.RowKit Go.Proofs.ak.bR Go.Proofs.ak.cZ
def GI (c:Int):Int:=if 65≤c∧c≤90 then c + 32 else c
def eX.g (s:ByteArray):ByteArray:=strOfNums ((bytesOf s).map GI)
def eX.f (s:ByteArray):Option ByteArray:=if s.size≤9223372036854775807 then some (eX.g s) else none
set_option maxRecDepth 100000 in
set_option maxHeartbeats 1000000 in
theorem eX.calls (s:ByteArray) (r:ByteArray) (w:World) (h:eX.f s=some r):
 Calls Tryz.prog 139 #[.string s] w fun e w'=>e= .returned (.string r)∧Below w.heap.size w w':=by
 unfold eX.f at h
 by_cases hs:s.size≤9223372036854775807
 case neg=>rw [if_neg hs] at h;cases h
 rw [if_pos hs] at h
 obtain rfl:=Option.some.inj h
 clear h
 have kc:=fun W=>Lib.run_convert_string_bytes (P:=Tryz.prog) W 9 22 5 s Tryz.underlying9 Tryz.underlying22 Tryz.underlying5
 have kd:=fun (W:World) (c:Nat) (h:jP W .u8 (some ⟨w.heap.size,0,none⟩) s.size ((bytesOf s).map GI))=>BR (P:=Tryz.prog) (c:=c) Tryz.underlying22 Tryz.underlying5 Tryz.underlying9 h
 have hl:=bytesOf_length s
 have HL:=Lib.hid hl
 clear hl
 go_enter Tryz.func139,Tryz.ntmps139
 go_wp2
 have q9:=Lib.hid (xY.made w 5 s)
 have HB0:=Lib.hid (vV (Below.refl w.heap.size w) (Nat.le_refl _) 5 s)
 go_loopw [10] (fun v wr=>∃ k:Nat,k≤s.size∧v= .int .i64 k∧Hid (xY wr w.heap.size (qU GI (bytesOf s) k))∧Hid (Below w.heap.size w wr)) (fun v _ =>s.size - (intOf v).toNat)
 case atStart=>exact ⟨0,Nat.zero_le _,rfl,Lib.hid (by rw [Mp];exact q9.out),HB0⟩
 case round=>
  obtain ⟨k,hk,rfl,HR,HB⟩:=hrel
  by_cases hlt:k < s.size
  ·have hr:=HR.out k (by rw [um,HL.out];exact hlt)
   rw [KI _ _ _ zg] at hr
   obtain ⟨b0,b1⟩:=sO s k
   have HS:=Lib.hid (D4 GI (bytesOf s) k zg)
   have HK:=Lib.hid (Mq GI (bytesOf s) k zg)
   have HW:=Lib.hid (fun x=>HR.out.set k (by rw [um,HL.out];exact hlt) x)
   have HC:=Lib.hid hr
   clear hr
   generalize (bytesOf s).getD k 0=c at HC HS HK b0 b1
   obtain ⟨hc,hf⟩:=HC.out
   by_cases h1: 65≤c
   ·by_cases h2:c≤90
    ·go_wp2
     go_roundw
     case rel=>exact ⟨k + 1,az,by go_num,Lib.hid (by rw [HS.out];have:=HW.out (GI c);unfold GI at this ⊢;rw [if_pos ⟨h1,h2⟩] at this ⊢;rw [show c + 97 - 65=c + 32 from by omega];exact this),Lib.hid (HB.out.setCell (Nat.le_refl _) _)⟩
     case measure=>simp [intOf];omega
    ·go_wp2
     go_roundw
     case rel=>exact ⟨k + 1,az,by go_num,Lib.hid N1,HB⟩
     case measure=>simp [intOf];omega
   ·go_wp2
    go_roundw
    case rel=>exact ⟨k + 1,az,by go_num,Lib.hid N1,HB⟩
    case measure=>simp [intOf];omega
  ·have hkd:=fun c=>kd wr c (by
    have:=HR.out
    rw [Rt _ _ _ (by rw [HL.out];omega)] at this
    have h3:=this.reads (by rw [List.length_map,HL.out];exact hs)
    rw [List.length_map,HL.out] at h3
    exact h3)
   clear kd
   go_wp2
   go_ret
   exact ⟨rfl,HB.out⟩
end Go.Proofs.YtbjjaaodfbjkfaaGreatDoor
