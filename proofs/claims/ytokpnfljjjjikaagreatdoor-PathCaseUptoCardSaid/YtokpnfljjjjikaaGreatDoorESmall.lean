import Derived.Test.YtokpnfljjjjikaaGreatDoorZo
import Derived.Test.YtokpnfljjjjikaaGreatDoorEBytes
import Derived.Lib.Hide
namespace Go.Proofs.YtokpnfljjjjikaaGreatDoor
open Go.RowKit Go.Proofs.aj.bw Go.Proofs.aj.cj
def zj (c:Int):Int:=if 65≤c∧c≤90 then c + 32 else c
def b7.g (s:ByteArray):ByteArray:=strOfNums ((bytesOf s).map zj)
def b7.f (s:ByteArray):Option ByteArray:=if s.size≤9223372036854775807 then some (b7.g s) else none
set_option maxRecDepth 100000 in
set_option maxHeartbeats 1000000 in
theorem b7.calls (s:ByteArray) (r:ByteArray) (w:World) (h:b7.f s=some r):
 Calls Tryz.prog 81 #[.string s] w fun e w'=>e= .returned (.string r)∧Below w.heap.size w w':=by
 unfold b7.f at h
 by_cases hs:s.size≤9223372036854775807
 case neg=>rw [if_neg hs] at h;cases h
 rw [if_pos hs] at h
 obtain rfl:=Option.some.inj h
 clear h
 have kc:=fun W=>Lib.run_convert_string_bytes (P:=Tryz.prog) W 9 23 5 s Tryz.underlying9 Tryz.underlying23 Tryz.underlying5
 have kd:=fun (W:World) (c:Nat) (h:gw W .u8 (some ⟨w.heap.size,0,none⟩) s.size ((bytesOf s).map zj))=>jP (P:=Tryz.prog) (c:=c) Tryz.underlying23 Tryz.underlying5 Tryz.underlying9 h
 have hl:=bytesOf_length s
 have HL:=Lib.hid hl
 clear hl
 go_enter Tryz.func81,Tryz.ntmps81
 go_wp2
 have rE:=Lib.hid (gK.made w 5 s)
 have Ho:=Lib.hid (j3 (Below.refl w.heap.size w) (Nat.le_refl _) 5 s)
 go_loopw [10] (fun v wr=>∃ k:Nat,k≤s.size∧v= .int .i64 k∧Hid (gK wr w.heap.size (mX zj (bytesOf s) k))∧Hid (Below w.heap.size w wr)) (fun v _ =>s.size - (intOf v).toNat)
 case atStart=>exact ⟨0,Nat.zero_le _,rfl,Lib.hid (by rw [CR];exact rE.out),Ho⟩
 case round=>
  obtain ⟨k,hk,rfl,HR,HB⟩:=hrel
  by_cases hlt:k < s.size
  ·have hr:=HR.out k (by rw [ow,HL.out];exact hlt)
   rw [Aw _ _ _ ou] at hr
   obtain ⟨b0,b1⟩:=jG s k
   have HS:=Lib.hid (vv zj (bytesOf s) k ou)
   have HK:=Lib.hid (CS zj (bytesOf s) k ou)
   have HW:=Lib.hid (fun x=>HR.out.set k (by rw [ow,HL.out];exact hlt) x)
   have HC:=Lib.hid hr
   clear hr
   generalize (bytesOf s).getD k 0=c at HC HS HK b0 b1
   obtain ⟨hc,hf⟩:=HC.out
   by_cases h1: 65≤c
   ·by_cases h2:c≤90
    ·go_wp2
     go_roundw
     case rel=>exact ⟨k + 1,ak,jl,Lib.hid (by rw [HS.out];have:=HW.out (zj c);unfold zj at this ⊢;rw [if_pos ⟨h1,h2⟩] at this ⊢;rw [show c + 97 - 65=c + 32 from by omega];exact this),Lib.hid (HB.out.setCell (Nat.le_refl _) _)⟩
     case measure=>simp [intOf];omega
    ·go_wp2
     go_roundw
     case rel=>exact ⟨k + 1,ak,jl,Lib.hid Er,HB⟩
     case measure=>simp [intOf];omega
   ·go_wp2
    go_roundw
    case rel=>exact ⟨k + 1,ak,jl,Lib.hid Er,HB⟩
    case measure=>simp [intOf];omega
  ·have hkd:=fun c=>kd wr c (by
    have:=HR.out
    rw [Gv _ _ _ pU] at this
    have h3:=this.reads (by rw [List.length_map,HL.out];exact hs)
    rw [List.length_map,HL.out] at h3
    exact h3)
   clear kd
   go_wp2
   go_ret
   exact ⟨rfl,HB.out⟩
end Go.Proofs.YtokpnfljjjjikaaGreatDoor
