import Derived.Test.YtbjjaaodfbjkfaaGreatDoorZo
import Derived.Test.YtbjjaaodfbjkfaaGreatDoorEBytes
import Derived.Lib.Hide
set_option maxHeartbeats 4000000
set_option maxRecDepth 100000
namespace Go.Proofs.YtbjjaaodfbjkfaaGreatDoor
open Go.RowKit Go.Proofs.ak.bR Go.Proofs.ak.cZ
def ni (c:Int):Int:=Go.bits .or .u8 c 32
theorem qK (c:Int): 0≤ni c∧ni c≤255:=by
 unfold ni
 exact ⟨bits_lo_u8 _ _ _,bits_hi_u8 _ _ _⟩
def yO (c:Int):Int:=if 48≤c∧c≤57 then c - 48 else if 97≤ni c∧ni c≤122 then ni c - 87 else 255
def vS (base most:Int):List Int→Int→Option Int
 | [],n=>some n
 |c :: cs,n=>if yO c≥base then none else if n * base + yO c > most then none else vS base most cs (n * base + yO c)
def yl (base most:Int) (s:ByteArray):Option Int:=vS base most (bytesOf s) 0
def pu (base most:Int) (s:ByteArray):Option Int:=if s.size=0 then none else vS base most (bytesOf s) 0
def nW (o:Option Int) (e:Ending):Prop:=
 (∃ n,o=some n∧e= .returned (.tuple #[.int .u64 n,.nilIface]))∨(o=none∧∃ n c:Int,(c=1∨c=2)∧e= .returned (.tuple #[.int .u64 n,.iface 267 (.int .i64 c)]))
theorem nW.bad {o:Option Int} (h:o=none) (n c:Int) (hc:c=1∨c=2):nW o (.returned (.tuple #[.int .u64 n,.iface 267 (.int .i64 c)])):= .inr ⟨h,n,c,hc,rfl⟩
theorem nW.good {o:Option Int} (n:Int) (h:o=some n):nW o (.returned (.tuple #[.int .u64 n,.nilIface])):= .inl ⟨n,h,rfl⟩
theorem D6 (s:ByteArray) (k:Nat) (h:k < s.size):(bytesOf s).drop k=(bytesOf s).getD k 0 :: (bytesOf s).drop (k + 1):=by
 have h':k < (bytesOf s).length:=by rw [bytesOf_length];exact h
 rw [List.drop_eq_getElem_cons h',List.getD_eq_getElem?_getD,List.getElem?_eq_getElem h']
 rfl
theorem Mu (w:World):Calls Tryz.prog 244 #[.string ⟨#[]⟩,.int .i64 10,.int .i64 8] w fun e w'=>e= .returned (.tuple #[.int .u64 0,.iface 267 (.int .i64 2)])∧w=w':=by
 go_enter Tryz.func244,Tryz.ntmps244
 go_wp2
 go_ret2
 exact ⟨rfl,rfl⟩
theorem Rv (s:ByteArray) (hs:s.size≤9223372036854775807) (h0: 0 < s.size) (w:World):
 Calls Tryz.prog 244 #[.string s,.int .i64 10,.int .i64 8] w fun e w'=>nW (yl 10 255 s) e∧Below w.heap.size w w':=by
 have kc:=fun W=>Lib.run_convert_string_bytes (P:=Tryz.prog) W 9 22 5 s Tryz.underlying9 Tryz.underlying22 Tryz.underlying5
 have hl:=bytesOf_length s
 have HL:=Lib.hid hl
 clear hl
 have hne:s.toList.isEmpty=false:=by
  rw [List.isEmpty_eq_false_iff];intro h
  rw [ByteArray.toList_eq] at h
  have h2:s.data.toList= []:=h;have h3:=jc s;rw [h2] at h3;simp at h3;omega
 go_enter Tryz.func244,Tryz.ntmps244
 go_wp2
 have q9:=Lib.hid (xY.made w 5 s)
 have HB0:=Lib.hid (vV (Below.refl w.heap.size w) (Nat.le_refl _) 5 s)
 have HG:=Lib.hid (rfl:vS 10 255 ((bytesOf s).drop 0) 0=yl 10 255 s)
 go_loopw [12,13,101] (fun us v i wr=>∃ (k:Nat) (n:Int),k≤s.size∧us= .bool false∧i= .int .i64 k∧v= .int .u64 n∧0≤n∧n≤255∧Hid (vS 10 255 ((bytesOf s).drop k) n=yl 10 255 s)∧Hid (xY wr w.heap.size (bytesOf s))∧Hid (Below w.heap.size w wr)) (fun _ _ i _ =>s.size - (intOf i).toNat)
 case atStart=>exact ⟨0,0,Nat.zero_le _,rfl,rfl,rfl,az,az,HG,q9,HB0⟩
 case round=>
  obtain ⟨k,n,hk,rfl,rfl,rfl,hn0,hn1,HG,HR,HB⟩:=hrel
  clear q9 HB0
  by_cases hlt:k < s.size
  ·have hc:=(HR.out k zg).1
   obtain ⟨b0,b1⟩:=sO s k
   have HD:=Lib.hid (D6 s k hlt)
   generalize (bytesOf s).getD k 0=c at hc HD b0 b1
   have HG2:=Lib.hid (show vS 10 255 (c :: (bytesOf s).drop (k + 1)) n=yl 10 255 s from by rw [← HD.out];exact HG.out)
   clear HG HD
   by_cases h95:c=95
   ·subst h95
    go_wp2
    go_ret2
    exact ⟨nW.bad (by rw [← HG2.out];unfold vS;rw [if_pos (by decide +kernel)]) _ _ cF,HB.out⟩
   ·have axP:(c == 95)=false:=by simpa using h95
    clear h95
    by_cases hd: 48≤c∧c≤57
    ·obtain ⟨d1,d2⟩:=hd
     have HX:=Lib.hid (show yO c=c - 48 from by unfold yO;rw [if_pos ⟨d1,d2⟩])
     by_cases hm:n * 10 + (c - 48)≤255
     ·go_wp2
      go_roundw
      case rel=>exact ⟨k + 1,n * 10 + (c - 48),az,rfl,by go_num,rfl,az,az,Lib.hid Gj,HR,HB⟩
      case measure=>simp [intOf];omega
     ·go_wp2
      go_ret2
      exact ⟨nW.bad Gk _ _ cF,HB.out⟩
    ·have l0:=(qK c).1
     have l1:=(qK c).2
     have hnd:∀ P Q R:Prop,True:=fun _ _ _ =>trivial
     clear hnd
     by_cases hl: 97≤ni c∧ni c≤122
     ·have HX:=Lib.hid (show yO c=ni c - 87 from by unfold yO;rw [if_neg hd,if_pos hl])
      obtain ⟨l2,l3⟩:=hl
      unfold ni at l0 l1 l2 l3 HX
      have hsplit:c < 48∨57 < c:=by omega
      clear hd
      rcases hsplit with hd|hd
      all_goals
       have hb: ¬ (bits .or .u8 c 32 - 87 < 10):=by omega
       go_wp2
       go_ret2
       exact ⟨nW.bad Gi _ _ cF,HB.out⟩
     ·have HX:=Lib.hid (show yO c=255 from by unfold yO;rw [if_neg hd,if_neg hl])
      unfold ni at l0 l1 hl
      have hsplit:c < 48∨57 < c:=by omega
      have Hg:bits .or .u8 c 32 < 97∨122 < bits .or .u8 c 32:=by omega
      clear hd hl
      rcases hsplit with hd|hd
      all_goals
       rcases Hg with hl|hl
       all_goals
        go_wp2
        go_ret2
        exact ⟨nW.bad Gi _ _ cF,HB.out⟩
  ·have HG2:=Lib.hid (show some n=yl 10 255 s from by rw [← HG.out,List.drop_of_length_le (by rw [HL.out];omega)];rfl)
   go_wp2
   go_ret2
   exact ⟨nW.good n HG2.out.symm,HB.out⟩
theorem Mv (w:World):Calls Tryz.prog 244 #[.string ⟨#[]⟩,.int .i64 16,.int .i64 16] w fun e w'=>e= .returned (.tuple #[.int .u64 0,.iface 267 (.int .i64 2)])∧w=w':=by
 go_enter Tryz.func244,Tryz.ntmps244
 go_wp2
 go_ret2
 exact ⟨rfl,rfl⟩
theorem Rw (s:ByteArray) (hs:s.size≤9223372036854775807) (h0: 0 < s.size) (w:World):
 Calls Tryz.prog 244 #[.string s,.int .i64 16,.int .i64 16] w fun e w'=>nW (yl 16 65535 s) e∧Below w.heap.size w w':=by
 have kc:=fun W=>Lib.run_convert_string_bytes (P:=Tryz.prog) W 9 22 5 s Tryz.underlying9 Tryz.underlying22 Tryz.underlying5
 have hl:=bytesOf_length s
 have HL:=Lib.hid hl
 clear hl
 have hne:s.toList.isEmpty=false:=by
  rw [List.isEmpty_eq_false_iff];intro h
  rw [ByteArray.toList_eq] at h
  have h2:s.data.toList= []:=h;have h3:=jc s;rw [h2] at h3;simp at h3;omega
 go_enter Tryz.func244,Tryz.ntmps244
 go_wp2
 have q9:=Lib.hid (xY.made w 5 s)
 have HB0:=Lib.hid (vV (Below.refl w.heap.size w) (Nat.le_refl _) 5 s)
 have HG:=Lib.hid (rfl:vS 16 65535 ((bytesOf s).drop 0) 0=yl 16 65535 s)
 go_loopw [12,13,101] (fun us v i wr=>∃ (k:Nat) (n:Int),k≤s.size∧us= .bool false∧i= .int .i64 k∧v= .int .u64 n∧0≤n∧n≤65535∧Hid (vS 16 65535 ((bytesOf s).drop k) n=yl 16 65535 s)∧Hid (xY wr w.heap.size (bytesOf s))∧Hid (Below w.heap.size w wr)) (fun _ _ i _ =>s.size - (intOf i).toNat)
 case atStart=>exact ⟨0,0,Nat.zero_le _,rfl,rfl,rfl,az,az,HG,q9,HB0⟩
 case round=>
  obtain ⟨k,n,hk,rfl,rfl,rfl,hn0,hn1,HG,HR,HB⟩:=hrel
  clear q9 HB0
  by_cases hlt:k < s.size
  ·have hc:=(HR.out k zg).1
   obtain ⟨b0,b1⟩:=sO s k
   have HD:=Lib.hid (D6 s k hlt)
   generalize (bytesOf s).getD k 0=c at hc HD b0 b1
   have HG2:=Lib.hid (show vS 16 65535 (c :: (bytesOf s).drop (k + 1)) n=yl 16 65535 s from by rw [← HD.out];exact HG.out)
   clear HG HD
   by_cases h95:c=95
   ·subst h95
    go_wp2
    go_ret2
    exact ⟨nW.bad (by rw [← HG2.out];unfold vS;rw [if_pos (by decide +kernel)]) _ _ cF,HB.out⟩
   ·have axP:(c == 95)=false:=by simpa using h95
    clear h95
    by_cases hd: 48≤c∧c≤57
    ·obtain ⟨d1,d2⟩:=hd
     have HX:=Lib.hid (show yO c=c - 48 from by unfold yO;rw [if_pos ⟨d1,d2⟩])
     by_cases hm:n * 16 + (c - 48)≤65535
     ·go_wp2
      go_roundw
      case rel=>exact ⟨k + 1,n * 16 + (c - 48),az,rfl,by go_num,rfl,az,az,Lib.hid Gj,HR,HB⟩
      case measure=>simp [intOf];omega
     ·go_wp2
      go_ret2
      exact ⟨nW.bad Gk _ _ cF,HB.out⟩
    ·have l0:=(qK c).1
     have l1:=(qK c).2
     have hnd:∀ P Q R:Prop,True:=fun _ _ _ =>trivial
     clear hnd
     by_cases hl: 97≤ni c∧ni c≤122
     ·have HX:=Lib.hid (show yO c=ni c - 87 from by unfold yO;rw [if_neg hd,if_pos hl])
      obtain ⟨l2,l3⟩:=hl
      unfold ni at l0 l1 l2 l3 HX
      have hsplit:c < 48∨57 < c:=by omega
      clear hd
      rcases hsplit with hd|hd
      all_goals
       by_cases hb:bits .or .u8 c 32 - 87 < 16
       ·by_cases hm:n * 16 + (bits .or .u8 c 32 - 87)≤65535
        ·go_wp2
         go_roundw
         case rel=>exact ⟨k + 1,n * 16 + (bits .or .u8 c 32 - 87),az,rfl,by go_num,by go_num,az,az,Lib.hid Gj,HR,HB⟩
         case measure=>simp [intOf];omega
        ·go_wp2
         go_ret2
         exact ⟨nW.bad Gk _ _ cF,HB.out⟩
       ·go_wp2
        go_ret2
        exact ⟨nW.bad Gi _ _ cF,HB.out⟩
     ·have HX:=Lib.hid (show yO c=255 from by unfold yO;rw [if_neg hd,if_neg hl])
      unfold ni at l0 l1 hl
      have hsplit:c < 48∨57 < c:=by omega
      have Hg:bits .or .u8 c 32 < 97∨122 < bits .or .u8 c 32:=by omega
      clear hd hl
      rcases hsplit with hd|hd
      all_goals
       rcases Hg with hl|hl
       all_goals
        go_wp2
        go_ret2
        exact ⟨nW.bad Gi _ _ cF,HB.out⟩
  ·have HG2:=Lib.hid (show some n=yl 16 65535 s from by rw [← HG.out,List.drop_of_length_le (by rw [HL.out];omega)];rfl)
   go_wp2
   go_ret2
   exact ⟨nW.good n HG2.out.symm,HB.out⟩
end Go.Proofs.YtbjjaaodfbjkfaaGreatDoor
