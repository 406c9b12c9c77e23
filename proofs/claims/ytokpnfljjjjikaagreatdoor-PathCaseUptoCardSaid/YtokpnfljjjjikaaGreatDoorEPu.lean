import Derived.Test.YtokpnfljjjjikaaGreatDoorZo
import Derived.Test.YtokpnfljjjjikaaGreatDoorEBytes
import Derived.Lib.Hide
set_option maxHeartbeats 4000000
set_option maxRecDepth 100000
namespace Go.Proofs.YtokpnfljjjjikaaGreatDoor
open Go.RowKit Go.Proofs.aj.bw Go.Proofs.aj.cj
def jB (c:Int):Int:=Go.bits .or .u8 c 32
theorem mg (c:Int): 0≤jB c∧jB c≤255:=by
 unfold jB
 exact ⟨bits_lo_u8 _ _ _,bits_hi_u8 _ _ _⟩
def lV (c:Int):Int:=if 48≤c∧c≤57 then c - 48 else if 97≤jB c∧jB c≤122 then jB c - 87 else 255
def mQ (base most:Int):List Int→Int→Option Int
 | [],n=>some n
 |c :: cs,n=>if lV c≥base then none else if n * base + lV c > most then none else mQ base most cs (n * base + lV c)
def qy (base most:Int) (s:ByteArray):Option Int:=mQ base most (bytesOf s) 0
def pu (base most:Int) (s:ByteArray):Option Int:=if s.size=0 then none else mQ base most (bytesOf s) 0
def j6 (o:Option Int) (e:Ending):Prop:=
 (∃ n,o=some n∧e= .returned (.tuple #[.int .u64 n,.nilIface]))∨(o=none∧∃ n c:Int,(c=1∨c=2)∧e= .returned (.tuple #[.int .u64 n,.iface 162 (.int .i64 c)]))
theorem j6.bad {o:Option Int} (h:o=none) (n c:Int) (hc:c=1∨c=2):j6 o (.returned (.tuple #[.int .u64 n,.iface 162 (.int .i64 c)])):= .inr ⟨h,n,c,hc,rfl⟩
theorem j6.good {o:Option Int} (n:Int) (h:o=some n):j6 o (.returned (.tuple #[.int .u64 n,.nilIface])):= .inl ⟨n,h,rfl⟩
theorem vw (s:ByteArray) (k:Nat) (h:k < s.size):(bytesOf s).drop k=(bytesOf s).getD k 0 :: (bytesOf s).drop (k + 1):=by
 have h':k < (bytesOf s).length:=by rw [bytesOf_length];exact h
 rw [List.drop_eq_getElem_cons h',List.getD_eq_getElem?_getD,List.getElem?_eq_getElem h']
 rfl
theorem CT (w:World):Calls Tryz.prog 131 #[.string ⟨#[]⟩,.int .i64 10,.int .i64 8] w fun e w'=>e= .returned (.tuple #[.int .u64 0,.iface 162 (.int .i64 2)])∧w=w':=by
 go_enter Tryz.func131,Tryz.ntmps131
 go_wp2
 go_ret2
 exact ⟨rfl,rfl⟩
theorem Gw (s:ByteArray) (hs:s.size≤9223372036854775807) (h0: 0 < s.size) (w:World):
 Calls Tryz.prog 131 #[.string s,.int .i64 10,.int .i64 8] w fun e w'=>j6 (qy 10 255 s) e∧Below w.heap.size w w':=by
 have kc:=fun W=>Lib.run_convert_string_bytes (P:=Tryz.prog) W 9 23 5 s Tryz.underlying9 Tryz.underlying23 Tryz.underlying5
 have hl:=bytesOf_length s
 have HL:=Lib.hid hl
 clear hl
 have hne:s.toList.isEmpty=false:=by
  rw [List.isEmpty_eq_false_iff];intro h
  rw [ByteArray.toList_eq] at h
  have h2:s.data.toList= []:=h;have h3:=dz s;rw [h2] at h3;simp at h3;omega
 go_enter Tryz.func131,Tryz.ntmps131
 go_wp2
 have rE:=Lib.hid (gK.made w 5 s)
 have Ho:=Lib.hid (j3 (Below.refl w.heap.size w) (Nat.le_refl _) 5 s)
 have HG:=Lib.hid (rfl:mQ 10 255 ((bytesOf s).drop 0) 0=qy 10 255 s)
 go_loopw [12,13,101] (fun us v i wr=>∃ (k:Nat) (n:Int),k≤s.size∧us= .bool false∧i= .int .i64 k∧v= .int .u64 n∧0≤n∧n≤255∧Hid (mQ 10 255 ((bytesOf s).drop k) n=qy 10 255 s)∧Hid (gK wr w.heap.size (bytesOf s))∧Hid (Below w.heap.size w wr)) (fun _ _ i _ =>s.size - (intOf i).toNat)
 case atStart=>exact ⟨0,0,Nat.zero_le _,rfl,rfl,rfl,ak,ak,HG,rE,Ho⟩
 case round=>
  obtain ⟨k,n,hk,rfl,rfl,rfl,hn0,hn1,HG,HR,HB⟩:=hrel
  clear rE Ho
  by_cases hlt:k < s.size
  ·have hc:=(HR.out k ou).1
   obtain ⟨b0,b1⟩:=jG s k
   have HD:=Lib.hid (vw s k hlt)
   generalize (bytesOf s).getD k 0=c at hc HD b0 b1
   have HG2:=Lib.hid (show mQ 10 255 (c :: (bytesOf s).drop (k + 1)) n=qy 10 255 s from by rw [← HD.out];exact HG.out)
   clear HG HD
   by_cases Oz:c=95
   ·subst Oz
    go_wp2
    go_ret2
    exact ⟨j6.bad (by rw [← HG2.out];unfold mQ;rw [if_pos ey]) _ _ bB,HB.out⟩
   ·have aam:(c == 95)=false:=by simpa using Oz
    clear Oz
    by_cases hd: 48≤c∧c≤57
    ·obtain ⟨d1,d2⟩:=hd
     have HX:=Lib.hid (show lV c=c - 48 from by unfold lV;rw [if_pos ⟨d1,d2⟩])
     by_cases hm:n * 10 + (c - 48)≤255
     ·go_wp2
      go_roundw
      case rel=>exact ⟨k + 1,n * 10 + (c - 48),ak,rfl,jl,rfl,ak,ak,Lib.hid za,HR,HB⟩
      case measure=>simp [intOf];omega
     ·go_wp2
      go_ret2
      exact ⟨j6.bad zb _ _ bB,HB.out⟩
    ·have l0:=(mg c).1
     have l1:=(mg c).2
     have hnd:∀ P Q R:Prop,True:=fun _ _ _ =>trivial
     clear hnd
     by_cases hl: 97≤jB c∧jB c≤122
     ·have HX:=Lib.hid (show lV c=jB c - 87 from by unfold lV;rw [if_neg hd,if_pos hl])
      obtain ⟨l2,l3⟩:=hl
      unfold jB at l0 l1 l2 l3 HX
      have hsplit:c < 48∨57 < c:=by omega
      clear hd
      rcases hsplit with hd|hd
      all_goals
       have hb: ¬ (bits .or .u8 c 32 - 87 < 10):=by omega
       go_wp2
       go_ret2
       exact ⟨j6.bad yZ _ _ bB,HB.out⟩
     ·have HX:=Lib.hid (show lV c=255 from by unfold lV;rw [if_neg hd,if_neg hl])
      unfold jB at l0 l1 hl
      have hsplit:c < 48∨57 < c:=by omega
      have zq:bits .or .u8 c 32 < 97∨122 < bits .or .u8 c 32:=by omega
      clear hd hl
      rcases hsplit with hd|hd
      all_goals
       rcases zq with hl|hl
       all_goals
        go_wp2
        go_ret2
        exact ⟨j6.bad yZ _ _ bB,HB.out⟩
  ·have HG2:=Lib.hid (show some n=qy 10 255 s from by rw [← HG.out,List.drop_of_length_le pU];rfl)
   go_wp2
   go_ret2
   exact ⟨j6.good n HG2.out.symm,HB.out⟩
theorem CU (w:World):Calls Tryz.prog 131 #[.string ⟨#[]⟩,.int .i64 16,.int .i64 16] w fun e w'=>e= .returned (.tuple #[.int .u64 0,.iface 162 (.int .i64 2)])∧w=w':=by
 go_enter Tryz.func131,Tryz.ntmps131
 go_wp2
 go_ret2
 exact ⟨rfl,rfl⟩
theorem Gx (s:ByteArray) (hs:s.size≤9223372036854775807) (h0: 0 < s.size) (w:World):
 Calls Tryz.prog 131 #[.string s,.int .i64 16,.int .i64 16] w fun e w'=>j6 (qy 16 65535 s) e∧Below w.heap.size w w':=by
 have kc:=fun W=>Lib.run_convert_string_bytes (P:=Tryz.prog) W 9 23 5 s Tryz.underlying9 Tryz.underlying23 Tryz.underlying5
 have hl:=bytesOf_length s
 have HL:=Lib.hid hl
 clear hl
 have hne:s.toList.isEmpty=false:=by
  rw [List.isEmpty_eq_false_iff];intro h
  rw [ByteArray.toList_eq] at h
  have h2:s.data.toList= []:=h;have h3:=dz s;rw [h2] at h3;simp at h3;omega
 go_enter Tryz.func131,Tryz.ntmps131
 go_wp2
 have rE:=Lib.hid (gK.made w 5 s)
 have Ho:=Lib.hid (j3 (Below.refl w.heap.size w) (Nat.le_refl _) 5 s)
 have HG:=Lib.hid (rfl:mQ 16 65535 ((bytesOf s).drop 0) 0=qy 16 65535 s)
 go_loopw [12,13,101] (fun us v i wr=>∃ (k:Nat) (n:Int),k≤s.size∧us= .bool false∧i= .int .i64 k∧v= .int .u64 n∧0≤n∧n≤65535∧Hid (mQ 16 65535 ((bytesOf s).drop k) n=qy 16 65535 s)∧Hid (gK wr w.heap.size (bytesOf s))∧Hid (Below w.heap.size w wr)) (fun _ _ i _ =>s.size - (intOf i).toNat)
 case atStart=>exact ⟨0,0,Nat.zero_le _,rfl,rfl,rfl,ak,ak,HG,rE,Ho⟩
 case round=>
  obtain ⟨k,n,hk,rfl,rfl,rfl,hn0,hn1,HG,HR,HB⟩:=hrel
  clear rE Ho
  by_cases hlt:k < s.size
  ·have hc:=(HR.out k ou).1
   obtain ⟨b0,b1⟩:=jG s k
   have HD:=Lib.hid (vw s k hlt)
   generalize (bytesOf s).getD k 0=c at hc HD b0 b1
   have HG2:=Lib.hid (show mQ 16 65535 (c :: (bytesOf s).drop (k + 1)) n=qy 16 65535 s from by rw [← HD.out];exact HG.out)
   clear HG HD
   by_cases Oz:c=95
   ·subst Oz
    go_wp2
    go_ret2
    exact ⟨j6.bad (by rw [← HG2.out];unfold mQ;rw [if_pos ey]) _ _ bB,HB.out⟩
   ·have aam:(c == 95)=false:=by simpa using Oz
    clear Oz
    by_cases hd: 48≤c∧c≤57
    ·obtain ⟨d1,d2⟩:=hd
     have HX:=Lib.hid (show lV c=c - 48 from by unfold lV;rw [if_pos ⟨d1,d2⟩])
     by_cases hm:n * 16 + (c - 48)≤65535
     ·go_wp2
      go_roundw
      case rel=>exact ⟨k + 1,n * 16 + (c - 48),ak,rfl,jl,rfl,ak,ak,Lib.hid za,HR,HB⟩
      case measure=>simp [intOf];omega
     ·go_wp2
      go_ret2
      exact ⟨j6.bad zb _ _ bB,HB.out⟩
    ·have l0:=(mg c).1
     have l1:=(mg c).2
     have hnd:∀ P Q R:Prop,True:=fun _ _ _ =>trivial
     clear hnd
     by_cases hl: 97≤jB c∧jB c≤122
     ·have HX:=Lib.hid (show lV c=jB c - 87 from by unfold lV;rw [if_neg hd,if_pos hl])
      obtain ⟨l2,l3⟩:=hl
      unfold jB at l0 l1 l2 l3 HX
      have hsplit:c < 48∨57 < c:=by omega
      clear hd
      rcases hsplit with hd|hd
      all_goals
       by_cases hb:bits .or .u8 c 32 - 87 < 16
       ·by_cases hm:n * 16 + (bits .or .u8 c 32 - 87)≤65535
        ·go_wp2
         go_roundw
         case rel=>exact ⟨k + 1,n * 16 + (bits .or .u8 c 32 - 87),ak,rfl,jl,jl,ak,ak,Lib.hid za,HR,HB⟩
         case measure=>simp [intOf];omega
        ·go_wp2
         go_ret2
         exact ⟨j6.bad zb _ _ bB,HB.out⟩
       ·go_wp2
        go_ret2
        exact ⟨j6.bad yZ _ _ bB,HB.out⟩
     ·have HX:=Lib.hid (show lV c=255 from by unfold lV;rw [if_neg hd,if_neg hl])
      unfold jB at l0 l1 hl
      have hsplit:c < 48∨57 < c:=by omega
      have zq:bits .or .u8 c 32 < 97∨122 < bits .or .u8 c 32:=by omega
      clear hd hl
      rcases hsplit with hd|hd
      all_goals
       rcases zq with hl|hl
       all_goals
        go_wp2
        go_ret2
        exact ⟨j6.bad yZ _ _ bB,HB.out⟩
  ·have HG2:=Lib.hid (show some n=qy 16 65535 s from by rw [← HG.out,List.drop_of_length_le pU];rfl)
   go_wp2
   go_ret2
   exact ⟨j6.good n HG2.out.symm,HB.out⟩
end Go.Proofs.YtokpnfljjjjikaaGreatDoor
