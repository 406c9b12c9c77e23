import Derived.Test.YtokpnfljjjjikaaGreatDoorZo
import Derived.Test.YtokpnfljjjjikaaGreatDoorProg
import Derived.Test.YtokpnfljjjjikaaGreatDoorEBytes
import Derived.Test.YtokpnfljjjjikaaGreatDoorEStr
import Derived.Lib.Hide
namespace Go.Proofs.YtokpnfljjjjikaaGreatDoor
open Go.RowKit Go.Proofs.aj.bW Go.Proofs.aj.dz
def zM (a b d c:Int):Int:=if a≤c∧c≤b then wrap64 (c + d) % 256 else c
def gM.g (s:ByteArray) (a b d:Int):ByteArray:=strOfNums ((bytesOf s).map (zM a b d))
def gM.f (s:ByteArray) (a b d:Int):Option ByteArray:=if s.size≤9223372036854775807 then some (gM.g s a b d) else none
set_option maxRecDepth 100000 in
set_option maxHeartbeats 1000000 in
theorem gM.calls (s:ByteArray) (a b d:Int) (r:ByteArray) (w:World) (h:gM.f s a b d=some r):
 Calls Tryz.prog 140 #[.string s,.int .u8 a,.int .u8 b,.int .i64 d] w fun e w'=>e= .returned (.string r)∧Below w.heap.size w w':=by
 unfold gM.f at h
 by_cases hs:s.size≤9223372036854775807
 case neg=>rw [if_neg hs] at h;cases h
 rw [if_pos hs] at h
 obtain rfl:=Option.some.inj h
 clear h
 unfold gM.g
 obtain ⟨f,hfd⟩:∃ f,f=zM a b d:=⟨_,rfl⟩
 rw [← hfd]
 have HF:=Lib.hid hfd
 clear hfd
 have kc:=fun W=>Lib.run_convert_string_bytes (P:=Tryz.prog) W 9 23 5 s Tryz.underlying9 Tryz.underlying23 Tryz.underlying5
 have kd:=fun (W:World) (c:Nat) (h:jT W .u8 (some ⟨w.heap.size,0,none⟩) s.size ((bytesOf s).map f))=>oF (P:=Tryz.prog) (c:=c) Tryz.underlying23 Tryz.underlying5 Tryz.underlying9 h
 have hl:=bytesOf_length s
 have HL:=Lib.hid hl
 clear hl
 go_enter Tryz.func140,Tryz.ntmps140
 go_wp2
 have xO:=Lib.hid (jX.made w 5 s)
 have Bw:=Lib.hid (nA (Below.refl w.heap.size w) (Nat.le_refl _) 5 s)
 go_loopw [16] (fun v wr=>∃ k:Nat,k≤s.size∧v= .int .i64 k∧Hid (jX wr w.heap.size (rF f (bytesOf s) k))∧Hid (Below w.heap.size w wr)) (fun v _ =>s.size - (intOf v).toNat)
 case atStart=>exact ⟨0,Nat.zero_le _,rfl,Lib.hid (by rw [E1];exact xO.out),Bw⟩
 case round=>
  obtain ⟨k,hk,rfl,HR,HB⟩:=hrel
  by_cases hlt:k < s.size
  ·have hr:=HR.out k Dx
   rw [E2 _ _ _ pK] at hr
   obtain ⟨b0,b1⟩:=qA s k
   have HS:=Lib.hid (zi f (bytesOf s) k pK)
   have HK:=Lib.hid (E3 f (bytesOf s) k pK)
   have HW:=Lib.hid (fun x=>HR.out.set k Dx x)
   have HC:=Lib.hid hr
   clear hr
   generalize (bytesOf s).getD k 0=c at HC HS HK b0 b1
   obtain ⟨hc,hf⟩:=HC.out
   have HT:=Lib.hid (show f c=zM a b d c by rw [HF.out])
   by_cases h1:a≤c
   ·by_cases h2:c≤b
    ·have HV:=Lib.hid (show f c=wrap64 (c + d) % 256 by rw [HT.out];unfold zM;rw [if_pos ⟨h1,h2⟩])
     go_wp2
     go_roundw
     case rel=>exact ⟨k + 1,aq,kE,Lib.hid (by rw [HS.out,HV.out];exact HW.out _),Lib.hid (HB.out.setCell (Nat.le_refl _) _)⟩
     case measure=>simp [intOf];omega
    ·go_wp2
     go_roundw
     case rel=>exact ⟨k + 1,aq,kE,Lib.hid PY,HB⟩
     case measure=>simp [intOf];omega
   ·go_wp2
    go_roundw
    case rel=>exact ⟨k + 1,aq,kE,Lib.hid PY,HB⟩
    case measure=>simp [intOf];omega
  ·have hkd:=fun c=>kd wr c (by
    have:=HR.out
    rw [GS _ _ _ uD] at this
    have h3:=this.reads (by rw [List.length_map,HL.out];exact hs)
    rw [List.length_map,HL.out] at h3
    exact h3)
   clear kd
   go_wp2
   go_ret
   exact ⟨rfl,HB.out⟩
def zj (c:Int):Bool:=decide (c < 32) || decide (126 < c)
def gY.f (s:ByteArray):Option Bool:=if s.size≤9223372036854775807 then some (!s.toList.isEmpty && !(bytesOf s).any zj) else none
theorem abL (c:Int) (w:World):Calls Tryz.prog 143 #[.int .u8 c] w fun e w'=>e= .returned (.bool (zj c))∧w'=w:=by
 by_cases h1:c < 32
 ·go_enter Tryz.func143,Tryz.ntmps143
  go_wp2
  go_ret
  exact ⟨by simp [zj,h1],rfl⟩
 ·by_cases h2: 126 < c
  ·go_enter Tryz.func143,Tryz.ntmps143
   go_wp2
   go_ret
   exact ⟨by simp [zj,h2],rfl⟩
  ·go_enter Tryz.func143,Tryz.ntmps143
   go_wp2
   go_ret
   exact ⟨by simp [zj,h1,h2],rfl⟩
theorem SR (xs:List Int) (k:Nat) (hk:k < xs.length) (h:(xs.take k).any zj=false):(xs.take (k + 1)).any zj=zj (xs.getD k 0):=by
 have e:xs.take (k + 1)=xs.take k ++ [xs[k]]:=List.take_succ_eq_append_getElem hk
 rw [e,List.any_append,h,List.getD_eq_getElem?_getD,List.getElem?_eq_getElem hk]
 simp
set_option maxRecDepth 100000 in
set_option maxHeartbeats 1000000 in
theorem N8 (xs:List Int) (g c:Nat) (w:World) (hR:jX w g xs) (hn:xs.length≤9223372036854775807):
 Calls Tryz.prog 176 #[.slice (some ⟨g,0,none⟩) xs.length c,.func (.func 143) #[] #[]] w fun e w'=>(∃ r:Int,e= .returned (.int .i64 r)∧decide (0≤r)=xs.any zj)∧Below w.heap.size w w':=by
 have HR:=Lib.hid hR
 clear hR
 go_enter Tryz.func176,Tryz.ntmps176
 go_wp2
 go_loopw [8] (fun i wr=>∃ k:Nat,k≤xs.length∧i= .int .i64 k∧Hid ((xs.take k).any zj=false)∧Hid (Below w.heap.size w wr)∧Hid (jX wr g xs)) (fun i _ =>xs.length - (intOf i).toNat)
 case atStart=>exact ⟨0,Nat.zero_le _,rfl,Lib.hid bn,Lib.hid (Below.refl _ _),HR⟩
 case round=>
  clear HR
  obtain ⟨k,hk,rfl,HP,HB,HR⟩:=hrel
  by_cases hlt:k < xs.length
  ·obtain ⟨hc1,hf1⟩:=HR.out k hlt
   have HT:=Lib.hid (SR xs k hlt HP.out)
   have HM:=Lib.hid (fun hb:zj (xs.getD k 0)=true=>(show xs.any zj=true from List.any_eq_true.mpr ⟨xs.getD k 0,by rw [List.getD_eq_getElem?_getD,List.getElem?_eq_getElem hlt];exact List.getElem_mem hlt,hb⟩))
   generalize xs.getD k 0=x at hc1 HT HM
   have HC:=Lib.hid (abL x)
   cases hb:zj x with
   |true=>
    rw [hb] at HC
    go_wp2_with (go_at_call 143;refine (HC.out _).mono ?_;rintro e w1 ⟨rfl,rfl⟩)
    go_ret
    exact ⟨⟨_,rfl,by rw [HM.out hb];simp⟩,HB.out⟩
   |false=>
    rw [hb] at HC
    go_wp2_with (go_at_call 143;refine (HC.out _).mono ?_;rintro e w1 ⟨rfl,rfl⟩)
    go_roundw
    case rel=>exact ⟨k + 1,aq,kE,Lib.hid (by rw [HT.out,hb]),HB,HR⟩
    case measure=>simp [intOf];omega
  ·have HZ:=Lib.hid (show xs.any zj=false by rw [← List.take_of_length_le (l:=xs) (i:=k) aq];exact HP.out)
   go_wp2
   go_ret
   exact ⟨⟨_,rfl,by rw [HZ.out];rfl⟩,HB.out⟩
set_option maxRecDepth 100000 in
set_option maxHeartbeats 1000000 in
theorem gY.calls (s:ByteArray) (r:Bool) (w:World) (h:gY.f s=some r):
 Calls Tryz.prog 97 #[.string s] w fun e w'=>e= .returned (.bool r)∧Below w.heap.size w w':=by
 unfold gY.f at h
 by_cases hs:s.size≤9223372036854775807
 case neg=>rw [if_neg hs] at h;cases h
 rw [if_pos hs] at h
 obtain rfl:=Option.some.inj h
 clear h
 by_cases h0:s=⟨#[]⟩
 ·subst h0
  clear hs
  go_enter Tryz.func97,Tryz.ntmps97
  go_wp2
  go_ret
  exact ⟨by rw [show (⟨#[]⟩:ByteArray).toList= [] from ByteArray.toList_eq ..];rfl,Below.refl _ _⟩
 ·have hne:s.toList.isEmpty=false:=by
   rw [List.isEmpty_eq_false_iff];intro h
   rw [ByteArray.toList_eq] at h
   exact h0 (by obtain ⟨⟨l⟩⟩:=s;simp at h;rw [h])
  have HNE:=Lib.hid hne
  rw [hne]
  clear hne
  have kc:=fun W=>Lib.run_convert_string_bytes (P:=Tryz.prog) W 9 23 5 s Tryz.underlying9 Tryz.underlying23 Tryz.underlying5
  have hl:=bytesOf_length s
  have HC:=Lib.hid (fun (c:Nat)=>N8 (bytesOf s) w.heap.size c (Lib.bytesWorld w 5 s) (jX.made w 5 s) (by rw [hl];exact hs))
  rw [hl] at HC
  have Bw:=Lib.hid (nA (Below.refl w.heap.size w) (Nat.le_refl _) 5 s)
  clear hl hs
  generalize hb:(bytesOf s).any zj=b at HC
  clear hb
  go_enter Tryz.func97,Tryz.ntmps97
  go_wp2_with (first|(go_at_call 142;go_in)|(go_at_call 176;refine (HC.out _).mono ?_;rintro e w1 ⟨⟨r,rfl,hr⟩,hb1⟩;have HRR:=Lib.hid hr;have sM:=Lib.hid hb1;clear hr hb1))
  ·rename_i h1
   exact absurd HNE.out (by rw [h1];decide)
  ·go_ret
   exact ⟨by rw [← HRR.out,← HNE.out];rfl,bq Bw.out Bw.out.size sM.out⟩
def SS (s:ByteArray):List ByteArray→Nat→Int
 | [],_ =>0
 |x :: xs,i=>if 0 < i∧x=s then (i:Int) else SS s xs (i + 1)
def cE.f (s:ByteArray):Option Int:=some (SS s kU 0)
set_option maxRecDepth 100000 in
set_option maxHeartbeats 1000000 in
theorem cE.calls (s:ByteArray) (r:Int) (w:World) (hG:aT w) (h:cE.f s=some r):
 Calls Tryz.prog 92 #[.string s] w fun e w'=>e= .returned (.int .u8 r)∧Below w.heap.size w w':=by
 obtain ⟨b,o,c,hw,hx⟩:=hG.words
 have HR:=Lib.hid (Option.some.inj h)
 have HX:=Lib.hid hx
 have HL:=Lib.hid (show kU.length=12 from rfl)
 clear hG h hx
 go_enter Tryz.func92,Tryz.ntmps92
 go_wp2
 go_loopw [7] (fun i wr=>∃ k:Nat,k≤12∧i= .int .i64 k∧Hid (SS s (kU.drop k) k=r)∧wr=w) (fun i _ =>12 - (intOf i).toNat)
 case atStart=>exact ⟨0,Nat.zero_le _,rfl,HR,rfl⟩
 case round=>
  obtain ⟨k,hk,rfl,HP,rfl⟩:=hrel
  by_cases hlt:k < 12
  ·obtain ⟨x,hx⟩:∃ x,kU[k]? =some x:=⟨kU[k]'pK,List.getElem?_eq_getElem _⟩
   have hc:=HX.out k x hx
   have HD:=Lib.hid (show (if 0 < k∧x=s then (k:Int) else SS s (kU.drop (k + 1)) (k + 1))=r by
    have h1:kU.drop k=x :: kU.drop (k + 1):=by
     have h2:k < kU.length:=by rw [HL.out];exact hlt
     rw [List.drop_eq_getElem_cons h2]
     rw [List.getElem?_eq_getElem h2] at hx
     rw [Option.some.inj hx]
    have h3:=HP.out
    rw [h1] at h3
    exact h3)
   clear hx
   by_cases h0: 0 < k
   ·by_cases he:x=s
    ·have HV:=Lib.hid (show (k:Int)=r by rw [← HD.out,if_pos ⟨h0,he⟩])
     clear HD HP
     subst he
     go_wp2
     go_ret
     exact ⟨by rw [← HV.out];go_num,Below.refl _ _⟩
    ·have HV:=Lib.hid (show SS s (kU.drop (k + 1)) (k + 1)=r by rw [← HD.out,if_neg (fun h=>he h.2)])
     have hee:(x.toList == s.toList)=false:=by
      rw [beq_eq_false_iff_ne,ByteArray.toList_eq,ByteArray.toList_eq]
      intro h
      exact he (by obtain ⟨⟨l⟩⟩:=x;obtain ⟨⟨l2⟩⟩:=s;simp at h;rw [h])
     clear HD HP
     go_wp2
     go_roundw
     case rel=>exact ⟨k + 1,aq,kE,HV,by trivial⟩
     case measure=>simp [intOf];omega
   ·have HV:=Lib.hid (show SS s (kU.drop (k + 1)) (k + 1)=r by rw [← HD.out,if_neg (fun h=>h0 h.1)])
    clear HD HP
    go_wp2
    go_roundw
    case rel=>exact ⟨k + 1,aq,kE,HV,by trivial⟩
    case measure=>simp [intOf];omega
  ·have HV:=Lib.hid (show (0:Int)=r by
    have h3:=HP.out
    rw [List.drop_of_length_le uD] at h3
    exact h3)
   go_wp2
   go_ret
   exact ⟨by rw [← HV.out];rfl,Below.refl _ _⟩
def fy.f (v:Int):Option ByteArray:=if 0≤v∧v < 256 then some (if v < 12 then kU.getD v.toNat ⟨#[]⟩ else ⟨#[]⟩) else none
set_option maxRecDepth 100000 in
set_option maxHeartbeats 1000000 in
theorem fy.calls (a0:Int) (r:ByteArray) (w:World) (hG:aT w) (h:fy.f a0=some r):
 Calls Tryz.prog 38 #[.int .u8 a0] w fun e w'=>e= .returned (.string r)∧Below w.heap.size w w':=by
 unfold fy.f at h
 by_cases ha: 0≤a0∧a0 < 256
 case neg=>rw [if_neg ha] at h;cases h
 rw [if_pos ha] at h
 obtain ⟨ha1,ha2⟩:=ha
 obtain ⟨v,rfl⟩:∃ v:Nat,a0=v:=⟨a0.toNat,aq⟩
 obtain ⟨b,o,c,hw,hx⟩:=hG.words
 clear hG
 have hwr:wrap64 (v:Int)=v:=by unfold wrap64;omega
 by_cases h12:(v:Int) < 12
 ·rw [if_pos h12] at h
  obtain ⟨x,hxx⟩:∃ x,kU[v]? =some x:=⟨_,List.getElem?_eq_getElem (show v < kU.length from by rw [show kU.length=12 from rfl];omega)⟩
  have hc:=hx v x hxx
  have hr:x=r:=by
   have h1:=Option.some.inj h
   rw [← h1,List.getD_eq_getElem?_getD,show ((v:Int)).toNat=v from by omega,hxx]
   rfl
  subst hr
  clear h hx hxx
  have e1:decide ((v:Int) < 12)=true:=decide_eq_true h12
  go_enter Tryz.func38,Tryz.ntmps38
  go_wp2
  go_ret
  exact ⟨rfl,Below.refl _ _⟩
 ·rw [if_neg h12] at h
  obtain rfl:=Option.some.inj h
  clear h hx
  have e1:decide ((v:Int) < 12)=false:=decide_eq_false h12
  go_enter Tryz.func38,Tryz.ntmps38
  go_wp2
  go_ret
  exact ⟨rfl,Below.refl _ _⟩
end Go.Proofs.YtokpnfljjjjikaaGreatDoor
