import Derived.Test.YtokpnfljjjjikaaGreatDoorEBytes
import Derived.Test.YtokpnfljjjjikaaGreatDoorEStr
set_option maxHeartbeats 1000000
set_option maxRecDepth 100000
namespace Go.Proofs.YtokpnfljjjjikaaGreatDoor
open Go.RowKit Go.Proofs.aj.bQ Go.Proofs.aj.cM
def zU (a b d c:Int):Int:=if a≤c∧c≤b then wrap64 (c + d) % 256 else c
def gB.g (s:ByteArray) (a b d:Int):ByteArray:=strOfNums ((bytesOf s).map (zU a b d))
def gB.f (s:ByteArray) (a b d:Int):Option ByteArray:=if s.size≤9223372036854775807 then some (gB.g s a b d) else none
theorem gB.calls (s:ByteArray) (a b d:Int) (r:ByteArray) (w:World) (h:gB.f s a b d=some r):
 Calls Tryz.prog 140 #[.string s,.int .u8 a,.int .u8 b,.int .i64 d] w fun e w'=>e= .returned (.string r)∧Below w.heap.size w w':=by
 unfold gB.f at h
 by_cases hs:s.size≤9223372036854775807
 case neg=>rw [if_neg hs] at h;cases h
 rw [if_pos hs] at h
 obtain rfl:=Option.some.inj h
 clear h
 unfold gB.g
 obtain ⟨f,hfd⟩:∃ f,f=zU a b d:=⟨_,rfl⟩
 rw [← hfd]
 have HF:=Lib.hid hfd
 clear hfd
 have kc:=fun W=>Lib.run_convert_string_bytes (P:=Tryz.prog) W 9 23 5 s Tryz.underlying9 Tryz.underlying23 Tryz.underlying5
 have kd:=fun (W:World) (c:Nat) (h:jM W .u8 (some ⟨w.heap.size,0,none⟩) s.size ((bytesOf s).map f))=>oo (P:=Tryz.prog) (c:=c) Tryz.underlying23 Tryz.underlying5 Tryz.underlying9 h
 have hl:=bytesOf_length s
 have HL:=Lib.hid hl
 clear hl
 go_enter Tryz.func140,Tryz.ntmps140
 go_wp2
 have xG:=Lib.hid (jQ.made w 5 s)
 have BF:=Lib.hid (mU (Below.refl w.heap.size w) (Nat.le_refl _) 5 s)
 go_loopw [16] (fun v wr=>∃ k:Nat,k≤s.size∧v= .int .i64 k∧Hid (jQ wr w.heap.size (ry f (bytesOf s) k))∧Hid (Below w.heap.size w wr)) (fun v _ =>s.size - (intOf v).toNat)
 case atStart=>exact ⟨0,Nat.zero_le _,rfl,Lib.hid (by rw [EX];exact xG.out),BF⟩
 case round=>
  obtain ⟨k,hk,rfl,HR,HB⟩:=hrel
  by_cases hlt:k < s.size
  ·have hr:=HR.out k DD
   rw [EY _ _ _ oX] at hr
   obtain ⟨b0,b1⟩:=qh s k
   have HS:=Lib.hid (zn f (bytesOf s) k oX)
   have HK:=Lib.hid (EZ f (bytesOf s) k oX)
   have HW:=Lib.hid (fun x=>HR.out.set k DD x)
   have HC:=Lib.hid hr
   clear hr
   generalize (bytesOf s).getD k 0=c at HC HS HK b0 b1
   obtain ⟨hc,hf⟩:=HC.out
   have HT:=Lib.hid (show f c=zU a b d c by rw [HF.out])
   by_cases h1:a≤c
   ·by_cases h2:c≤b
    ·have HV:=Lib.hid (show f c=wrap64 (c + d) % 256 by rw [HT.out];unfold zU;rw [if_pos ⟨h1,h2⟩])
     go_wp2
     go_roundw
     case rel=>exact ⟨k + 1,aq,j3,Lib.hid (by rw [HS.out,HV.out];exact HW.out _),Lib.hid (HB.out.setCell (Nat.le_refl _) _)⟩
     case measure=>simp [intOf];omega
    ·go_wp2
     go_roundw
     case rel=>exact ⟨k + 1,aq,j3,Lib.hid P8,HB⟩
     case measure=>simp [intOf];omega
   ·go_wp2
    go_roundw
    case rel=>exact ⟨k + 1,aq,j3,Lib.hid P8,HB⟩
    case measure=>simp [intOf];omega
  ·have hkd:=fun c=>kd wr c (by
    have:=HR.out
    rw [GI _ _ _ uB] at this
    have h3:=this.reads (by rw [List.length_map,HL.out];exact hs)
    rw [List.length_map,HL.out] at h3
    exact h3)
   clear kd
   go_wp2
   go_ret
   exact ⟨rfl,HB.out⟩
def zx (c:Int):Bool:=decide (c < 32) || decide (126 < c)
def fP.f (s:ByteArray):Option Bool:=if s.size≤9223372036854775807 then some (!s.toList.isEmpty && !(bytesOf s).any zx) else none
theorem aaQ (c:Int) (w:World):Calls Tryz.prog 143 #[.int .u8 c] w fun e w'=>e= .returned (.bool (zx c))∧w'=w:=by
 by_cases h1:c < 32
 ·go_enter Tryz.func143,Tryz.ntmps143
  go_wp2
  go_ret
  exact ⟨by simp [zx,h1],rfl⟩
 ·by_cases h2: 126 < c
  ·go_enter Tryz.func143,Tryz.ntmps143
   go_wp2
   go_ret
   exact ⟨by simp [zx,h2],rfl⟩
  ·go_enter Tryz.func143,Tryz.ntmps143
   go_wp2
   go_ret
   exact ⟨by simp [zx,h1,h2],rfl⟩
theorem SK (xs:List Int) (k:Nat) (hk:k < xs.length) (h:(xs.take k).any zx=false):(xs.take (k + 1)).any zx=zx (xs.getD k 0):=by
 have e:xs.take (k + 1)=xs.take k ++ [xs[k]]:=List.take_succ_eq_append_getElem hk
 rw [e,List.any_append,h,List.getD_eq_getElem?_getD,List.getElem?_eq_getElem hk]
 simp
theorem Ou (xs:List Int) (g c:Nat) (w:World) (hR:jQ w g xs) (hn:xs.length≤9223372036854775807):
 Calls Tryz.prog 176 #[.slice (some ⟨g,0,none⟩) xs.length c,.func (.func 143) #[] #[]] w fun e w'=>(∃ r:Int,e= .returned (.int .i64 r)∧decide (0≤r)=xs.any zx)∧Below w.heap.size w w':=by
 have HR:=Lib.hid hR
 clear hR
 go_enter Tryz.func176,Tryz.ntmps176
 go_wp2
 go_loopw [8] (fun i wr=>∃ k:Nat,k≤xs.length∧i= .int .i64 k∧Hid ((xs.take k).any zx=false)∧Hid (Below w.heap.size w wr)∧Hid (jQ wr g xs)) (fun i _ =>xs.length - (intOf i).toNat)
 case atStart=>exact ⟨0,Nat.zero_le _,rfl,Lib.hid aV,Lib.hid (Below.refl _ _),HR⟩
 case round=>
  clear HR
  obtain ⟨k,hk,rfl,HP,HB,HR⟩:=hrel
  by_cases hlt:k < xs.length
  ·obtain ⟨hc1,hf1⟩:=HR.out k hlt
   have HT:=Lib.hid (SK xs k hlt HP.out)
   have HM:=Lib.hid (fun hb:zx (xs.getD k 0)=true=>(show xs.any zx=true from List.any_eq_true.mpr ⟨xs.getD k 0,by rw [List.getD_eq_getElem?_getD,List.getElem?_eq_getElem hlt];exact List.getElem_mem hlt,hb⟩))
   generalize xs.getD k 0=x at hc1 HT HM
   have HC:=Lib.hid (aaQ x)
   cases hb:zx x with
   |true=>
    rw [hb] at HC
    go_wp2_with (go_at_call 143;refine (HC.out _).mono ?_;rintro e w1 ⟨rfl,rfl⟩)
    go_ret
    exact ⟨⟨_,rfl,by rw [HM.out hb];simp⟩,HB.out⟩
   |false=>
    rw [hb] at HC
    go_wp2_with (go_at_call 143;refine (HC.out _).mono ?_;rintro e w1 ⟨rfl,rfl⟩)
    go_roundw
    case rel=>exact ⟨k + 1,aq,j3,Lib.hid (by rw [HT.out,hb]),HB,HR⟩
    case measure=>simp [intOf];omega
  ·have HZ:=Lib.hid (show xs.any zx=false by rw [← List.take_of_length_le (l:=xs) (i:=k) aq];exact HP.out)
   go_wp2
   go_ret
   exact ⟨⟨_,rfl,by rw [HZ.out];rfl⟩,HB.out⟩
theorem fP.calls (s:ByteArray) (r:Bool) (w:World) (h:fP.f s=some r):
 Calls Tryz.prog 97 #[.string s] w fun e w'=>e= .returned (.bool r)∧Below w.heap.size w w':=by
 unfold fP.f at h
 by_cases hs:s.size≤9223372036854775807
 case neg=>rw [if_neg hs] at h;cases h
 rw [if_pos hs] at h
 obtain rfl:=Option.some.inj h
 clear h
 by_cases h0:s=⟨#[]⟩
 ·subst h0
  clear hs
  go_enter Tryz.func97,Tryz.ntmps97
  go_wp2
  go_ret
  exact ⟨by rw [show (⟨#[]⟩:ByteArray).toList= [] from ByteArray.toList_eq ..];rfl,Below.refl _ _⟩
 ·have hne:s.toList.isEmpty=false:=by
   rw [List.isEmpty_eq_false_iff];intro h
   rw [ByteArray.toList_eq] at h
   exact h0 (by obtain ⟨⟨l⟩⟩:=s;simp at h;rw [h])
  have HNE:=Lib.hid hne
  rw [hne]
  clear hne
  have kc:=fun W=>Lib.run_convert_string_bytes (P:=Tryz.prog) W 9 23 5 s Tryz.underlying9 Tryz.underlying23 Tryz.underlying5
  have hl:=bytesOf_length s
  have HC:=Lib.hid (fun (c:Nat)=>Ou (bytesOf s) w.heap.size c (Lib.bytesWorld w 5 s) (jQ.made w 5 s) (by rw [hl];exact hs))
  rw [hl] at HC
  have BF:=Lib.hid (mU (Below.refl w.heap.size w) (Nat.le_refl _) 5 s)
  clear hl hs
  generalize hb:(bytesOf s).any zx=b at HC
  clear hb
  go_enter Tryz.func97,Tryz.ntmps97
  go_wp2_with (first|(go_at_call 142;go_in)|(go_at_call 176;refine (HC.out _).mono ?_;rintro e w1 ⟨⟨r,rfl,hr⟩,hb1⟩;have HRR:=Lib.hid hr;have su:=Lib.hid hb1;clear hr hb1))
  ·rename_i h1
   exact absurd HNE.out (by rw [h1];decide)
  ·go_ret
   exact ⟨by rw [← HRR.out,← HNE.out];rfl,bR BF.out BF.out.size su.out⟩
def SL (s:ByteArray):List ByteArray→Nat→Int
 | [],_ =>0
 |x :: xs,i=>if 0 < i∧x=s then (i:Int) else SL s xs (i + 1)
def bV.f (s:ByteArray):Option Int:=some (SL s kF 0)
theorem bV.calls (s:ByteArray) (r:Int) (w:World) (hG:aQ w) (h:bV.f s=some r):
 Calls Tryz.prog 92 #[.string s] w fun e w'=>e= .returned (.int .u8 r)∧Below w.heap.size w w':=by
 obtain ⟨b,o,c,hw,hx⟩:=hG.words
 have HR:=Lib.hid (Option.some.inj h)
 have HX:=Lib.hid hx
 have HL:=Lib.hid (show kF.length=12 from rfl)
 clear hG h hx
 go_enter Tryz.func92,Tryz.ntmps92
 go_wp2
 go_loopw [7] (fun i wr=>∃ k:Nat,k≤12∧i= .int .i64 k∧Hid (SL s (kF.drop k) k=r)∧wr=w) (fun i _ =>12 - (intOf i).toNat)
 case atStart=>exact ⟨0,Nat.zero_le _,rfl,HR,rfl⟩
 case round=>
  obtain ⟨k,hk,rfl,HP,rfl⟩:=hrel
  by_cases hlt:k < 12
  ·obtain ⟨x,hx⟩:∃ x,kF[k]? =some x:=⟨kF[k]'oX,List.getElem?_eq_getElem _⟩
   have hc:=HX.out k x hx
   have HD:=Lib.hid (show (if 0 < k∧x=s then (k:Int) else SL s (kF.drop (k + 1)) (k + 1))=r by
    have h1:kF.drop k=x :: kF.drop (k + 1):=by
     have h2:k < kF.length:=by rw [HL.out];exact hlt
     rw [List.drop_eq_getElem_cons h2]
     rw [List.getElem?_eq_getElem h2] at hx
     rw [Option.some.inj hx]
    have h3:=HP.out
    rw [h1] at h3
    exact h3)
   clear hx
   by_cases h0: 0 < k
   ·by_cases he:x=s
    ·have HV:=Lib.hid (show (k:Int)=r by rw [← HD.out,if_pos ⟨h0,he⟩])
     clear HD HP
     subst he
     go_wp2
     go_ret
     exact ⟨by rw [← HV.out];go_num,Below.refl _ _⟩
    ·have HV:=Lib.hid (show SL s (kF.drop (k + 1)) (k + 1)=r by rw [← HD.out,if_neg (fun h=>he h.2)])
     have hee:(x.toList == s.toList)=false:=by
      rw [beq_eq_false_iff_ne,ByteArray.toList_eq,ByteArray.toList_eq]
      intro h
      exact he (by obtain ⟨⟨l⟩⟩:=x;obtain ⟨⟨l2⟩⟩:=s;simp at h;rw [h])
     clear HD HP
     go_wp2
     go_roundw
     case rel=>exact ⟨k + 1,aq,j3,HV,by trivial⟩
     case measure=>simp [intOf];omega
   ·have HV:=Lib.hid (show SL s (kF.drop (k + 1)) (k + 1)=r by rw [← HD.out,if_neg (fun h=>h0 h.1)])
    clear HD HP
    go_wp2
    go_roundw
    case rel=>exact ⟨k + 1,aq,j3,HV,by trivial⟩
    case measure=>simp [intOf];omega
  ·have HV:=Lib.hid (show (0:Int)=r by
    have h3:=HP.out
    rw [List.drop_of_length_le uB] at h3
    exact h3)
   go_wp2
   go_ret
   exact ⟨by rw [← HV.out];rfl,Below.refl _ _⟩
def iq.f (v:Int):Option ByteArray:=if 0≤v∧v < 256 then some (if v < 12 then kF.getD v.toNat ⟨#[]⟩ else ⟨#[]⟩) else none
theorem iq.calls (a0:Int) (r:ByteArray) (w:World) (hG:aQ w) (h:iq.f a0=some r):
 Calls Tryz.prog 38 #[.int .u8 a0] w fun e w'=>e= .returned (.string r)∧Below w.heap.size w w':=by
 unfold iq.f at h
 by_cases ha: 0≤a0∧a0 < 256
 case neg=>rw [if_neg ha] at h;cases h
 rw [if_pos ha] at h
 obtain ⟨ha1,ha2⟩:=ha
 obtain ⟨v,rfl⟩:∃ v:Nat,a0=v:=⟨a0.toNat,aq⟩
 obtain ⟨b,o,c,hw,hx⟩:=hG.words
 clear hG
 have hwr:wrap64 (v:Int)=v:=by unfold wrap64;omega
 by_cases h12:(v:Int) < 12
 ·rw [if_pos h12] at h
  obtain ⟨x,hxx⟩:∃ x,kF[v]? =some x:=⟨_,List.getElem?_eq_getElem (show v < kF.length from by rw [show kF.length=12 from rfl];omega)⟩
  have hc:=hx v x hxx
  have hr:x=r:=by
   have h1:=Option.some.inj h
   rw [← h1,List.getD_eq_getElem?_getD,show ((v:Int)).toNat=v from by omega,hxx]
   rfl
  subst hr
  clear h hx hxx
  have e1:decide ((v:Int) < 12)=true:=decide_eq_true h12
  go_enter Tryz.func38,Tryz.ntmps38
  go_wp2
  go_ret
  exact ⟨rfl,Below.refl _ _⟩
 ·rw [if_neg h12] at h
  obtain rfl:=Option.some.inj h
  clear h hx
  have e1:decide ((v:Int) < 12)=false:=decide_eq_false h12
  go_enter Tryz.func38,Tryz.ntmps38
  go_wp2
  go_ret
  exact ⟨rfl,Below.refl _ _⟩
end Go.Proofs.YtokpnfljjjjikaaGreatDoor
