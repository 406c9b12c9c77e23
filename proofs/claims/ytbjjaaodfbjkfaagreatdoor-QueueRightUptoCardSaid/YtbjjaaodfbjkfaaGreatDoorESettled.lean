import Derived.Test.YtbjjaaodfbjkfaaGreatDoorQQux0
import Derived.Lib.Hide
set_option maxHeartbeats 4000000
set_option maxRecDepth 100000
namespace Go.Proofs.YtbjjaaodfbjkfaaGreatDoor.mN
open Go.RowKit Go.Proofs.ak.bQ Go.Proofs.ak.dA Go.Proofs.ak.cX
set_option linter.unusedVariables false
set_option linter.unusedSimpArgs false
def hasB (l:List jz) (s:Int):Bool:=l.any fun r=>decide (r.f1=s)
theorem QT (xs:List jz) (s:Int) (k:Nat) (hk:k < xs.length) (h:hasB (xs.take k) s=false):hasB (xs.take (k + 1)) s=decide ((bR xs (k:Int)).f1=s):=by
 have e:xs.take (k + 1)=xs.take k ++ [xs[k]]:=List.take_succ_eq_append_getElem hk
 have e2:bR xs (k:Int)=xs[k]:=by simp [bR,hk]
 unfold hasB at h ⊢
 rw [e,List.any_append,h,e2]
 simp
theorem Bp (x:jz) (s:Int) (p:Addr) (w:World) (hc:w.cell? p=some (.int .u8 s)):
 Calls Tryz.prog 110 #[.agg #[.string x.f0.f0,.string x.f0.f1,.bool x.f0.f2,.int .u8 x.f1,.int .i64 x.f2,.int .i64 x.f3],.pointer (some p)] w fun e w'=>e= .returned (.bool (decide (x.f1=s)))∧Below w.heap.size w w':=by
 have hb:=World.block_lt_of_cell? w p hc
 have hc2:=(World.cell?_alloc_lt w (.cells #[.string x.f0.f0,.string x.f0.f1,.bool x.f0.f2,.int .u8 x.f1,.int .i64 x.f2,.int .i64 x.f3] 37) _ hb).trans hc
 clear hb
 by_cases h:x.f1=s
 ·have e1:decide (x.f1=s)=true:=decide_eq_true h
  have e2:(x.f1 == s)=true:=by simpa using h
  have H:=Lib.hid h
  clear h
  go_enter Tryz.func110,Tryz.ntmps110
  go_wp2
  go_ret
  exact ⟨by simp [H.out],bW (Below.refl _ _) _⟩
 ·have e1:decide (x.f1=s)=false:=decide_eq_false h
  have e2:(x.f1 == s)=false:=by simpa using h
  have H:=Lib.hid h
  clear h
  go_enter Tryz.func110,Tryz.ntmps110
  go_wp2
  go_ret
  exact ⟨by simp [H.out],bW (Below.refl _ _) _⟩
theorem EL (xs:List jz) (s:Int) (A:Option Addr) (c:Nat) (p:Addr) (w:World) (hR:Kd.C tq w A xs.length xs) (hc:w.cell? p=some (.int .u8 s)):
 Calls Tryz.prog 164 #[.slice A xs.length c,.func (.func 110) #[] #[.pointer (some p)]] w fun e w'=>(∃ r:Int,e= .returned (.int .i64 r)∧decide (0≤r)=hasB xs s)∧Below w.heap.size w w':=by
 have hu:=Tryz.underlying37
 have hn:=hR.2.1
 have HR:=Lib.hid hR
 have HC:=Lib.hid hc
 clear hR hc
 go_enter Tryz.func164,Tryz.ntmps164
 go_wp2
 go_loopw [8] (fun i wr=>∃ k:Nat,k≤xs.length∧i= .int .i64 k∧Hid (hasB (xs.take k) s=false)∧Hid (Below w.heap.size w wr)) (fun i _ =>xs.length - (intOf i).toNat)
 case atStart=>exact ⟨0,Nat.zero_le _,rfl,Lib.hid (by simp [hasB]),Lib.hid (Below.refl _ _)⟩
 case round=>
  obtain ⟨k,hk,rfl,HP,HB⟩:=hrel
  by_cases hlt:k < xs.length
  ·have HT:=Lib.hid (QT xs s k hlt HP.out)
   have hx:=ql HR.out (k:Int) aA aA
   have HM:=Lib.hid (fun hb:(bR xs (k:Int)).f1=s=>(show hasB xs s=true from List.any_eq_true.mpr ⟨bR xs (k:Int),by rw [show bR xs (k:Int)=xs[k] by simp [bR,hlt]];exact List.getElem_mem hlt,by simpa using hb⟩))
   generalize bR xs (k:Int)=x at hx HT HM
   rw [Int.toNat_natCast] at hx
   obtain ⟨ad,rfl,hx0,hx1,hx2,hx3,RF,RA⟩:=hx
   replace hx0:=(HB.out.cell (World.block_lt_of_cell? w _ hx0)).trans hx0
   replace hx1:=(HB.out.cell (World.block_lt_of_cell? w _ hx1)).trans hx1
   replace hx2:=(HB.out.cell (World.block_lt_of_cell? w _ hx2)).trans hx2
   replace hx3:=(HB.out.cell (World.block_lt_of_cell? w _ hx3)).trans hx3
   replace RF:=(HB.out.cell (World.block_lt_of_cell? w _ RF)).trans RF
   replace RA:=(HB.out.cell (World.block_lt_of_cell? w _ RA)).trans RA
   have HCR:=Lib.hid ((HB.out.cell (World.block_lt_of_cell? w _ HC.out)).trans HC.out)
   by_cases hb:x.f1=s
   ·have HK:=Lib.hid (Bp x s p wr HCR.out)
    rw [show decide (x.f1=s)=true from decide_eq_true hb] at HK
    have HE:=Lib.hid (HM.out hb)
    clear hb HT HM
    go_wp2_with (go_at_call 110;refine HK.out.mono ?_;rintro e w1 ⟨rfl,hb1⟩;have mU:=Lib.hid (cj HB.out HB.out.size hb1);clear hb1)
    go_ret
    exact ⟨⟨_,rfl,by rw [HE.out];simp⟩,mU.out⟩
   ·have HK:=Lib.hid (Bp x s p wr HCR.out)
    rw [show decide (x.f1=s)=false from decide_eq_false hb] at HK
    have HE:=Lib.hid (show hasB (xs.take (k + 1)) s=false by rw [HT.out];exact decide_eq_false hb)
    clear hb HT HM
    go_wp2_with (go_at_call 110;refine HK.out.mono ?_;rintro e w1 ⟨rfl,hb1⟩;have mU:=Lib.hid (cj HB.out HB.out.size hb1);clear hb1)
    go_roundw
    case rel=>exact ⟨k + 1,aA,by go_num,HE,mU⟩
    case measure=>simp [intOf];omega
  ·have HZ:=Lib.hid (show hasB xs s=false by rw [← List.take_of_length_le (l:=xs) (i:=k) aA];exact HP.out)
   go_wp2
   go_ret
   exact ⟨⟨_,rfl,yw⟩,HB.out⟩
theorem Aw (xs:List jz) (s:Int) (A:Option Addr) (c:Nat) (p:Addr) (w:World) (hR:Kd.C tq w A xs.length xs) (hc:w.cell? p=some (.int .u8 s)):
 Calls Tryz.prog 109 #[.slice A xs.length c,.func (.func 110) #[] #[.pointer (some p)]] w fun e w'=>e= .returned (.bool (hasB xs s))∧Below w.heap.size w w':=by
 have HK:=Lib.hid (EL xs s A c p w hR hc)
 clear hR hc
 generalize hasB xs s=b at HK
 go_enter Tryz.func109,Tryz.ntmps109
 go_wp2_with (go_at_call 164;refine HK.out.mono ?_;rintro e w1 ⟨⟨r,rfl,hr⟩,hb1⟩;have Fh:=Lib.hid hr;have mU:=Lib.hid hb1;clear hr hb1)
 go_ret
 exact ⟨by rw [← Fh.out];simp,mU.out⟩
theorem QU (xs:List jz) (s:Int) (A:Option Addr) (c:Nat) (g:Nat) (w:World) (hR:Kd.C tq w A xs.length xs) (hc:w.cell? ⟨g,6,none⟩=some (.slice A xs.length c)):
 Calls Tryz.prog 108 #[.int .u8 s,.pointer (some ⟨g,0,none⟩)] w fun e w'=>e= .returned (.bool (hasB xs s))∧Below w.heap.size w w':=by
 have HB:=Lib.hid (bW (Below.refl w.heap.size w) (.cells #[.int .u8 s] 5))
 have HK:=Lib.hid (Aw xs s A c ⟨w.heap.size,0,none⟩ (w.alloc (.cells #[.int .u8 s] 5)) (Kd.BZ hR _) (by rw [af (iE w _) 0];rfl))
 have hc2:=(World.cell?_alloc_lt w (.cells #[.int .u8 s] 5) _ (World.block_lt_of_cell? w _ hc)).trans hc
 clear hR hc
 generalize hasB xs s=b at HK
 go_enter Tryz.func108,Tryz.ntmps108
 go_wp2_with (go_at_call 109;refine HK.out.mono ?_;rintro e w1 ⟨rfl,hb1⟩;have mU:=Lib.hid (cj HB.out HB.out.size hb1);clear hb1)
 go_ret
 exact ⟨rfl,mU.out⟩
def kL.f (bf:Int) (bP:Bool) (cH:List ByteArray) (bE bK:ByteArray) (bU:Bool) (bN:List jz) (cM:List Int) (bX:Int):Option (Bool×Bool):=some (!hasB bN 0,hasB bN 2)
theorem kL.calls (bf:Int) (bP:Bool) (dR:Option Addr) (dS:Nat) (cH:List ByteArray) (bE:ByteArray) (bK:ByteArray) (bU:Bool) (cU:Option Addr) (cT:Nat) (bN:List (jz)) (dU:Option Addr) (dV:Nat) (cM:List Int) (bX:Int) (r1 r2:Bool) (w:World) (qp:Kd.C Kd.string w dR cH.length cH) (qq:cH.length≤dS) (mH:Kd.C tq w cU bN.length bN) (mQ:bN.length≤cT) (qu:Kd.C (Kd.int .u8) w dU cM.length cM) (qw:cM.length≤dV) (h:kL.f bf bP cH bE bK bU bN cM bX=some (r1,r2)):
 Calls Tryz.prog 61 #[.agg #[.int .i64 bf,.bool bP,.slice dR cH.length dS,.string bE,.string bK,.bool bU,.slice cU bN.length cT,.slice dU cM.length dV,.int .i64 bX]] w fun e w'=>e= .returned (.tuple #[.bool r1,.bool r2])∧Below w.heap.size w w':=by
 obtain ⟨rfl,rfl⟩:=Prod.mk.inj (Option.some.inj h)
 clear h qp qq qu qw mQ
 have HB:=Lib.hid (bW (Below.refl w.heap.size w) (.cells #[.int .i64 bf,.bool bP,.slice dR cH.length dS,.string bE,.string bK,.bool bU,.slice cU bN.length cT,.slice dU cM.length dV,.int .i64 bX] 34))
 have HW:=Lib.hid (fun (W:World) (s:Int) (hb:Below (w.alloc (.cells #[.int .i64 bf,.bool bP,.slice dR cH.length dS,.string bE,.string bK,.bool bU,.slice cU bN.length cT,.slice dU cM.length dV,.int .i64 bX] 34)).heap.size (w.alloc (.cells #[.int .i64 bf,.bool bP,.slice dR cH.length dS,.string bE,.string bK,.bool bU,.slice cU bN.length cT,.slice dU cM.length dV,.int .i64 bX] 34)) W)=>
  QU bN s cU cT w.heap.size W (Kd.bD (Kd.BZ mH _) hb) ((af (az (iE w _) hb) 6).trans rfl))
 clear mH
 go_enter Tryz.func61,Tryz.ntmps61
 go_wp2_with (first
  |(go_at_call 108;(with_reducible refine (HW.out _ 0 (Below.refl _ _)).mono ?_);rintro e w1 ⟨rfl,hb1⟩;have mU:=Lib.hid hb1;clear hb1)
  |(go_at_call 108;(with_reducible refine (HW.out _ 2 mU.out).mono ?_);rintro e w2 ⟨rfl,hb2⟩;have GG:=Lib.hid hb2;clear hb2))
 go_ret2
 exact ⟨rfl,cj (cj HB.out HB.out.size mU.out) (Nat.le_trans HB.out.size mU.out.size) GG.out⟩
end Go.Proofs.YtbjjaaodfbjkfaaGreatDoor.mN
