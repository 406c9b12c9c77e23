import Derived.Test.YtbjjaaodfbjkfaaGreatDoorQQux0
import Derived.Lib.Hide
set_option maxHeartbeats 4000000
set_option maxRecDepth 100000
namespace Go.Proofs.YtbjjaaodfbjkfaaGreatDoor.mU
open Go.RowKit Go.Proofs.ak.bR Go.Proofs.ak.dz Go.Proofs.ak.cZ
set_option linter.unusedVariables false
set_option linter.unusedSimpArgs false
def hasB (l:List jM) (s:Int):Bool:=l.any fun r=>decide (r.f1=s)
theorem RR (xs:List jM) (s:Int) (k:Nat) (hk:k < xs.length) (h:hasB (xs.take k) s=false):hasB (xs.take (k + 1)) s=decide ((bM xs (k:Int)).f1=s):=by
 have e:xs.take (k + 1)=xs.take k ++ [xs[k]]:=List.take_succ_eq_append_getElem hk
 have e2:bM xs (k:Int)=xs[k]:=by simp [bM,hk]
 unfold hasB at h ⊢
 rw [e,List.any_append,h,e2]
 simp
theorem BJ (x:jM) (s:Int) (p:Addr) (w:World) (hc:w.cell? p=some (.int .u8 s)):
 Calls Tryz.prog 110 #[.agg #[.string x.f0.f0,.string x.f0.f1,.bool x.f0.f2,.int .u8 x.f1,.int .i64 x.f2,.int .i64 x.f3],.pointer (some p)] w fun e w'=>e= .returned (.bool (decide (x.f1=s)))∧Below w.heap.size w w':=by
 have hb:=World.block_lt_of_cell? w p hc
 have hc2:=(World.cell?_alloc_lt w (.cells #[.string x.f0.f0,.string x.f0.f1,.bool x.f0.f2,.int .u8 x.f1,.int .i64 x.f2,.int .i64 x.f3] 37) _ hb).trans hc
 clear hb
 by_cases h:x.f1=s
 ·have e1:decide (x.f1=s)=true:=decide_eq_true h
  have e2:(x.f1 == s)=true:=by simpa using h
  have H:=Lib.hid h
  clear h
  go_enter Tryz.func110,Tryz.ntmps110
  go_wp2
  go_ret
  exact ⟨by simp [H.out],b9 (Below.refl _ _) _⟩
 ·have e1:decide (x.f1=s)=false:=decide_eq_false h
  have e2:(x.f1 == s)=false:=by simpa using h
  have H:=Lib.hid h
  clear h
  go_enter Tryz.func110,Tryz.ntmps110
  go_wp2
  go_ret
  exact ⟨by simp [H.out],b9 (Below.refl _ _) _⟩
theorem E8 (xs:List jM) (s:Int) (A:Option Addr) (c:Nat) (p:Addr) (w:World) (hR:Kd.C sM w A xs.length xs) (hc:w.cell? p=some (.int .u8 s)):
 Calls Tryz.prog 164 #[.slice A xs.length c,.func (.func 110) #[] #[.pointer (some p)]] w fun e w'=>(∃ r:Int,e= .returned (.int .i64 r)∧decide (0≤r)=hasB xs s)∧Below w.heap.size w w':=by
 have hu:=Tryz.underlying37
 have hn:=hR.2.1
 have HR:=Lib.hid hR
 have HC:=Lib.hid hc
 clear hR hc
 go_enter Tryz.func164,Tryz.ntmps164
 go_wp2
 go_loopw [8] (fun i wr=>∃ k:Nat,k≤xs.length∧i= .int .i64 k∧Hid (hasB (xs.take k) s=false)∧Hid (Below w.heap.size w wr)) (fun i _ =>xs.length - (intOf i).toNat)
 case atStart=>exact ⟨0,Nat.zero_le _,rfl,Lib.hid (by simp [hasB]),Lib.hid (Below.refl _ _)⟩
 case round=>
  obtain ⟨k,hk,rfl,HP,HB⟩:=hrel
  by_cases hlt:k < xs.length
  ·have HT:=Lib.hid (RR xs s k hlt HP.out)
   have hx:=nQ HR.out (k:Int) az az
   have HM:=Lib.hid (fun hb:(bM xs (k:Int)).f1=s=>(show hasB xs s=true from List.any_eq_true.mpr ⟨bM xs (k:Int),by rw [show bM xs (k:Int)=xs[k] by simp [bM,hlt]];exact List.getElem_mem hlt,xg⟩))
   generalize bM xs (k:Int)=x at hx HT HM
   rw [Int.toNat_natCast] at hx
   obtain ⟨ad,rfl,hx0,hx1,hx2,hx3,ET,BF⟩:=hx
   replace hx0:=(HB.out.cell (World.block_lt_of_cell? w _ hx0)).trans hx0
   replace hx1:=(HB.out.cell (World.block_lt_of_cell? w _ hx1)).trans hx1
   replace hx2:=(HB.out.cell (World.block_lt_of_cell? w _ hx2)).trans hx2
   replace hx3:=(HB.out.cell (World.block_lt_of_cell? w _ hx3)).trans hx3
   replace ET:=(HB.out.cell (World.block_lt_of_cell? w _ ET)).trans ET
   replace BF:=(HB.out.cell (World.block_lt_of_cell? w _ BF)).trans BF
   have HCR:=Lib.hid ((HB.out.cell (World.block_lt_of_cell? w _ HC.out)).trans HC.out)
   by_cases hb:x.f1=s
   ·have HK:=Lib.hid (BJ x s p wr HCR.out)
    rw [show decide (x.f1=s)=true from decide_eq_true hb] at HK
    have HE:=Lib.hid (HM.out hb)
    clear hb HT HM
    go_wp2_with (go_at_call 110;refine HK.out.mono ?_;rintro e w1 ⟨rfl,hb1⟩;have qc:=Lib.hid (dL HB.out HB.out.size hb1);clear hb1)
    go_ret
    exact ⟨⟨_,rfl,by rw [HE.out];simp⟩,qc.out⟩
   ·have HK:=Lib.hid (BJ x s p wr HCR.out)
    rw [show decide (x.f1=s)=false from decide_eq_false hb] at HK
    have HE:=Lib.hid (show hasB (xs.take (k + 1)) s=false by rw [HT.out];exact decide_eq_false hb)
    clear hb HT HM
    go_wp2_with (go_at_call 110;refine HK.out.mono ?_;rintro e w1 ⟨rfl,hb1⟩;have qc:=Lib.hid (dL HB.out HB.out.size hb1);clear hb1)
    go_roundw
    case rel=>exact ⟨k + 1,az,by go_num,HE,qc⟩
    case measure=>simp [intOf];omega
  ·have HZ:=Lib.hid (show hasB xs s=false by rw [← List.take_of_length_le (l:=xs) (i:=k) az];exact HP.out)
   go_wp2
   go_ret
   exact ⟨⟨_,rfl,zh⟩,HB.out⟩
theorem AU (xs:List jM) (s:Int) (A:Option Addr) (c:Nat) (p:Addr) (w:World) (hR:Kd.C sM w A xs.length xs) (hc:w.cell? p=some (.int .u8 s)):
 Calls Tryz.prog 109 #[.slice A xs.length c,.func (.func 110) #[] #[.pointer (some p)]] w fun e w'=>e= .returned (.bool (hasB xs s))∧Below w.heap.size w w':=by
 have HK:=Lib.hid (E8 xs s A c p w hR hc)
 clear hR hc
 generalize hasB xs s=b at HK
 go_enter Tryz.func109,Tryz.ntmps109
 go_wp2_with (go_at_call 164;refine HK.out.mono ?_;rintro e w1 ⟨⟨r,rfl,hr⟩,hb1⟩;have FH:=Lib.hid hr;have qc:=Lib.hid hb1;clear hr hb1)
 go_ret
 exact ⟨by rw [← FH.out];simp,qc.out⟩
theorem RS (xs:List jM) (s:Int) (A:Option Addr) (c:Nat) (g:Nat) (w:World) (hR:Kd.C sM w A xs.length xs) (hc:w.cell? ⟨g,6,none⟩=some (.slice A xs.length c)):
 Calls Tryz.prog 108 #[.int .u8 s,.pointer (some ⟨g,0,none⟩)] w fun e w'=>e= .returned (.bool (hasB xs s))∧Below w.heap.size w w':=by
 have HB:=Lib.hid (b9 (Below.refl w.heap.size w) (.cells #[.int .u8 s] 5))
 have HK:=Lib.hid (AU xs s A c ⟨w.heap.size,0,none⟩ (w.alloc (.cells #[.int .u8 s] 5)) (Kd.GM hR _) (by rw [af (jg w _) 0];rfl))
 have hc2:=(World.cell?_alloc_lt w (.cells #[.int .u8 s] 5) _ (World.block_lt_of_cell? w _ hc)).trans hc
 clear hR hc
 generalize hasB xs s=b at HK
 go_enter Tryz.func108,Tryz.ntmps108
 go_wp2_with (go_at_call 109;refine HK.out.mono ?_;rintro e w1 ⟨rfl,hb1⟩;have qc:=Lib.hid (dL HB.out HB.out.size hb1);clear hb1)
 go_ret
 exact ⟨rfl,qc.out⟩
def kT.f (bg:Int) (bP:Bool) (cH:List ByteArray) (bD bI:ByteArray) (bU:Bool) (bL:List jM) (cN:List Int) (bW:Int):Option (Bool×Bool):=some (!hasB bL 0,hasB bL 2)
theorem kT.calls (bg:Int) (bP:Bool) (dS:Option Addr) (dU:Nat) (cH:List ByteArray) (bD:ByteArray) (bI:ByteArray) (bU:Bool) (cV:Option Addr) (cU:Nat) (bL:List (jM)) (dV:Option Addr) (dW:Nat) (cN:List Int) (bW:Int) (r1 r2:Bool) (w:World) (qy:Kd.C Kd.string w dS cH.length cH) (qz:cH.length≤dU) (mN:Kd.C sM w cV bL.length bL) (mY:bL.length≤cU) (qA:Kd.C (Kd.int .u8) w dV cN.length cN) (qB:cN.length≤dW) (h:kT.f bg bP cH bD bI bU bL cN bW=some (r1,r2)):
 Calls Tryz.prog 61 #[.agg #[.int .i64 bg,.bool bP,.slice dS cH.length dU,.string bD,.string bI,.bool bU,.slice cV bL.length cU,.slice dV cN.length dW,.int .i64 bW]] w fun e w'=>e= .returned (.tuple #[.bool r1,.bool r2])∧Below w.heap.size w w':=by
 obtain ⟨rfl,rfl⟩:=Prod.mk.inj (Option.some.inj h)
 clear h qy qz qA qB mY
 have HB:=Lib.hid (b9 (Below.refl w.heap.size w) (.cells #[.int .i64 bg,.bool bP,.slice dS cH.length dU,.string bD,.string bI,.bool bU,.slice cV bL.length cU,.slice dV cN.length dW,.int .i64 bW] 34))
 have HW:=Lib.hid (fun (W:World) (s:Int) (hb:Below (w.alloc (.cells #[.int .i64 bg,.bool bP,.slice dS cH.length dU,.string bD,.string bI,.bool bU,.slice cV bL.length cU,.slice dV cN.length dW,.int .i64 bW] 34)).heap.size (w.alloc (.cells #[.int .i64 bg,.bool bP,.slice dS cH.length dU,.string bD,.string bI,.bool bU,.slice cV bL.length cU,.slice dV cN.length dW,.int .i64 bW] 34)) W)=>
  RS bL s cV cU w.heap.size W (Kd.bQ (Kd.GM mN _) hb) ((af (aA (jg w _) hb) 6).trans rfl))
 clear mN
 go_enter Tryz.func61,Tryz.ntmps61
 go_wp2_with (first
  |(go_at_call 108;(with_reducible refine (HW.out _ 0 (Below.refl _ _)).mono ?_);rintro e w1 ⟨rfl,hb1⟩;have qc:=Lib.hid hb1;clear hb1)
  |(go_at_call 108;(with_reducible refine (HW.out _ 2 qc.out).mono ?_);rintro e w2 ⟨rfl,hb2⟩;have Vr:=Lib.hid hb2;clear hb2))
 go_ret2
 exact ⟨rfl,dL (dL HB.out HB.out.size qc.out) (Nat.le_trans HB.out.size qc.out.size) Vr.out⟩
end Go.Proofs.YtbjjaaodfbjkfaaGreatDoor.mU
