import Derived.Test.YtokpnfljjjjikaaGreatDoorZo
import Derived.Test.YtokpnfljjjjikaaGreatDoorQCbx0
import Derived.Test.YtokpnfljjjjikaaGreatDoorECmd
import Derived.Test.YtokpnfljjjjikaaGreatDoorELit
import Derived.Test.YtokpnfljjjjikaaGreatDoorESmall
import Derived.Test.YtokpnfljjjjikaaGreatDoorEStr
namespace Go.Proofs.YtokpnfljjjjikaaGreatDoor.nX
open Go.RowKit Go.Proofs.aj.bW Go.Proofs.aj.fW Go.Proofs.aj.dz
attribute [local go_sem] jg jh kO kP iK iL ji jk
set_option linter.unusedVariables false
set_option linter.unusedSimpArgs false
def cB.f (a0:ByteArray):Option (ByteArray):=(gM.f a0 97 122 (-32)).bind fun t131=>(some t131)
set_option maxHeartbeats 8000000 in
set_option maxRecDepth 100000 in
theorem cB.calls (a0:ByteArray) (r:ByteArray) (w:World) (h:cB.f a0=some r):
 Calls Tryz.prog 93 #[.string a0] w fun e w'=>e= .returned (.string r)∧Below w.heap.size w w':=by
 have HB:=ah.mk (Below.refl w.heap.size w)
 have H:((gM.f a0 97 122 (-32)).bind fun t131=>(some t131))=some r:=h
 clear h
 replace H:=Option.bind_eq_some_iff.mp H
 obtain ⟨t131,nK,H⟩:=H
 replace H:(some t131)=some r:=H
 have A2:=ah.mk nK
 clear nK
 obtain rfl:=Option.some.inj H
 go_enter Tryz.func93,Tryz.ntmps93
 go_wp2_with (first|((with_reducible refine aN (f:=140) rfl ?_);refine cr (some 4) rfl rfl Tryz.func140 au rfl #[.string a0,.int .u8 97,.int .u8 122,.int .i64 (-32)] rfl cV ?_;(with_reducible refine (gM.calls a0 97 122 (-32) t131 _ A2.out).mono ?_);rintro e w3 ⟨rfl,hb⟩;refine ⟨_,rfl,?_⟩;have bD:=ah.mk (ay cw hb);clear HB;have HB:=bD;clear bD;(try clear hb);(try clear hb2);(try clear hk);(try clear hi)))
 go_ret
 exact ⟨cZ,cw⟩
def gU.f (a0:ByteArray):Option (ByteArray):=(gM.f a0 65 90 32).bind fun t132=>(some t132)
set_option maxHeartbeats 8000000 in
set_option maxRecDepth 100000 in
theorem gU.calls (a0:ByteArray) (r:ByteArray) (w:World) (h:gU.f a0=some r):
 Calls Tryz.prog 94 #[.string a0] w fun e w'=>e= .returned (.string r)∧Below w.heap.size w w':=by
 have HB:=ah.mk (Below.refl w.heap.size w)
 have H:((gM.f a0 65 90 32).bind fun t132=>(some t132))=some r:=h
 clear h
 replace H:=Option.bind_eq_some_iff.mp H
 obtain ⟨t132,nK,H⟩:=H
 replace H:(some t132)=some r:=H
 have A2:=ah.mk nK
 clear nK
 obtain rfl:=Option.some.inj H
 go_enter Tryz.func94,Tryz.ntmps94
 go_wp2_with (first|((with_reducible refine aN (f:=140) rfl ?_);refine cr (some 4) rfl rfl Tryz.func140 au rfl #[.string a0,.int .u8 65,.int .u8 90,.int .i64 32] rfl cV ?_;(with_reducible refine (gM.calls a0 65 90 32 t132 _ A2.out).mono ?_);rintro e w3 ⟨rfl,hb⟩;refine ⟨_,rfl,?_⟩;have bD:=ah.mk (ay cw hb);clear HB;have HB:=bD;clear bD;(try clear hb);(try clear hb2);(try clear hk);(try clear hi)))
 go_ret
 exact ⟨cZ,cw⟩
def pN.f (a0:ByteArray):Option (Bool):=(strings_Cut.f a0 (⟨#[58,58]⟩:ByteArray)).bind fun E5=>((eZ.f E5.1).bind fun t136=>((eZ.f E5.2.1).bind fun t137=>(if E5.2.2=true then (if t136≥0 then (if t137≥0 then (some (decide ((wrap64 (t136 + t137))≤6))) else (some false)) else (some false)) else (some (t136 == 8)))))
set_option maxHeartbeats 8000000 in
set_option maxRecDepth 100000 in
theorem pN.calls (a0:ByteArray) (r:Bool) (w:World) (hG:aT w) (h:pN.f a0=some r):
 Calls Tryz.prog 82 #[.string a0] w fun e w'=>e= .returned (.bool r)∧Below w.heap.size w w':=by
 have HB:=ah.mk (Below.refl w.heap.size w)
 have HG:=ah.mk hG
 clear hG
 have H:((strings_Cut.f a0 (⟨#[58,58]⟩:ByteArray)).bind fun E5=>((eZ.f E5.1).bind fun t136=>((eZ.f E5.2.1).bind fun t137=>(if E5.2.2=true then (if t136≥0 then (if t137≥0 then (some (decide ((wrap64 (t136 + t137))≤6))) else (some false)) else (some false)) else (some (t136 == 8))))))=some r:=h
 clear h
 replace H:=Option.bind_eq_some_iff.mp H
 obtain ⟨⟨t133,t134,t135⟩,nK,H⟩:=H
 replace H:((eZ.f t133).bind fun t136=>((eZ.f t134).bind fun t137=>(if t135=true then (if t136≥0 then (if t137≥0 then (some (decide ((wrap64 (t136 + t137))≤6))) else (some false)) else (some false)) else (some (t136 == 8)))))=some r:=H
 have A2:=ah.mk nK
 clear nK
 replace H:=Option.bind_eq_some_iff.mp H
 obtain ⟨t136,wQ,H⟩:=H
 replace H:((eZ.f t134).bind fun t137=>(if t135=true then (if t136≥0 then (if t137≥0 then (some (decide ((wrap64 (t136 + t137))≤6))) else (some false)) else (some false)) else (some (t136 == 8))))=some r:=H
 have A3:=ah.mk wQ
 clear wQ
 replace H:=Option.bind_eq_some_iff.mp H
 obtain ⟨t137,Cr,H⟩:=H
 replace H:(if t135=true then (if t136≥0 then (if t137≥0 then (some (decide ((wrap64 (t136 + t137))≤6))) else (some false)) else (some false)) else (some (t136 == 8)))=some r:=H
 have A4:=ah.mk Cr
 clear Cr
 by_cases c5:t135=true
 ·subst c5
  have H1:(if t136≥0 then (if t137≥0 then (some (decide ((wrap64 (t136 + t137))≤6))) else (some false)) else (some false))=some r:=by rw [if_pos rfl] at H;exact H
  clear H
  have H:=H1
  clear H1
  by_cases c6:t136≥0
  ·rw [if_pos c6] at H
   have pF:decide (0≤t136)=true:=decide_eq_true c6
   clear c6
   by_cases c7:t137≥0
   ·rw [if_pos c7] at H
    have Gm:decide (0≤t137)=true:=decide_eq_true c7
    clear c7
    obtain rfl:=Option.some.inj H
    go_enter Tryz.func82,Tryz.ntmps82
    go_wp2_with (first|((with_reducible refine aN (f:=91) rfl ?_);refine cr (some 10) rfl rfl Tryz.func91 au rfl #[.string a0,.string (⟨#[58,58]⟩:ByteArray)] rfl cV ?_;(with_reducible refine (strings_Cut.calls a0 (⟨#[58,58]⟩:ByteArray) t133 t134 true _ ?aX A2.out).mono ?_);(case aX=>exact aT.below HG.out cw);rintro e w' ⟨rfl,⟨nd,rfl⟩⟩;refine ⟨_,rfl,?_⟩)|((with_reducible refine aN (f:=130) rfl ?_);refine cr (some 15) rfl rfl Tryz.func130 au rfl #[.string t133] rfl cV ?_;(with_reducible refine (eZ.calls t133 t136 _ ?aX A3.out).mono ?_);(case aX=>exact aT.below HG.out cw);rintro e w8 ⟨rfl,hb⟩;refine ⟨_,rfl,?_⟩;have bD:=ah.mk (ay cw hb);clear HB;have HB:=bD;clear bD;(try clear hb);(try clear hb2);(try clear hk);(try clear hi))|((with_reducible refine aN (f:=130) rfl ?_);refine cr (some 17) rfl rfl Tryz.func130 au rfl #[.string t134] rfl cV ?_;(with_reducible refine (eZ.calls t134 t137 _ ?aX A4.out).mono ?_);(case aX=>exact aT.below HG.out cw);rintro e w9 ⟨rfl,hb⟩;refine ⟨_,rfl,?_⟩;have bD:=ah.mk (ay cw hb);clear HB;have HB:=bD;clear bD;(try clear hb);(try clear hb2);(try clear hk);(try clear hi)))
    go_ret
    exact ⟨cZ,cw⟩
   ·rw [if_neg c7] at H
    have Gm:decide (0≤t137)=false:=decide_eq_false c7
    clear c7
    obtain rfl:=Option.some.inj H
    go_enter Tryz.func82,Tryz.ntmps82
    go_wp2_with (first|((with_reducible refine aN (f:=91) rfl ?_);refine cr (some 10) rfl rfl Tryz.func91 au rfl #[.string a0,.string (⟨#[58,58]⟩:ByteArray)] rfl cV ?_;(with_reducible refine (strings_Cut.calls a0 (⟨#[58,58]⟩:ByteArray) t133 t134 true _ ?aX A2.out).mono ?_);(case aX=>exact aT.below HG.out cw);rintro e w' ⟨rfl,⟨nd,rfl⟩⟩;refine ⟨_,rfl,?_⟩)|((with_reducible refine aN (f:=130) rfl ?_);refine cr (some 15) rfl rfl Tryz.func130 au rfl #[.string t133] rfl cV ?_;(with_reducible refine (eZ.calls t133 t136 _ ?aX A3.out).mono ?_);(case aX=>exact aT.below HG.out cw);rintro e sV ⟨rfl,hb⟩;refine ⟨_,rfl,?_⟩;have bD:=ah.mk (ay cw hb);clear HB;have HB:=bD;clear bD;(try clear hb);(try clear hb2);(try clear hk);(try clear hi))|((with_reducible refine aN (f:=130) rfl ?_);refine cr (some 17) rfl rfl Tryz.func130 au rfl #[.string t134] rfl cV ?_;(with_reducible refine (eZ.calls t134 t137 _ ?aX A4.out).mono ?_);(case aX=>exact aT.below HG.out cw);rintro e w11 ⟨rfl,hb⟩;refine ⟨_,rfl,?_⟩;have bD:=ah.mk (ay cw hb);clear HB;have HB:=bD;clear bD;(try clear hb);(try clear hb2);(try clear hk);(try clear hi)))
    go_ret
    exact ⟨cZ,cw⟩
  ·rw [if_neg c6] at H
   have pF:decide (0≤t136)=false:=decide_eq_false c6
   clear c6
   obtain rfl:=Option.some.inj H
   go_enter Tryz.func82,Tryz.ntmps82
   go_wp2_with (first|((with_reducible refine aN (f:=91) rfl ?_);refine cr (some 10) rfl rfl Tryz.func91 au rfl #[.string a0,.string (⟨#[58,58]⟩:ByteArray)] rfl cV ?_;(with_reducible refine (strings_Cut.calls a0 (⟨#[58,58]⟩:ByteArray) t133 t134 true _ ?aX A2.out).mono ?_);(case aX=>exact aT.below HG.out cw);rintro e w' ⟨rfl,⟨nd,rfl⟩⟩;refine ⟨_,rfl,?_⟩)|((with_reducible refine aN (f:=130) rfl ?_);refine cr (some 15) rfl rfl Tryz.func130 au rfl #[.string t133] rfl cV ?_;(with_reducible refine (eZ.calls t133 t136 _ ?aX A3.out).mono ?_);(case aX=>exact aT.below HG.out cw);rintro e SX ⟨rfl,hb⟩;refine ⟨_,rfl,?_⟩;have bD:=ah.mk (ay cw hb);clear HB;have HB:=bD;clear bD;(try clear hb);(try clear hb2);(try clear hk);(try clear hi))|((with_reducible refine aN (f:=130) rfl ?_);refine cr (some 17) rfl rfl Tryz.func130 au rfl #[.string t134] rfl cV ?_;(with_reducible refine (eZ.calls t134 t137 _ ?aX A4.out).mono ?_);(case aX=>exact aT.below HG.out cw);rintro e nI ⟨rfl,hb⟩;refine ⟨_,rfl,?_⟩;have bD:=ah.mk (ay cw hb);clear HB;have HB:=bD;clear bD;(try clear hb);(try clear hb2);(try clear hk);(try clear hi)))
   go_ret
   exact ⟨cZ,cw⟩
 ·replace c5:=Bool.eq_false_iff.mpr c5
  subst c5
  have H1:(some (t136 == 8))=some r:=by rw [if_neg (show ¬ (false=true) by decide)] at H;exact H
  clear H
  have H:=H1
  clear H1
  obtain rfl:=Option.some.inj H
  go_enter Tryz.func82,Tryz.ntmps82
  go_wp2_with (first|((with_reducible refine aN (f:=91) rfl ?_);refine cr (some 10) rfl rfl Tryz.func91 au rfl #[.string a0,.string (⟨#[58,58]⟩:ByteArray)] rfl cV ?_;(with_reducible refine (strings_Cut.calls a0 (⟨#[58,58]⟩:ByteArray) t133 t134 false _ ?aX A2.out).mono ?_);(case aX=>exact aT.below HG.out cw);rintro e w' ⟨rfl,⟨nd,rfl⟩⟩;refine ⟨_,rfl,?_⟩)|((with_reducible refine aN (f:=130) rfl ?_);refine cr (some 15) rfl rfl Tryz.func130 au rfl #[.string t133] rfl cV ?_;(with_reducible refine (eZ.calls t133 t136 _ ?aX A3.out).mono ?_);(case aX=>exact aT.below HG.out cw);rintro e GU ⟨rfl,hb⟩;refine ⟨_,rfl,?_⟩;have bD:=ah.mk (ay cw hb);clear HB;have HB:=bD;clear bD;(try clear hb);(try clear hb2);(try clear hk);(try clear hi))|((with_reducible refine aN (f:=130) rfl ?_);refine cr (some 17) rfl rfl Tryz.func130 au rfl #[.string t134] rfl cV ?_;(with_reducible refine (eZ.calls t134 t137 _ ?aX A4.out).mono ?_);(case aX=>exact aT.below HG.out cw);rintro e zV ⟨rfl,hb⟩;refine ⟨_,rfl,?_⟩;have bD:=ah.mk (ay cw hb);clear HB;have HB:=bD;clear bD;(try clear hb);(try clear hb2);(try clear hk);(try clear hi)))
  go_ret
  exact ⟨cZ,cw⟩
def aC.l0:Nat→List ByteArray→Int→Int→Option (Int)
 | 0,_,_,_ =>none
 |k + 1,x0,x7,x8=>if x8 < x7 then (if 0≤x8 then (if x8 < (x0.length:Int) then ((gp.f (kC ByteArray.empty x0 x8)).bind fun t139=>(if t139=true then (some x8) else (aC.l0 k x0 x7 (wrap64 (x8 + 1))))) else (none)) else (none)) else (some (-1))
def aC.f (k:Nat) (l0:List ByteArray):Option (Int):=aC.l0 k l0 (l0.length:Int) 0
theorem aC.fR:∀ k,(∀ y0 y1 y2,cR (aC.l0 k y0 y1 y2) (aC.l0 (k + 1) y0 y1 y2))
 | 0=>fun _ _ _ r h=>by simp [aC.l0] at h
 |k + 1=>by
  have nY:=aC.fR k
  ·intro y0 y1 y2
   unfold aC.l0
   repeat' first
   |(with_reducible exact nY _ _ _)
   |(with_reducible exact cR.refl _)
   |(with_reducible exact cR.none _)
   |(with_reducible refine cR.ite ?_ ?_)
   |(with_reducible refine cR.bind ?_ (fun _ =>?_))
   |refine cR.ite ?_ ?_
   |refine cR.bind ?_ (fun _ =>?_)
theorem aC.mono:∀ a0 k,cR (aC.f k a0) (aC.f (k + 1) a0):=by
 intro a0 k
 have nY:=aC.fR k
 unfold aC.f
 repeat' first
  |(with_reducible exact nY _ _ _)
  |(with_reducible exact cR.refl _)
  |(with_reducible exact cR.none _)
  |(with_reducible refine cR.ite ?_ ?_)
  |(with_reducible refine cR.bind ?_ (fun _ =>?_))
  |refine cR.ite ?_ ?_
  |refine cR.bind ?_ (fun _ =>?_)
set_option maxHeartbeats 8000000 in
set_option maxRecDepth 100000 in
theorem aC.calls (k:Nat) (A0:Option Addr) (c0:Nat) (l0:List ByteArray) (r:Int) (w:World) (zk:Kd.C Kd.string w A0 l0.length l0) (hc0:l0.length≤c0) (hG:aT w) (h:aC.f k l0=some r):
 Calls Tryz.prog 117 #[.slice A0 l0.length c0,.func (.func 83) #[] #[]] w fun e w'=>e= .returned (.int .i64 r)∧Below w.heap.size w w':=by
 have xO:=ah.mk zk
 have P9:=ah.mk hc0
 clear zk hc0
 have HB:=ah.mk (Below.refl w.heap.size w)
 have HG:=ah.mk hG
 clear hG
 have H:(aC.l0 k l0 (l0.length:Int) 0)=some r:=h
 clear h
 have H':=ah.mk H
 clear H
 go_enter Tryz.func117,Tryz.ntmps117
 go_wp2
 go_loopg [8] k (fun kq v8 w'=>∃ (eV:Int),v8= .int .i64 eV∧ah (aC.l0 kq l0 (l0.length:Int) eV=some r)∧ah (kq≤k)∧ah (Below w.heap.size w w'))
 case atStart=>exact ⟨(0),ey,H',⟨Nat.le_refl _⟩,⟨cw⟩⟩
 case round=>
  clear H'
  try clear c1
  try clear p2
  obtain ⟨eV,rfl,HA,uC,HB⟩:=hrel
  cases gk with
  |zero=>exact absurd HA.out (by simp [aC.l0])
  |succ k1=>
   have H:=HA.out
   clear HA
   simp only [aC.l0] at H
   by_cases c3:eV < (l0.length:Int)
   ·rw [if_pos c3] at H
    have qm:decide (eV < (l0.length:Int))=true:=decide_eq_true c3
    clear c3
    by_cases c4: 0≤eV
    ·rw [if_pos c4] at H
     have oL:decide (0≤eV)=true:=decide_eq_true c4
     clear c4
     by_cases c5:eV < (l0.length:Int)
     ·rw [if_pos c5] at H
      have tR:decide (eV < (l0.length:Int))=true:=decide_eq_true c5
      clear c5
      replace H:=Option.bind_eq_some_iff.mp H
      obtain ⟨t139,wR,H⟩:=H
      replace H:(if t139=true then (some eV) else (aC.l0 k1 l0 (l0.length:Int) (wrap64 (eV + 1))))=some r:=H
      have A6:=ah.mk wR
      clear wR
      by_cases c7:t139=true
      ·subst c7
       have H1:(some eV)=some r:=by rw [if_pos rfl] at H;exact H
       clear H
       have H:=H1
       clear H1
       obtain rfl:=Option.some.inj H
       have Oc: 0≤(eV:Int):=of_decide_eq_true cX
       have Od:eV < (l0.length:Int):=of_decide_eq_true cX
       obtain ⟨ad3,abN,uH⟩:=Kd.ju xO.out eV Oc Od
       cases abN
       replace uH:=(HB.out.cell (World.block_lt_of_cell? w _ uH)).trans uH
       replace Oc:=eq_true Oc
       replace Od:=eq_true Od
       go_wp2_with (first|(go_at_call 83;(with_reducible refine (gp.calls (kC ByteArray.empty l0 eV) true _ ?aX A6.out).mono ?_);(case aX=>exact aT.below HG.out cw);rintro e w8 ⟨rfl,hb⟩;have bD:=ah.mk (ay cw hb);clear HB;have HB:=bD;clear bD;(try clear hb);(try clear hb2);(try clear hk);(try clear hi)))
       go_ret
       exact ⟨cZ,cw⟩
      ·replace c7:=Bool.eq_false_iff.mpr c7
       subst c7
       have H1:(aC.l0 k1 l0 (l0.length:Int) (wrap64 (eV + 1)))=some r:=by rw [if_neg (show ¬ (false=true) by decide)] at H;exact H
       clear H
       have H:=H1
       clear H1
       have H':=ah.mk H
       clear H
       have Oc: 0≤(eV:Int):=of_decide_eq_true cX
       have Od:eV < (l0.length:Int):=of_decide_eq_true cX
       obtain ⟨ad3,abN,uH⟩:=Kd.ju xO.out eV Oc Od
       cases abN
       replace uH:=(HB.out.cell (World.block_lt_of_cell? w _ uH)).trans uH
       replace Oc:=eq_true Oc
       replace Od:=eq_true Od
       go_wp2_with (first|(go_at_call 83;(with_reducible refine (gp.calls (kC ByteArray.empty l0 eV) false _ ?aX A6.out).mono ?_);(case aX=>exact aT.below HG.out cw);rintro e w9 ⟨rfl,hb⟩;have bD:=ah.mk (ay cw hb);clear HB;have HB:=bD;clear bD;(try clear hb);(try clear hb2);(try clear hk);(try clear hi)))
       go_roundg k1
       case measure=>have:=uC.out;omega
       case rel=>exact ⟨(wrap64 (eV + 1)),ey,H',⟨j6⟩,⟨cw⟩⟩
     ·rw [if_neg c5] at H
      exact absurd H bn
    ·rw [if_neg c4] at H
     exact absurd H bn
   ·rw [if_neg c3] at H
    have qm:decide (eV < (l0.length:Int))=false:=decide_eq_false c3
    clear c3
    obtain rfl:=Option.some.inj H
    go_wp2
    go_ret
    exact ⟨cZ,cw⟩
def bE.f (k:Nat) (l0:List ByteArray):Option (Bool):=(aC.f k l0).bind fun t140=>(some (decide (t140≥0)))
theorem bE.mono:∀ a0 k,cR (bE.f k a0) (bE.f (k + 1) a0):=by
 intro a0 k
 unfold bE.f
 repeat' first
  |(with_reducible exact aC.mono _ _)
  |(with_reducible exact cR.refl _)
  |(with_reducible exact cR.none _)
  |(with_reducible refine cR.ite ?_ ?_)
  |(with_reducible refine cR.bind ?_ (fun _ =>?_))
  |refine cR.ite ?_ ?_
  |refine cR.bind ?_ (fun _ =>?_)
set_option maxHeartbeats 8000000 in
set_option maxRecDepth 100000 in
theorem bE.calls (k:Nat) (A0:Option Addr) (c0:Nat) (l0:List ByteArray) (r:Bool) (w:World) (zk:Kd.C Kd.string w A0 l0.length l0) (hc0:l0.length≤c0) (hG:aT w) (h:bE.f k l0=some r):
 Calls Tryz.prog 59 #[.slice A0 l0.length c0,.func (.func 83) #[] #[]] w fun e w'=>e= .returned (.bool r)∧Below w.heap.size w w':=by
 have xO:=ah.mk zk
 have P9:=ah.mk hc0
 clear zk hc0
 have HB:=ah.mk (Below.refl w.heap.size w)
 have HG:=ah.mk hG
 clear hG
 have H:((aC.f k l0).bind fun t140=>(some (decide (t140≥0))))=some r:=h
 clear h
 replace H:=Option.bind_eq_some_iff.mp H
 obtain ⟨t140,wQ,H⟩:=H
 replace H:(some (decide (t140≥0)))=some r:=H
 have A3:=ah.mk wQ
 clear wQ
 obtain rfl:=Option.some.inj H
 go_enter Tryz.func59,Tryz.ntmps59
 go_wp2_with (first|((with_reducible refine aN (f:=117) rfl ?_);refine cr (some 7) rfl rfl Tryz.func117 au rfl #[.slice A0 l0.length c0,.func (.func 83) #[] #[]] rfl cV ?_;(with_reducible refine (aC.calls k _ _ l0 t140 _ ?aX ?bS ?dH A3.out).mono ?_);(case aX=>repeat (first|exact xO.out|(with_reducible refine Kd.cK ?_ _)|(with_reducible refine Kd.cL ?_ _)|(with_reducible refine Kd.dG ?_)));(case bS=>exact P9.out);(case dH=>exact aT.below HG.out cw);rintro e w4 ⟨rfl,hb⟩;refine ⟨_,rfl,?_⟩;have bD:=ah.mk (ay cw hb);clear HB;have HB:=bD;clear bD;(try clear hb);(try clear hb2);(try clear hk);(try clear hi)))
 go_ret
 exact ⟨cZ,cw⟩
def bZ.j0:Nat→ByteArray→Bool→Option (Bool)
 | 0,_,_ =>none
 |k + 1,x0,x12=>if x12=true then (if 5≤(x0.size:Int) then ((pN.f (x0.extract 5 x0.size)).bind fun t142=>(some t142)) else (none)) else ((strings_Split.f x0 (⟨#[46]⟩:ByteArray)).bind fun t143=>(if (t143.length:Int)=4 then ((bE.f k t143).bind fun t146=>(some (!t146))) else (some false)))
def bZ.f (k:Nat) (a0:ByteArray):Option (Bool):=if (a0.size:Int) > 5 then (if 0≤5 then (if 5≤(a0.size:Int) then ((cC.f (a0.extract 0 5)).bind fun t141=>(bZ.j0 k a0 (t141.toList == ([105,112,118,54,58]:List UInt8)))) else (none)) else (none)) else (bZ.j0 k a0 false)
theorem bZ.fR:∀ k,(∀ y0 y1,cR (bZ.j0 k y0 y1) (bZ.j0 (k + 1) y0 y1))
 | 0=>fun _ _ r h=>by simp [bZ.j0] at h
 |k + 1=>by
  have nY:=bZ.fR k
  ·intro y0 y1
   unfold bZ.j0
   repeat' first
   |(with_reducible exact nY _ _)
   |(with_reducible exact bE.mono _ _)
   |(with_reducible exact cR.refl _)
   |(with_reducible exact cR.none _)
   |(with_reducible refine cR.ite ?_ ?_)
   |(with_reducible refine cR.bind ?_ (fun _ =>?_))
   |refine cR.ite ?_ ?_
   |refine cR.bind ?_ (fun _ =>?_)
theorem bZ.mono:∀ a0 k,cR (bZ.f k a0) (bZ.f (k + 1) a0):=by
 intro a0 k
 have nY:=bZ.fR k
 unfold bZ.f
 repeat' first
  |(with_reducible exact nY _ _)
  |(with_reducible exact bE.mono _ _)
  |(with_reducible exact cR.refl _)
  |(with_reducible exact cR.none _)
  |(with_reducible refine cR.ite ?_ ?_)
  |(with_reducible refine cR.bind ?_ (fun _ =>?_))
  |refine cR.ite ?_ ?_
  |refine cR.bind ?_ (fun _ =>?_)
set_option maxHeartbeats 8000000 in
set_option maxRecDepth 100000 in
theorem bZ.calls (k:Nat) (a0:ByteArray) (r:Bool) (w:World) (hG:aT w) (h:bZ.f k a0=some r):
 Calls Tryz.prog 27 #[.string a0] w fun e w'=>e= .returned (.bool r)∧Below w.heap.size w w':=by
 have HB:=ah.mk (Below.refl w.heap.size w)
 have HG:=ah.mk hG
 clear hG
 have H:(if (a0.size:Int) > 5 then (if 0≤5 then (if 5≤(a0.size:Int) then ((cC.f (a0.extract 0 5)).bind fun t141=>(bZ.j0 k a0 (t141.toList == ([105,112,118,54,58]:List UInt8)))) else (none)) else (none)) else (bZ.j0 k a0 false))=some r:=h
 clear h
 have HC2:=ah.mk H
 clear H
 go_enter Tryz.func27,Tryz.ntmps27
 go_upto_region 1 with (fail)
 go_cut [12] (fun v12 wc=>∃ (kq:Nat) (Qa:Bool),v12= .bool Qa∧ah (bZ.j0 kq a0 Qa=some r)∧ah (kq≤k)∧ah (Below w.heap.size w wc))
 case first=>
  have H:=HC2.out
  clear HC2
  by_cases c3:(a0.size:Int) > 5
  ·rw [if_pos c3] at H
   have qm:decide (5 < (a0.size:Int))=true:=decide_eq_true c3
   have LD:decide (5 < a0.size)=true:=decide_eq_true aq
   clear c3
   (first|rw [qm]|(simp only [dB,dD];rw [qm])|skip)
   by_cases c4: 0≤5
   ·rw [if_pos c4] at H
    have oL:=eq_true c4
    have Gn:decide (0≤5)=true:=decide_eq_true c4
    clear c4
    by_cases c5: 5≤(a0.size:Int)
    ·rw [if_pos c5] at H
     have tR:=eq_true c5
     have UR:decide (5≤(a0.size:Int))=true:=decide_eq_true c5
     clear c5
     replace H:=Option.bind_eq_some_iff.mp H
     obtain ⟨t141,wR,H⟩:=H
     replace H:(bZ.j0 k a0 (t141.toList == ([105,112,118,54,58]:List UInt8)))=some r:=H
     have A6:=ah.mk wR
     clear wR
     have H':=ah.mk H
     clear H
     go_wp2_with (first|(go_at_call 81;(with_reducible refine (cC.calls (a0.extract 0 5) t141 _ A6.out).mono ?_);rintro e w7 ⟨rfl,hb⟩;have bD:=ah.mk (ay cw hb);clear HB;have HB:=bD;clear bD;(try clear hb);(try clear hb2);(try clear hk);(try clear hi)))
     go_meet
     case rel=>exact ⟨_,((t141.toList == ([105,112,118,54,58]:List UInt8))),ey,H',⟨nU⟩,⟨cw⟩⟩
    ·rw [if_neg c5] at H
     exact absurd H bn
   ·rw [if_neg c4] at H
    exact absurd H bn
  ·rw [if_neg c3] at H
   have qm:decide (5 < (a0.size:Int))=false:=decide_eq_false c3
   have LD:decide (5 < a0.size)=false:=decide_eq_false aq
   clear c3
   (first|rw [qm]|(simp only [dB,dD];rw [qm])|skip)
   have H':=ah.mk H
   clear H
   go_wp2
   go_meet
   case rel=>exact ⟨_,(false),ey,H',⟨nU⟩,⟨cw⟩⟩
 case rest=>
  clear HC2
  try clear c2
  try clear p2
  try clear c3
  try clear qm
  try clear LD
  try clear c4
  try clear oL
  try clear Gn
  try clear c5
  try clear tR
  try clear UR
  obtain ⟨kq,Qa,rfl,HA,HJ1,HB⟩:=hcut
  cases kq with
  |zero=>exact absurd HA.out (by simp [bZ.j0])
  |succ kj1=>
   have H:=HA.out
   clear HA
   simp only [bZ.j0] at H
   by_cases c8:Qa=true
   ·subst c8
    have H1:(if 5≤(a0.size:Int) then ((pN.f (a0.extract 5 a0.size)).bind fun t142=>(some t142)) else (none))=some r:=by rw [if_pos rfl] at H;exact H
    clear H
    have H:=H1
    clear H1
    by_cases c9: 5≤(a0.size:Int)
    ·rw [if_pos c9] at H
     have SY:=eq_true c9
     have ad4:decide (5≤(a0.size:Int))=true:=decide_eq_true c9
     clear c9
     replace H:=Option.bind_eq_some_iff.mp H
     obtain ⟨t142,UT,H⟩:=H
     replace H:(some t142)=some r:=H
     have A10:=ah.mk UT
     clear UT
     obtain rfl:=Option.some.inj H
     go_wp2_with (first|((with_reducible refine aN (f:=82) rfl ?_);refine cr (some 15) rfl rfl Tryz.func82 au rfl #[.string (a0.extract 5 a0.size)] rfl cV ?_;(with_reducible refine (pN.calls (a0.extract 5 a0.size) t142 _ ?aX A10.out).mono ?_);(case aX=>exact aT.below HG.out cw);rintro e w11 ⟨rfl,hb⟩;refine ⟨_,rfl,?_⟩;have bD:=ah.mk (ay cw hb);clear HB;have HB:=bD;clear bD;(try clear hb);(try clear hb2);(try clear hk);(try clear hi)))
     go_ret
     exact ⟨cZ,cw⟩
    ·rw [if_neg c9] at H
     exact absurd H bn
   ·replace c8:=Bool.eq_false_iff.mpr c8
    subst c8
    have H1:((strings_Split.f a0 (⟨#[46]⟩:ByteArray)).bind fun t143=>(if (t143.length:Int)=4 then ((bE.f kj1 t143).bind fun t146=>(some (!t146))) else (some false)))=some r:=by rw [if_neg (show ¬ (false=true) by decide)] at H;exact H
    clear H
    have H:=H1
    clear H1
    replace H:=Option.bind_eq_some_iff.mp H
    obtain ⟨t143,zW,H⟩:=H
    replace H:(if (t143.length:Int)=4 then ((bE.f kj1 t143).bind fun t146=>(some (!t146))) else (some false))=some r:=H
    have Gp:=ah.mk zW
    clear zW
    by_cases c13:(t143.length:Int)=4
    ·rw [if_pos c13] at H
     have E6:((t143.length:Int) == 4)=true:=beq_iff_eq.mpr c13
     have LF:((t143.length:Int) != 4)=false:=bne_eq_false_iff_eq.mpr c13
     clear c13
     replace H:=Option.bind_eq_some_iff.mp H
     obtain ⟨t146,wS,H⟩:=H
     replace H:(some (!t146))=some r:=H
     have SZ:=ah.mk wS
     clear wS
     obtain rfl:=Option.some.inj H
     go_wp2_with (first|((with_reducible refine aN (f:=75) rfl ?_);refine cr (some 17) rfl rfl Tryz.func75 au rfl #[.string a0,.string (⟨#[46]⟩:ByteArray)] rfl cV ?_;(with_reducible refine (strings_Split.calls a0 (⟨#[46]⟩:ByteArray) t143 _ ?aX Gp.out).mono ?_);(case aX=>exact aT.below HG.out cw);rintro e zV ⟨am3,rfl,ho0,hb⟩;refine ⟨_,rfl,?_⟩;have bD:=ah.mk (Kd.gL ho0 (eu cw));have bN:=ah.mk (ay cw hb);clear HB;have Cs:=bD;have HB:=bN;clear bD bN;(try clear hb);(try clear hb2);(try clear hk);(try clear hi);(try clear ho0);obtain ⟨aqK,aqL,am4⟩:=Kd.eG Cs.out;subst am4)|(go_at_call 59;(with_reducible refine (bE.calls kj1 _ _ t143 t146 _ ?aX ?bS ?dH SZ.out).mono ?_);(case aX=>repeat (first|exact (Kd.fq Cs.out).2.2|(with_reducible refine Kd.cK ?_ _)|(with_reducible refine Kd.cL ?_ _)|(with_reducible refine Kd.dG ?_)));(case bS=>exact (Kd.fq Cs.out).2.1);(case dH=>exact aT.below HG.out cw);rintro e Oe ⟨rfl,hb⟩;have bD:=ah.mk (Kd.dL (by (with_reducible repeat (first|apply Kd.gh|apply Kd.gm|apply Kd.iq));exact Cs.out) hb);have bN:=ah.mk (ay cw hb);clear Cs;clear HB;have Cs:=bD;have HB:=bN;clear bD bN;(try clear hb);(try clear hb2);(try clear hk);(try clear hi)))
     go_ret
     exact ⟨cZ,cw⟩
    ·rw [if_neg c13] at H
     have E6:((t143.length:Int) == 4)=false:=beq_eq_false_iff_ne.mpr c13
     have LF:((t143.length:Int) != 4)=true:=bne_iff_ne.mpr c13
     obtain rfl:=Option.some.inj H
     go_wp2_with (first|((with_reducible refine aN (f:=75) rfl ?_);refine cr (some 17) rfl rfl Tryz.func75 au rfl #[.string a0,.string (⟨#[46]⟩:ByteArray)] rfl cV ?_;(with_reducible refine (strings_Split.calls a0 (⟨#[46]⟩:ByteArray) t143 _ ?aX Gp.out).mono ?_);(case aX=>exact aT.below HG.out cw);rintro e w18 ⟨am3,rfl,ho0,hb⟩;refine ⟨_,rfl,?_⟩;have bD:=ah.mk (Kd.gL ho0 (eu cw));have bN:=ah.mk (ay cw hb);clear HB;have Cs:=bD;have HB:=bN;clear bD bN;(try clear hb);(try clear hb2);(try clear hk);(try clear hi);(try clear ho0);obtain ⟨aqM,aqN,am5⟩:=Kd.eG Cs.out;subst am5))
     go_ret
     exact ⟨cZ,cw⟩
def gD.f (k:Nat) (a0:ByteArray):Option (Bool):=if (a0.size:Int) > 2 then (if 0 < (a0.size:Int) then (if (bt a0 0)=91 then (if 0≤(wrap64 ((a0.size:Int) - 1)) then (if (wrap64 ((a0.size:Int) - 1)) < (a0.size:Int) then (if (bt a0 (wrap64 ((a0.size:Int) - 1)))=93 then (if 1≤(wrap64 ((a0.size:Int) - 1)) then (if (wrap64 ((a0.size:Int) - 1))≤(a0.size:Int) then ((bZ.f k (a0.extract 1 ((wrap64 ((a0.size:Int) - 1)):Int).toNat)).bind fun t147=>(some t147)) else (none)) else (none)) else (some false)) else (none)) else (none)) else (some false)) else (none)) else (some false)
theorem gD.mono:∀ a0 k,cR (gD.f k a0) (gD.f (k + 1) a0):=by
 intro a0 k
 unfold gD.f
 repeat' first
  |(with_reducible exact bZ.mono _ _)
  |(with_reducible exact cR.refl _)
  |(with_reducible exact cR.none _)
  |(with_reducible refine cR.ite ?_ ?_)
  |(with_reducible refine cR.bind ?_ (fun _ =>?_))
  |refine cR.ite ?_ ?_
  |refine cR.bind ?_ (fun _ =>?_)
set_option maxHeartbeats 8000000 in
set_option maxRecDepth 100000 in
theorem gD.calls (k:Nat) (a0:ByteArray) (r:Bool) (w:World) (hG:aT w) (h:gD.f k a0=some r):
 Calls Tryz.prog 95 #[.string a0] w fun e w'=>e= .returned (.bool r)∧Below w.heap.size w w':=by
 have HB:=ah.mk (Below.refl w.heap.size w)
 have HG:=ah.mk hG
 clear hG
 have H:(if (a0.size:Int) > 2 then (if 0 < (a0.size:Int) then (if (bt a0 0)=91 then (if 0≤(wrap64 ((a0.size:Int) - 1)) then (if (wrap64 ((a0.size:Int) - 1)) < (a0.size:Int) then (if (bt a0 (wrap64 ((a0.size:Int) - 1)))=93 then (if 1≤(wrap64 ((a0.size:Int) - 1)) then (if (wrap64 ((a0.size:Int) - 1))≤(a0.size:Int) then ((bZ.f k (a0.extract 1 ((wrap64 ((a0.size:Int) - 1)):Int).toNat)).bind fun t147=>(some t147)) else (none)) else (none)) else (some false)) else (none)) else (none)) else (some false)) else (none)) else (some false))=some r:=h
 clear h
 by_cases c2:(a0.size:Int) > 2
 ·rw [if_pos c2] at H
  have BM:decide (2 < (a0.size:Int))=true:=decide_eq_true c2
  have Og:decide (2 < a0.size)=true:=decide_eq_true aq
  clear c2
  by_cases c3: 0 < (a0.size:Int)
  ·rw [if_pos c3] at H
   have qm:decide (0 < (a0.size:Int))=true:=decide_eq_true c3
   have LD:decide (0 < a0.size)=true:=decide_eq_true aq
   clear c3
   by_cases c5:(bt a0 0)=91
   ·rw [if_pos c5] at H
    have tR:((bt a0 0) == 91)=true:=beq_iff_eq.mpr c5
    have UR:((bt a0 0) != 91)=false:=bne_eq_false_iff_eq.mpr c5
    clear c5
    obtain ⟨BN,W4⟩:∃ j_:Int,(wrap64 ((a0.size:Int) - 1))=j_ :=⟨_,rfl⟩
    replace H:(if 0≤(BN) then (if (BN) < (a0.size:Int) then (if (bt a0 (BN))=93 then (if 1≤(BN) then (if (BN)≤(a0.size:Int) then ((bZ.f k (a0.extract 1 ((BN):Int).toNat)).bind fun t147=>(some t147)) else (none)) else (none)) else (some false)) else (none)) else (none))=some r:=by first|(rw [W4] at H;exact H)|(simp only [W4] at H ⊢;exact H)
    have aoz:(IntKind.i64.wrap ((a0.size:Int) - 1))=BN:=(dB _).trans W4
    by_cases c7: 0≤(BN)
    ·rw [if_pos c7] at H
     have Gm:decide (0≤(BN))=true:=decide_eq_true c7
     clear c7
     by_cases c8:(BN) < (a0.size:Int)
     ·rw [if_pos c8] at H
      have IM:decide ((BN) < (a0.size:Int))=true:=decide_eq_true c8
      clear c8
      by_cases c10:(bt a0 (BN))=93
      ·rw [if_pos c10] at H
       have pO:((bt a0 (BN)) == 93)=true:=beq_iff_eq.mpr c10
       have yZ:((bt a0 (BN)) != 93)=false:=bne_eq_false_iff_eq.mpr c10
       clear c10
       by_cases c11: 1≤(BN)
       ·rw [if_pos c11] at H
        have za:=eq_true c11
        have LG:decide (1≤(BN))=true:=decide_eq_true c11
        clear c11
        by_cases c12:(BN)≤(a0.size:Int)
        ·rw [if_pos c12] at H
         have Ct:=eq_true c12
         have LH:decide ((BN)≤(a0.size:Int))=true:=decide_eq_true c12
         clear c12
         replace H:=Option.bind_eq_some_iff.mp H
         obtain ⟨t147,ad5,H⟩:=H
         replace H:(some t147)=some r:=H
         have A13:=ah.mk ad5
         clear ad5
         obtain rfl:=Option.some.inj H
         have p4: 0≤(0:Int):=aq
         have q4: 0 < a0.size:=(by have:(0:Int) < (a0.size:Int):=of_decide_eq_true cX;omega)
         have hx4:∀ h: 0 < a0.size,((a0[0]'h).toNat:Int)=bt a0 0:=gV a0 0
         clear p4
         have qi4:(0 < (a0.size:Int))=True:=eq_true (of_decide_eq_true cX)
         replace q4:=eq_true q4
         have p9: 0≤((BN):Int):=of_decide_eq_true cX
         have q9:(BN) < (a0.size:Int):=of_decide_eq_true cX
         have hx9:=gV a0 (BN)
         replace p9:=eq_true p9
         replace q9:=eq_true q9
         go_enter Tryz.func95,Tryz.ntmps95
         go_wp2_with (first|(go_at_call 27;(with_reducible refine (bZ.calls k (a0.extract 1 ((BN):Int).toNat) t147 _ ?aX A13.out).mono ?_);(case aX=>exact aT.below HG.out cw);rintro e GU ⟨rfl,hb⟩;have bD:=ah.mk (ay cw hb);clear HB;have HB:=bD;clear bD;(try clear hb);(try clear hb2);(try clear hk);(try clear hi)))
         go_ret
         exact ⟨PM,cw⟩
        ·rw [if_neg c12] at H
         exact absurd H bn
       ·rw [if_neg c11] at H
        exact absurd H bn
      ·rw [if_neg c10] at H
       have pO:((bt a0 (BN)) == 93)=false:=beq_eq_false_iff_ne.mpr c10
       have yZ:((bt a0 (BN)) != 93)=true:=bne_iff_ne.mpr c10
       obtain rfl:=Option.some.inj H
       have p4: 0≤(0:Int):=aq
       have q4: 0 < a0.size:=(by have:(0:Int) < (a0.size:Int):=of_decide_eq_true cX;omega)
       have hx4:∀ h: 0 < a0.size,((a0[0]'h).toNat:Int)=bt a0 0:=gV a0 0
       clear p4
       have qi4:(0 < (a0.size:Int))=True:=eq_true (of_decide_eq_true cX)
       replace q4:=eq_true q4
       have p9: 0≤((BN):Int):=of_decide_eq_true cX
       have q9:(BN) < (a0.size:Int):=of_decide_eq_true cX
       have hx9:=gV a0 (BN)
       replace p9:=eq_true p9
       replace q9:=eq_true q9
       go_enter Tryz.func95,Tryz.ntmps95
       go_wp2
       go_ret
       exact ⟨PM,cw⟩
     ·rw [if_neg c8] at H
      exact absurd H bn
    ·rw [if_neg c7] at H
     exact absurd H bn
   ·rw [if_neg c5] at H
    have tR:((bt a0 0) == 91)=false:=beq_eq_false_iff_ne.mpr c5
    have UR:((bt a0 0) != 91)=true:=bne_iff_ne.mpr c5
    obtain rfl:=Option.some.inj H
    have p4: 0≤(0:Int):=aq
    have q4: 0 < a0.size:=(by have:(0:Int) < (a0.size:Int):=of_decide_eq_true cX;omega)
    have hx4:∀ h: 0 < a0.size,((a0[0]'h).toNat:Int)=bt a0 0:=gV a0 0
    clear p4
    have qi4:(0 < (a0.size:Int))=True:=eq_true (of_decide_eq_true cX)
    replace q4:=eq_true q4
    go_enter Tryz.func95,Tryz.ntmps95
    go_wp2
    go_ret
    exact ⟨cZ,cw⟩
  ·rw [if_neg c3] at H
   exact absurd H bn
 ·rw [if_neg c2] at H
  have BM:decide (2 < (a0.size:Int))=false:=decide_eq_false c2
  have Og:decide (2 < a0.size)=false:=decide_eq_false aq
  clear c2
  obtain rfl:=Option.some.inj H
  go_enter Tryz.func95,Tryz.ntmps95
  go_wp2
  go_ret
  exact ⟨cZ,cw⟩
def stringslite_HasPrefix.f (a0:ByteArray) (a1:ByteArray):Option (Bool):=if (a0.size:Int)≥(a1.size:Int) then (if 0≤(a1.size:Int) then (if (a1.size:Int)≤(a0.size:Int) then (some ((a0.extract 0 ((a1.size:Int):Int).toNat).toList == a1.toList)) else (none)) else (none)) else (some false)
set_option maxHeartbeats 8000000 in
set_option maxRecDepth 100000 in
theorem stringslite_HasPrefix.calls (a0:ByteArray) (a1:ByteArray) (r:Bool) (w:World) (h:stringslite_HasPrefix.f a0 a1=some r):
 Calls Tryz.prog 98 #[.string a0,.string a1] w fun e w'=>e= .returned (.bool r)∧kg w w':=by
 have H:(if (a0.size:Int)≥(a1.size:Int) then (if 0≤(a1.size:Int) then (if (a1.size:Int)≤(a0.size:Int) then (some ((a0.extract 0 ((a1.size:Int):Int).toNat).toList == a1.toList)) else (none)) else (none)) else (some false))=some r:=h
 clear h
 by_cases c3:(a0.size:Int)≥(a1.size:Int)
 ·rw [if_pos c3] at H
  have qm:decide ((a1.size:Int)≤(a0.size:Int))=true:=decide_eq_true c3
  have LD:decide (a1.size≤a0.size)=true:=decide_eq_true (Int.ofNat_le.mp c3)
  clear c3
  by_cases c4: 0≤(a1.size:Int)
  ·rw [if_pos c4] at H
   have oL:=eq_true c4
   have Gn:decide (0≤(a1.size:Int))=true:=decide_eq_true c4
   clear c4
   by_cases c5:(a1.size:Int)≤(a0.size:Int)
   ·rw [if_pos c5] at H
    have tR:=eq_true c5
    have UR:decide ((a1.size:Int)≤(a0.size:Int))=true:=decide_eq_true c5
    clear c5
    obtain rfl:=Option.some.inj H
    go_enter Tryz.func98,Tryz.ntmps98
    go_wp2
    go_ret
    exact ⟨ey,kJ⟩
   ·rw [if_neg c5] at H
    exact absurd H bn
  ·rw [if_neg c4] at H
   exact absurd H bn
 ·rw [if_neg c3] at H
  have qm:decide ((a1.size:Int)≤(a0.size:Int))=false:=decide_eq_false c3
  have LD:decide (a1.size≤a0.size)=false:=decide_eq_false (fun h=>c3 (Int.ofNat_le.mpr h))
  clear c3
  obtain rfl:=Option.some.inj H
  go_enter Tryz.func98,Tryz.ntmps98
  go_wp2
  go_ret
  exact ⟨ey,kJ⟩
def strings_HasPrefix.f (a0:ByteArray) (a1:ByteArray):Option (Bool):=(stringslite_HasPrefix.f a0 a1).bind fun t148=>(some t148)
set_option maxHeartbeats 8000000 in
set_option maxRecDepth 100000 in
theorem strings_HasPrefix.calls (a0:ByteArray) (a1:ByteArray) (r:Bool) (w:World) (h:strings_HasPrefix.f a0 a1=some r):
 Calls Tryz.prog 37 #[.string a0,.string a1] w fun e w'=>e= .returned (.bool r)∧kg w w':=by
 have H:((stringslite_HasPrefix.f a0 a1).bind fun t148=>(some t148))=some r:=h
 clear h
 replace H:=Option.bind_eq_some_iff.mp H
 obtain ⟨t148,wQ,H⟩:=H
 replace H:(some t148)=some r:=H
 have A3:=ah.mk wQ
 clear wQ
 obtain rfl:=Option.some.inj H
 go_enter Tryz.func37,Tryz.ntmps37
 go_wp2_with (first|((with_reducible refine aN (f:=98) rfl ?_);refine cr (some 7) rfl rfl Tryz.func98 au rfl #[.string a0,.string a1] rfl cV ?_;(with_reducible refine (stringslite_HasPrefix.calls a0 a1 t148 _ A3.out).mono ?_);rintro e w' ⟨rfl,⟨nd,rfl⟩⟩;refine ⟨_,rfl,?_⟩))
 go_ret
 exact ⟨ey,kJ⟩
end Go.Proofs.YtokpnfljjjjikaaGreatDoor.nX
