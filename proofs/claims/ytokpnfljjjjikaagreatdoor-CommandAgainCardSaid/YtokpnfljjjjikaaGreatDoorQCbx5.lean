import Derived.Test.YtokpnfljjjjikaaGreatDoorZo
import Derived.Test.YtokpnfljjjjikaaGreatDoorQCbx0
import Derived.Test.YtokpnfljjjjikaaGreatDoorECmd
import Derived.Test.YtokpnfljjjjikaaGreatDoorELit
import Derived.Test.YtokpnfljjjjikaaGreatDoorESmall
import Derived.Test.YtokpnfljjjjikaaGreatDoorEStr
namespace Go.Proofs.YtokpnfljjjjikaaGreatDoor.pJ
open Go.RowKit Go.Proofs.aj.bV Go.Proofs.aj.gq Go.Proofs.aj.dB
attribute [local go_sem] jo jq kM kN iO iP jr jt
set_option linter.unusedVariables false
set_option linter.unusedSimpArgs false
def cB.f (a0:ByteArray):Option (ByteArray):=(gW.f a0 97 122 (-32)).bind fun t131=>(some t131)
set_option maxHeartbeats 8000000 in
set_option maxRecDepth 100000 in
theorem cB.calls (a0:ByteArray) (r:ByteArray) (w:World) (h:cB.f a0=some r):
 Calls Tryz.prog 93 #[.string a0] w fun e w'=>e= .returned (.string r)∧Below w.heap.size w w':=by
 have HB:=ah.mk (Below.refl w.heap.size w)
 have H:((gW.f a0 97 122 (-32)).bind fun t131=>(some t131))=some r:=h
 clear h
 replace H:=Option.bind_eq_some_iff.mp H
 obtain ⟨t131,nU,H⟩:=H
 replace H:(some t131)=some r:=H
 have A2:=ah.mk nU
 clear nU
 obtain rfl:=Option.some.inj H
 go_enter Tryz.func93,Tryz.ntmps93
 go_wp2_with (first|((with_reducible refine aQ (f:=140) rfl ?_);refine cu (some 4) rfl rfl Tryz.func140 av rfl #[.string a0,.int .u8 97,.int .u8 122,.int .i64 (-32)] rfl cT ?_;(with_reducible refine (gW.calls a0 97 122 (-32) t131 _ A2.out).mono ?_);rintro e w3 ⟨rfl,hb⟩;refine ⟨_,rfl,?_⟩;have bB:=ah.mk (ay bN hb);clear HB;have HB:=bB;clear bB;(try clear hb);(try clear hb2);(try clear hk);(try clear hi)))
 go_ret
 exact ⟨cR,bN⟩
def iq.f (a0:ByteArray):Option (ByteArray):=(gW.f a0 65 90 32).bind fun t132=>(some t132)
set_option maxHeartbeats 8000000 in
set_option maxRecDepth 100000 in
theorem iq.calls (a0:ByteArray) (r:ByteArray) (w:World) (h:iq.f a0=some r):
 Calls Tryz.prog 94 #[.string a0] w fun e w'=>e= .returned (.string r)∧Below w.heap.size w w':=by
 have HB:=ah.mk (Below.refl w.heap.size w)
 have H:((gW.f a0 65 90 32).bind fun t132=>(some t132))=some r:=h
 clear h
 replace H:=Option.bind_eq_some_iff.mp H
 obtain ⟨t132,nU,H⟩:=H
 replace H:(some t132)=some r:=H
 have A2:=ah.mk nU
 clear nU
 obtain rfl:=Option.some.inj H
 go_enter Tryz.func94,Tryz.ntmps94
 go_wp2_with (first|((with_reducible refine aQ (f:=140) rfl ?_);refine cu (some 4) rfl rfl Tryz.func140 av rfl #[.string a0,.int .u8 65,.int .u8 90,.int .i64 32] rfl cT ?_;(with_reducible refine (gW.calls a0 65 90 32 t132 _ A2.out).mono ?_);rintro e w3 ⟨rfl,hb⟩;refine ⟨_,rfl,?_⟩;have bB:=ah.mk (ay bN hb);clear HB;have HB:=bB;clear bB;(try clear hb);(try clear hb2);(try clear hk);(try clear hi)))
 go_ret
 exact ⟨cR,bN⟩
def p8.f (a0:ByteArray):Option (Bool):=(strings_Cut.f a0 (⟨#[58,58]⟩:ByteArray)).bind fun FH=>((fF.f FH.1).bind fun t136=>((fF.f FH.2.1).bind fun t137=>(if FH.2.2=true then (if t136≥0 then (if t137≥0 then (some (decide ((wrap64 (t136 + t137))≤6))) else (some false)) else (some false)) else (some (t136 == 8)))))
set_option maxHeartbeats 8000000 in
set_option maxRecDepth 100000 in
theorem p8.calls (a0:ByteArray) (r:Bool) (w:World) (hG:aU w) (h:p8.f a0=some r):
 Calls Tryz.prog 82 #[.string a0] w fun e w'=>e= .returned (.bool r)∧Below w.heap.size w w':=by
 have HB:=ah.mk (Below.refl w.heap.size w)
 have HG:=ah.mk hG
 clear hG
 have H:((strings_Cut.f a0 (⟨#[58,58]⟩:ByteArray)).bind fun FH=>((fF.f FH.1).bind fun t136=>((fF.f FH.2.1).bind fun t137=>(if FH.2.2=true then (if t136≥0 then (if t137≥0 then (some (decide ((wrap64 (t136 + t137))≤6))) else (some false)) else (some false)) else (some (t136 == 8))))))=some r:=h
 clear h
 replace H:=Option.bind_eq_some_iff.mp H
 obtain ⟨⟨t133,t134,t135⟩,nU,H⟩:=H
 replace H:((fF.f t133).bind fun t136=>((fF.f t134).bind fun t137=>(if t135=true then (if t136≥0 then (if t137≥0 then (some (decide ((wrap64 (t136 + t137))≤6))) else (some false)) else (some false)) else (some (t136 == 8)))))=some r:=H
 have A2:=ah.mk nU
 clear nU
 replace H:=Option.bind_eq_some_iff.mp H
 obtain ⟨t136,zl,H⟩:=H
 replace H:((fF.f t134).bind fun t137=>(if t135=true then (if t136≥0 then (if t137≥0 then (some (decide ((wrap64 (t136 + t137))≤6))) else (some false)) else (some false)) else (some (t136 == 8))))=some r:=H
 have A3:=ah.mk zl
 clear zl
 replace H:=Option.bind_eq_some_iff.mp H
 obtain ⟨t137,Bg,H⟩:=H
 replace H:(if t135=true then (if t136≥0 then (if t137≥0 then (some (decide ((wrap64 (t136 + t137))≤6))) else (some false)) else (some false)) else (some (t136 == 8)))=some r:=H
 have A4:=ah.mk Bg
 clear Bg
 by_cases c5:t135=true
 ·subst c5
  have H1:(if t136≥0 then (if t137≥0 then (some (decide ((wrap64 (t136 + t137))≤6))) else (some false)) else (some false))=some r:=by rw [if_pos rfl] at H;exact H
  clear H
  have H:=H1
  clear H1
  by_cases c6:t136≥0
  ·rw [if_pos c6] at H
   have pP:decide (0≤t136)=true:=decide_eq_true c6
   clear c6
   by_cases c7:t137≥0
   ·rw [if_pos c7] at H
    have GH:decide (0≤t137)=true:=decide_eq_true c7
    clear c7
    obtain rfl:=Option.some.inj H
    go_enter Tryz.func82,Tryz.ntmps82
    go_wp2_with (first|((with_reducible refine aQ (f:=91) rfl ?_);refine cu (some 10) rfl rfl Tryz.func91 av rfl #[.string a0,.string (⟨#[58,58]⟩:ByteArray)] rfl cT ?_;(with_reducible refine (strings_Cut.calls a0 (⟨#[58,58]⟩:ByteArray) t133 t134 true _ ?aX A2.out).mono ?_);(case aX=>exact aU.below HG.out bN);rintro e w' ⟨rfl,⟨nd,rfl⟩⟩;refine ⟨_,rfl,?_⟩)|((with_reducible refine aQ (f:=130) rfl ?_);refine cu (some 15) rfl rfl Tryz.func130 av rfl #[.string t133] rfl cT ?_;(with_reducible refine (fF.calls t133 t136 _ ?aX A3.out).mono ?_);(case aX=>exact aU.below HG.out bN);rintro e w8 ⟨rfl,hb⟩;refine ⟨_,rfl,?_⟩;have bB:=ah.mk (ay bN hb);clear HB;have HB:=bB;clear bB;(try clear hb);(try clear hb2);(try clear hk);(try clear hi))|((with_reducible refine aQ (f:=130) rfl ?_);refine cu (some 17) rfl rfl Tryz.func130 av rfl #[.string t134] rfl cT ?_;(with_reducible refine (fF.calls t134 t137 _ ?aX A4.out).mono ?_);(case aX=>exact aU.below HG.out bN);rintro e w9 ⟨rfl,hb⟩;refine ⟨_,rfl,?_⟩;have bB:=ah.mk (ay bN hb);clear HB;have HB:=bB;clear bB;(try clear hb);(try clear hb2);(try clear hk);(try clear hi)))
    go_ret
    exact ⟨cR,bN⟩
   ·rw [if_neg c7] at H
    have GH:decide (0≤t137)=false:=decide_eq_false c7
    clear c7
    obtain rfl:=Option.some.inj H
    go_enter Tryz.func82,Tryz.ntmps82
    go_wp2_with (first|((with_reducible refine aQ (f:=91) rfl ?_);refine cu (some 10) rfl rfl Tryz.func91 av rfl #[.string a0,.string (⟨#[58,58]⟩:ByteArray)] rfl cT ?_;(with_reducible refine (strings_Cut.calls a0 (⟨#[58,58]⟩:ByteArray) t133 t134 true _ ?aX A2.out).mono ?_);(case aX=>exact aU.below HG.out bN);rintro e w' ⟨rfl,⟨nd,rfl⟩⟩;refine ⟨_,rfl,?_⟩)|((with_reducible refine aQ (f:=130) rfl ?_);refine cu (some 15) rfl rfl Tryz.func130 av rfl #[.string t133] rfl cT ?_;(with_reducible refine (fF.calls t133 t136 _ ?aX A3.out).mono ?_);(case aX=>exact aU.below HG.out bN);rintro e uk ⟨rfl,hb⟩;refine ⟨_,rfl,?_⟩;have bB:=ah.mk (ay bN hb);clear HB;have HB:=bB;clear bB;(try clear hb);(try clear hb2);(try clear hk);(try clear hi))|((with_reducible refine aQ (f:=130) rfl ?_);refine cu (some 17) rfl rfl Tryz.func130 av rfl #[.string t134] rfl cT ?_;(with_reducible refine (fF.calls t134 t137 _ ?aX A4.out).mono ?_);(case aX=>exact aU.below HG.out bN);rintro e w11 ⟨rfl,hb⟩;refine ⟨_,rfl,?_⟩;have bB:=ah.mk (ay bN hb);clear HB;have HB:=bB;clear bB;(try clear hb);(try clear hb2);(try clear hk);(try clear hi)))
    go_ret
    exact ⟨cR,bN⟩
  ·rw [if_neg c6] at H
   have pP:decide (0≤t136)=false:=decide_eq_false c6
   clear c6
   obtain rfl:=Option.some.inj H
   go_enter Tryz.func82,Tryz.ntmps82
   go_wp2_with (first|((with_reducible refine aQ (f:=91) rfl ?_);refine cu (some 10) rfl rfl Tryz.func91 av rfl #[.string a0,.string (⟨#[58,58]⟩:ByteArray)] rfl cT ?_;(with_reducible refine (strings_Cut.calls a0 (⟨#[58,58]⟩:ByteArray) t133 t134 true _ ?aX A2.out).mono ?_);(case aX=>exact aU.below HG.out bN);rintro e w' ⟨rfl,⟨nd,rfl⟩⟩;refine ⟨_,rfl,?_⟩)|((with_reducible refine aQ (f:=130) rfl ?_);refine cu (some 15) rfl rfl Tryz.func130 av rfl #[.string t133] rfl cT ?_;(with_reducible refine (fF.calls t133 t136 _ ?aX A3.out).mono ?_);(case aX=>exact aU.below HG.out bN);rintro e Rv ⟨rfl,hb⟩;refine ⟨_,rfl,?_⟩;have bB:=ah.mk (ay bN hb);clear HB;have HB:=bB;clear bB;(try clear hb);(try clear hb2);(try clear hk);(try clear hi))|((with_reducible refine aQ (f:=130) rfl ?_);refine cu (some 17) rfl rfl Tryz.func130 av rfl #[.string t134] rfl cT ?_;(with_reducible refine (fF.calls t134 t137 _ ?aX A4.out).mono ?_);(case aX=>exact aU.below HG.out bN);rintro e mA ⟨rfl,hb⟩;refine ⟨_,rfl,?_⟩;have bB:=ah.mk (ay bN hb);clear HB;have HB:=bB;clear bB;(try clear hb);(try clear hb2);(try clear hk);(try clear hi)))
   go_ret
   exact ⟨cR,bN⟩
 ·replace c5:=Bool.eq_false_iff.mpr c5
  subst c5
  have H1:(some (t136 == 8))=some r:=by rw [if_neg (show ¬ (false=true) by decide)] at H;exact H
  clear H
  have H:=H1
  clear H1
  obtain rfl:=Option.some.inj H
  go_enter Tryz.func82,Tryz.ntmps82
  go_wp2_with (first|((with_reducible refine aQ (f:=91) rfl ?_);refine cu (some 10) rfl rfl Tryz.func91 av rfl #[.string a0,.string (⟨#[58,58]⟩:ByteArray)] rfl cT ?_;(with_reducible refine (strings_Cut.calls a0 (⟨#[58,58]⟩:ByteArray) t133 t134 false _ ?aX A2.out).mono ?_);(case aX=>exact aU.below HG.out bN);rintro e w' ⟨rfl,⟨nd,rfl⟩⟩;refine ⟨_,rfl,?_⟩)|((with_reducible refine aQ (f:=130) rfl ?_);refine cu (some 15) rfl rfl Tryz.func130 av rfl #[.string t133] rfl cT ?_;(with_reducible refine (fF.calls t133 t136 _ ?aX A3.out).mono ?_);(case aX=>exact aU.below HG.out bN);rintro e Hh ⟨rfl,hb⟩;refine ⟨_,rfl,?_⟩;have bB:=ah.mk (ay bN hb);clear HB;have HB:=bB;clear bB;(try clear hb);(try clear hb2);(try clear hk);(try clear hi))|((with_reducible refine aQ (f:=130) rfl ?_);refine cu (some 17) rfl rfl Tryz.func130 av rfl #[.string t134] rfl cT ?_;(with_reducible refine (fF.calls t134 t137 _ ?aX A4.out).mono ?_);(case aX=>exact aU.below HG.out bN);rintro e Hj ⟨rfl,hb⟩;refine ⟨_,rfl,?_⟩;have bB:=ah.mk (ay bN hb);clear HB;have HB:=bB;clear bB;(try clear hb);(try clear hb2);(try clear hk);(try clear hi)))
  go_ret
  exact ⟨cR,bN⟩
def aD.l0:Nat→List ByteArray→Int→Int→Option (Int)
 | 0,_,_,_ =>none
 |k + 1,x0,x7,x8=>if x8 < x7 then (if 0≤x8 then (if x8 < (x0.length:Int) then ((gD.f (kB ByteArray.empty x0 x8)).bind fun t139=>(if t139=true then (some x8) else (aD.l0 k x0 x7 (wrap64 (x8 + 1))))) else (none)) else (none)) else (some (-1))
def aD.f (k:Nat) (l0:List ByteArray):Option (Int):=aD.l0 k l0 (l0.length:Int) 0
theorem aD.gf:∀ k,(∀ y0 y1 y2,cN (aD.l0 k y0 y1 y2) (aD.l0 (k + 1) y0 y1 y2))
 | 0=>fun _ _ _ r h=>by simp [aD.l0] at h
 |k + 1=>by
  have oo:=aD.gf k
  ·intro y0 y1 y2
   unfold aD.l0
   repeat' first
   |(with_reducible exact oo _ _ _)
   |(with_reducible exact cN.refl _)
   |(with_reducible exact cN.none _)
   |(with_reducible refine cN.ite ?_ ?_)
   |(with_reducible refine cN.bind ?_ (fun _ =>?_))
   |refine cN.ite ?_ ?_
   |refine cN.bind ?_ (fun _ =>?_)
theorem aD.mono:∀ a0 k,cN (aD.f k a0) (aD.f (k + 1) a0):=by
 intro a0 k
 have oo:=aD.gf k
 unfold aD.f
 repeat' first
  |(with_reducible exact oo _ _ _)
  |(with_reducible exact cN.refl _)
  |(with_reducible exact cN.none _)
  |(with_reducible refine cN.ite ?_ ?_)
  |(with_reducible refine cN.bind ?_ (fun _ =>?_))
  |refine cN.ite ?_ ?_
  |refine cN.bind ?_ (fun _ =>?_)
set_option maxHeartbeats 8000000 in
set_option maxRecDepth 100000 in
theorem aD.calls (k:Nat) (A0:Option Addr) (c0:Nat) (l0:List ByteArray) (r:Int) (w:World) (zH:Kd.C Kd.string w A0 l0.length l0) (hc0:l0.length≤c0) (hG:aU w) (h:aD.f k l0=some r):
 Calls Tryz.prog 117 #[.slice A0 l0.length c0,.func (.func 83) #[] #[]] w fun e w'=>e= .returned (.int .i64 r)∧Below w.heap.size w w':=by
 have yM:=ah.mk zH
 have Rt:=ah.mk hc0
 clear zH hc0
 have HB:=ah.mk (Below.refl w.heap.size w)
 have HG:=ah.mk hG
 clear hG
 have H:(aD.l0 k l0 (l0.length:Int) 0)=some r:=h
 clear h
 have H':=ah.mk H
 clear H
 go_enter Tryz.func117,Tryz.ntmps117
 go_wp2
 go_loopg [8] k (fun kq v8 w'=>∃ (fA:Int),v8= .int .i64 fA∧ah (aD.l0 kq l0 (l0.length:Int) fA=some r)∧ah (kq≤k)∧ah (Below w.heap.size w w'))
 case atStart=>exact ⟨(0),ey,H',⟨Nat.le_refl _⟩,⟨bN⟩⟩
 case round=>
  clear H'
  try clear c1
  try clear p2
  obtain ⟨fA,rfl,HA,uX,HB⟩:=hrel
  cases gk with
  |zero=>exact absurd HA.out (by simp [aD.l0])
  |succ k1=>
   have H:=HA.out
   clear HA
   simp only [aD.l0] at H
   by_cases c3:fA < (l0.length:Int)
   ·rw [if_pos c3] at H
    have pX:decide (fA < (l0.length:Int))=true:=decide_eq_true c3
    clear c3
    by_cases c4: 0≤fA
    ·rw [if_pos c4] at H
     have o9:decide (0≤fA)=true:=decide_eq_true c4
     clear c4
     by_cases c5:fA < (l0.length:Int)
     ·rw [if_pos c5] at H
      have uB:decide (fA < (l0.length:Int))=true:=decide_eq_true c5
      clear c5
      replace H:=Option.bind_eq_some_iff.mp H
      obtain ⟨t139,xw,H⟩:=H
      replace H:(if t139=true then (some fA) else (aD.l0 k1 l0 (l0.length:Int) (wrap64 (fA + 1))))=some r:=H
      have A6:=ah.mk xw
      clear xw
      by_cases c7:t139=true
      ·subst c7
       have H1:(some fA)=some r:=by rw [if_pos rfl] at H;exact H
       clear H
       have H:=H1
       clear H1
       obtain rfl:=Option.some.inj H
       have OH: 0≤(fA:Int):=of_decide_eq_true cW
       have OI:fA < (l0.length:Int):=of_decide_eq_true cW
       obtain ⟨ad3,abB,wk⟩:=Kd.jA yM.out fA OH OI
       cases abB
       replace wk:=(HB.out.cell (World.block_lt_of_cell? w _ wk)).trans wk
       replace OH:=eq_true OH
       replace OI:=eq_true OI
       go_wp2_with (first|(go_at_call 83;(with_reducible refine (gD.calls (kB ByteArray.empty l0 fA) true _ ?aX A6.out).mono ?_);(case aX=>exact aU.below HG.out bN);rintro e w8 ⟨rfl,hb⟩;have bB:=ah.mk (ay bN hb);clear HB;have HB:=bB;clear bB;(try clear hb);(try clear hb2);(try clear hk);(try clear hi)))
       go_ret
       exact ⟨cR,bN⟩
      ·replace c7:=Bool.eq_false_iff.mpr c7
       subst c7
       have H1:(aD.l0 k1 l0 (l0.length:Int) (wrap64 (fA + 1)))=some r:=by rw [if_neg (show ¬ (false=true) by decide)] at H;exact H
       clear H
       have H:=H1
       clear H1
       have H':=ah.mk H
       clear H
       have OH: 0≤(fA:Int):=of_decide_eq_true cW
       have OI:fA < (l0.length:Int):=of_decide_eq_true cW
       obtain ⟨ad3,abB,wk⟩:=Kd.jA yM.out fA OH OI
       cases abB
       replace wk:=(HB.out.cell (World.block_lt_of_cell? w _ wk)).trans wk
       replace OH:=eq_true OH
       replace OI:=eq_true OI
       go_wp2_with (first|(go_at_call 83;(with_reducible refine (gD.calls (kB ByteArray.empty l0 fA) false _ ?aX A6.out).mono ?_);(case aX=>exact aU.below HG.out bN);rintro e w9 ⟨rfl,hb⟩;have bB:=ah.mk (ay bN hb);clear HB;have HB:=bB;clear bB;(try clear hb);(try clear hb2);(try clear hk);(try clear hi)))
       go_roundg k1
       case measure=>have:=uX.out;omega
       case rel=>exact ⟨(wrap64 (fA + 1)),ey,H',⟨j6⟩,⟨bN⟩⟩
     ·rw [if_neg c5] at H
      exact absurd H bn
    ·rw [if_neg c4] at H
     exact absurd H bn
   ·rw [if_neg c3] at H
    have pX:decide (fA < (l0.length:Int))=false:=decide_eq_false c3
    clear c3
    obtain rfl:=Option.some.inj H
    go_wp2
    go_ret
    exact ⟨cR,bN⟩
def bF.f (k:Nat) (l0:List ByteArray):Option (Bool):=(aD.f k l0).bind fun t140=>(some (decide (t140≥0)))
theorem bF.mono:∀ a0 k,cN (bF.f k a0) (bF.f (k + 1) a0):=by
 intro a0 k
 unfold bF.f
 repeat' first
  |(with_reducible exact aD.mono _ _)
  |(with_reducible exact cN.refl _)
  |(with_reducible exact cN.none _)
  |(with_reducible refine cN.ite ?_ ?_)
  |(with_reducible refine cN.bind ?_ (fun _ =>?_))
  |refine cN.ite ?_ ?_
  |refine cN.bind ?_ (fun _ =>?_)
set_option maxHeartbeats 8000000 in
set_option maxRecDepth 100000 in
theorem bF.calls (k:Nat) (A0:Option Addr) (c0:Nat) (l0:List ByteArray) (r:Bool) (w:World) (zH:Kd.C Kd.string w A0 l0.length l0) (hc0:l0.length≤c0) (hG:aU w) (h:bF.f k l0=some r):
 Calls Tryz.prog 59 #[.slice A0 l0.length c0,.func (.func 83) #[] #[]] w fun e w'=>e= .returned (.bool r)∧Below w.heap.size w w':=by
 have yM:=ah.mk zH
 have Rt:=ah.mk hc0
 clear zH hc0
 have HB:=ah.mk (Below.refl w.heap.size w)
 have HG:=ah.mk hG
 clear hG
 have H:((aD.f k l0).bind fun t140=>(some (decide (t140≥0))))=some r:=h
 clear h
 replace H:=Option.bind_eq_some_iff.mp H
 obtain ⟨t140,zl,H⟩:=H
 replace H:(some (decide (t140≥0)))=some r:=H
 have A3:=ah.mk zl
 clear zl
 obtain rfl:=Option.some.inj H
 go_enter Tryz.func59,Tryz.ntmps59
 go_wp2_with (first|((with_reducible refine aQ (f:=117) rfl ?_);refine cu (some 7) rfl rfl Tryz.func117 av rfl #[.slice A0 l0.length c0,.func (.func 83) #[] #[]] rfl cT ?_;(with_reducible refine (aD.calls k _ _ l0 t140 _ ?aX ?bT ?eo A3.out).mono ?_);(case aX=>repeat (first|exact yM.out|(with_reducible refine Kd.eJ ?_ _)|(with_reducible refine Kd.eK ?_ _)|(with_reducible refine Kd.fR ?_)));(case bT=>exact Rt.out);(case eo=>exact aU.below HG.out bN);rintro e w4 ⟨rfl,hb⟩;refine ⟨_,rfl,?_⟩;have bB:=ah.mk (ay bN hb);clear HB;have HB:=bB;clear bB;(try clear hb);(try clear hb2);(try clear hk);(try clear hi)))
 go_ret
 exact ⟨cR,bN⟩
def bZ.j0:Nat→ByteArray→Bool→Option (Bool)
 | 0,_,_ =>none
 |k + 1,x0,x12=>if x12=true then (if 5≤(x0.size:Int) then ((p8.f (x0.extract 5 x0.size)).bind fun t142=>(some t142)) else (none)) else ((strings_Split.f x0 (⟨#[46]⟩:ByteArray)).bind fun t143=>(if (t143.length:Int)=4 then ((bF.f k t143).bind fun t146=>(some (!t146))) else (some false)))
def bZ.f (k:Nat) (a0:ByteArray):Option (Bool):=if (a0.size:Int) > 5 then (if 0≤5 then (if 5≤(a0.size:Int) then ((cH.f (a0.extract 0 5)).bind fun t141=>(bZ.j0 k a0 (t141.toList == ([105,112,118,54,58]:List UInt8)))) else (none)) else (none)) else (bZ.j0 k a0 false)
theorem bZ.gf:∀ k,(∀ y0 y1,cN (bZ.j0 k y0 y1) (bZ.j0 (k + 1) y0 y1))
 | 0=>fun _ _ r h=>by simp [bZ.j0] at h
 |k + 1=>by
  have oo:=bZ.gf k
  ·intro y0 y1
   unfold bZ.j0
   repeat' first
   |(with_reducible exact oo _ _)
   |(with_reducible exact bF.mono _ _)
   |(with_reducible exact cN.refl _)
   |(with_reducible exact cN.none _)
   |(with_reducible refine cN.ite ?_ ?_)
   |(with_reducible refine cN.bind ?_ (fun _ =>?_))
   |refine cN.ite ?_ ?_
   |refine cN.bind ?_ (fun _ =>?_)
theorem bZ.mono:∀ a0 k,cN (bZ.f k a0) (bZ.f (k + 1) a0):=by
 intro a0 k
 have oo:=bZ.gf k
 unfold bZ.f
 repeat' first
  |(with_reducible exact oo _ _)
  |(with_reducible exact bF.mono _ _)
  |(with_reducible exact cN.refl _)
  |(with_reducible exact cN.none _)
  |(with_reducible refine cN.ite ?_ ?_)
  |(with_reducible refine cN.bind ?_ (fun _ =>?_))
  |refine cN.ite ?_ ?_
  |refine cN.bind ?_ (fun _ =>?_)
set_option maxHeartbeats 8000000 in
set_option maxRecDepth 100000 in
theorem bZ.calls (k:Nat) (a0:ByteArray) (r:Bool) (w:World) (hG:aU w) (h:bZ.f k a0=some r):
 Calls Tryz.prog 27 #[.string a0] w fun e w'=>e= .returned (.bool r)∧Below w.heap.size w w':=by
 have HB:=ah.mk (Below.refl w.heap.size w)
 have HG:=ah.mk hG
 clear hG
 have H:(if (a0.size:Int) > 5 then (if 0≤5 then (if 5≤(a0.size:Int) then ((cH.f (a0.extract 0 5)).bind fun t141=>(bZ.j0 k a0 (t141.toList == ([105,112,118,54,58]:List UInt8)))) else (none)) else (none)) else (bZ.j0 k a0 false))=some r:=h
 clear h
 have HC2:=ah.mk H
 clear H
 go_enter Tryz.func27,Tryz.ntmps27
 go_upto_region 1 with (fail)
 go_cut [12] (fun v12 wc=>∃ (kq:Nat) (Rw:Bool),v12= .bool Rw∧ah (bZ.j0 kq a0 Rw=some r)∧ah (kq≤k)∧ah (Below w.heap.size w wc))
 case first=>
  have H:=HC2.out
  clear HC2
  by_cases c3:(a0.size:Int) > 5
  ·rw [if_pos c3] at H
   have pX:decide (5 < (a0.size:Int))=true:=decide_eq_true c3
   have GL:decide (5 < a0.size)=true:=decide_eq_true aq
   clear c3
   (first|rw [pX]|(simp only [dx,dA];rw [pX])|skip)
   by_cases c4: 0≤5
   ·rw [if_pos c4] at H
    have o9:=eq_true c4
    have GK:decide (0≤5)=true:=decide_eq_true c4
    clear c4
    by_cases c5: 5≤(a0.size:Int)
    ·rw [if_pos c5] at H
     have uB:=eq_true c5
     have Vv:decide (5≤(a0.size:Int))=true:=decide_eq_true c5
     clear c5
     replace H:=Option.bind_eq_some_iff.mp H
     obtain ⟨t141,xw,H⟩:=H
     replace H:(bZ.j0 k a0 (t141.toList == ([105,112,118,54,58]:List UInt8)))=some r:=H
     have A6:=ah.mk xw
     clear xw
     have H':=ah.mk H
     clear H
     go_wp2_with (first|(go_at_call 81;(with_reducible refine (cH.calls (a0.extract 0 5) t141 _ A6.out).mono ?_);rintro e w7 ⟨rfl,hb⟩;have bB:=ah.mk (ay bN hb);clear HB;have HB:=bB;clear bB;(try clear hb);(try clear hb2);(try clear hk);(try clear hi)))
     go_meet
     case rel=>exact ⟨_,((t141.toList == ([105,112,118,54,58]:List UInt8))),ey,H',⟨lU⟩,⟨bN⟩⟩
    ·rw [if_neg c5] at H
     exact absurd H bn
   ·rw [if_neg c4] at H
    exact absurd H bn
  ·rw [if_neg c3] at H
   have pX:decide (5 < (a0.size:Int))=false:=decide_eq_false c3
   have GL:decide (5 < a0.size)=false:=decide_eq_false aq
   clear c3
   (first|rw [pX]|(simp only [dx,dA];rw [pX])|skip)
   have H':=ah.mk H
   clear H
   go_wp2
   go_meet
   case rel=>exact ⟨_,(false),ey,H',⟨lU⟩,⟨bN⟩⟩
 case rest=>
  clear HC2
  try clear c2
  try clear p2
  try clear c3
  try clear pX
  try clear GL
  try clear c4
  try clear o9
  try clear GK
  try clear c5
  try clear uB
  try clear Vv
  obtain ⟨kq,Rw,rfl,HA,HJ1,HB⟩:=hcut
  cases kq with
  |zero=>exact absurd HA.out (by simp [bZ.j0])
  |succ kj1=>
   have H:=HA.out
   clear HA
   simp only [bZ.j0] at H
   by_cases c8:Rw=true
   ·subst c8
    have H1:(if 5≤(a0.size:Int) then ((p8.f (a0.extract 5 a0.size)).bind fun t142=>(some t142)) else (none))=some r:=by rw [if_pos rfl] at H;exact H
    clear H
    have H:=H1
    clear H1
    by_cases c9: 5≤(a0.size:Int)
    ·rw [if_pos c9] at H
     have Ta:=eq_true c9
     have ad4:decide (5≤(a0.size:Int))=true:=decide_eq_true c9
     clear c9
     replace H:=Option.bind_eq_some_iff.mp H
     obtain ⟨t142,OJ,H⟩:=H
     replace H:(some t142)=some r:=H
     have A10:=ah.mk OJ
     clear OJ
     obtain rfl:=Option.some.inj H
     go_wp2_with (first|((with_reducible refine aQ (f:=82) rfl ?_);refine cu (some 15) rfl rfl Tryz.func82 av rfl #[.string (a0.extract 5 a0.size)] rfl cT ?_;(with_reducible refine (p8.calls (a0.extract 5 a0.size) t142 _ ?aX A10.out).mono ?_);(case aX=>exact aU.below HG.out bN);rintro e w11 ⟨rfl,hb⟩;refine ⟨_,rfl,?_⟩;have bB:=ah.mk (ay bN hb);clear HB;have HB:=bB;clear bB;(try clear hb);(try clear hb2);(try clear hk);(try clear hi)))
     go_ret
     exact ⟨cR,bN⟩
    ·rw [if_neg c9] at H
     exact absurd H bn
   ·replace c8:=Bool.eq_false_iff.mpr c8
    subst c8
    have H1:((strings_Split.f a0 (⟨#[46]⟩:ByteArray)).bind fun t143=>(if (t143.length:Int)=4 then ((bF.f kj1 t143).bind fun t146=>(some (!t146))) else (some false)))=some r:=by rw [if_neg (show ¬ (false=true) by decide)] at H;exact H
    clear H
    have H:=H1
    clear H1
    replace H:=Option.bind_eq_some_iff.mp H
    obtain ⟨t143,FI,H⟩:=H
    replace H:(if (t143.length:Int)=4 then ((bF.f kj1 t143).bind fun t146=>(some (!t146))) else (some false))=some r:=H
    have Lp:=ah.mk FI
    clear FI
    by_cases c13:(t143.length:Int)=4
    ·rw [if_pos c13] at H
     have FJ:((t143.length:Int) == 4)=true:=beq_iff_eq.mpr c13
     have Mg:((t143.length:Int) != 4)=false:=bne_eq_false_iff_eq.mpr c13
     clear c13
     replace H:=Option.bind_eq_some_iff.mp H
     obtain ⟨t146,Bi,H⟩:=H
     replace H:(some (!t146))=some r:=H
     have Vy:=ah.mk Bi
     clear Bi
     obtain rfl:=Option.some.inj H
     go_wp2_with (first|((with_reducible refine aQ (f:=75) rfl ?_);refine cu (some 17) rfl rfl Tryz.func75 av rfl #[.string a0,.string (⟨#[46]⟩:ByteArray)] rfl cT ?_;(with_reducible refine (strings_Split.calls a0 (⟨#[46]⟩:ByteArray) t143 _ ?aX Lp.out).mono ?_);(case aX=>exact aU.below HG.out bN);rintro e Hj ⟨amA,rfl,ho0,hb⟩;refine ⟨_,rfl,?_⟩;have bB:=ah.mk (Kd.eF ho0 (cE bN));have bL:=ah.mk (ay bN hb);clear HB;have CP:=bB;have HB:=bL;clear bB bL;(try clear hb);(try clear hb2);(try clear hk);(try clear hi);(try clear ho0);obtain ⟨BO,zz,abC⟩:=Kd.dn CP.out;subst abC)|(go_at_call 59;(with_reducible refine (bF.calls kj1 _ _ t143 t146 _ ?aX ?bT ?eo Vy.out).mono ?_);(case aX=>repeat (first|exact (Kd.ck CP.out).2.2|(with_reducible refine Kd.eJ ?_ _)|(with_reducible refine Kd.eK ?_ _)|(with_reducible refine Kd.fR ?_)));(case bT=>exact (Kd.ck CP.out).2.1);(case eo=>exact aU.below HG.out bN);rintro e w17 ⟨rfl,hb⟩;have bB:=ah.mk (Kd.bP (by (with_reducible repeat (first|apply Kd.dR|apply Kd.dW|apply Kd.eW));exact CP.out) hb);have bL:=ah.mk (ay bN hb);clear CP;clear HB;have CP:=bB;have HB:=bL;clear bB bL;(try clear hb);(try clear hb2);(try clear hk);(try clear hi)))
     go_ret
     exact ⟨cR,bN⟩
    ·rw [if_neg c13] at H
     have FJ:((t143.length:Int) == 4)=false:=beq_eq_false_iff_ne.mpr c13
     have Mg:((t143.length:Int) != 4)=true:=bne_iff_ne.mpr c13
     obtain rfl:=Option.some.inj H
     go_wp2_with (first|((with_reducible refine aQ (f:=75) rfl ?_);refine cu (some 17) rfl rfl Tryz.func75 av rfl #[.string a0,.string (⟨#[46]⟩:ByteArray)] rfl cT ?_;(with_reducible refine (strings_Split.calls a0 (⟨#[46]⟩:ByteArray) t143 _ ?aX Lp.out).mono ?_);(case aX=>exact aU.below HG.out bN);rintro e w18 ⟨amA,rfl,ho0,hb⟩;refine ⟨_,rfl,?_⟩;have bB:=ah.mk (Kd.eF ho0 (cE bN));have bL:=ah.mk (ay bN hb);clear HB;have CP:=bB;have HB:=bL;clear bB bL;(try clear hb);(try clear hb2);(try clear hk);(try clear hi);(try clear ho0);obtain ⟨aqn,aqo,amB⟩:=Kd.dn CP.out;subst amB))
     go_ret
     exact ⟨cR,bN⟩
def gM.f (k:Nat) (a0:ByteArray):Option (Bool):=if (a0.size:Int) > 2 then (if 0 < (a0.size:Int) then (if (bt a0 0)=91 then (if 0≤(wrap64 ((a0.size:Int) - 1)) then (if (wrap64 ((a0.size:Int) - 1)) < (a0.size:Int) then (if (bt a0 (wrap64 ((a0.size:Int) - 1)))=93 then (if 1≤(wrap64 ((a0.size:Int) - 1)) then (if (wrap64 ((a0.size:Int) - 1))≤(a0.size:Int) then ((bZ.f k (a0.extract 1 ((wrap64 ((a0.size:Int) - 1)):Int).toNat)).bind fun t147=>(some t147)) else (none)) else (none)) else (some false)) else (none)) else (none)) else (some false)) else (none)) else (some false)
theorem gM.mono:∀ a0 k,cN (gM.f k a0) (gM.f (k + 1) a0):=by
 intro a0 k
 unfold gM.f
 repeat' first
  |(with_reducible exact bZ.mono _ _)
  |(with_reducible exact cN.refl _)
  |(with_reducible exact cN.none _)
  |(with_reducible refine cN.ite ?_ ?_)
  |(with_reducible refine cN.bind ?_ (fun _ =>?_))
  |refine cN.ite ?_ ?_
  |refine cN.bind ?_ (fun _ =>?_)
set_option maxHeartbeats 8000000 in
set_option maxRecDepth 100000 in
theorem gM.calls (k:Nat) (a0:ByteArray) (r:Bool) (w:World) (hG:aU w) (h:gM.f k a0=some r):
 Calls Tryz.prog 95 #[.string a0] w fun e w'=>e= .returned (.bool r)∧Below w.heap.size w w':=by
 have HB:=ah.mk (Below.refl w.heap.size w)
 have HG:=ah.mk hG
 clear hG
 have H:(if (a0.size:Int) > 2 then (if 0 < (a0.size:Int) then (if (bt a0 0)=91 then (if 0≤(wrap64 ((a0.size:Int) - 1)) then (if (wrap64 ((a0.size:Int) - 1)) < (a0.size:Int) then (if (bt a0 (wrap64 ((a0.size:Int) - 1)))=93 then (if 1≤(wrap64 ((a0.size:Int) - 1)) then (if (wrap64 ((a0.size:Int) - 1))≤(a0.size:Int) then ((bZ.f k (a0.extract 1 ((wrap64 ((a0.size:Int) - 1)):Int).toNat)).bind fun t147=>(some t147)) else (none)) else (none)) else (some false)) else (none)) else (none)) else (some false)) else (none)) else (some false))=some r:=h
 clear h
 by_cases c2:(a0.size:Int) > 2
 ·rw [if_pos c2] at H
  have B6:decide (2 < (a0.size:Int))=true:=decide_eq_true c2
  have OB:decide (2 < a0.size)=true:=decide_eq_true aq
  clear c2
  by_cases c3: 0 < (a0.size:Int)
  ·rw [if_pos c3] at H
   have pX:decide (0 < (a0.size:Int))=true:=decide_eq_true c3
   have GL:decide (0 < a0.size)=true:=decide_eq_true aq
   clear c3
   by_cases c5:(bt a0 0)=91
   ·rw [if_pos c5] at H
    have uB:((bt a0 0) == 91)=true:=beq_iff_eq.mpr c5
    have Vv:((bt a0 0) != 91)=false:=bne_eq_false_iff_eq.mpr c5
    clear c5
    obtain ⟨Ca,Xy⟩:∃ j_:Int,(wrap64 ((a0.size:Int) - 1))=j_ :=⟨_,rfl⟩
    replace H:(if 0≤(Ca) then (if (Ca) < (a0.size:Int) then (if (bt a0 (Ca))=93 then (if 1≤(Ca) then (if (Ca)≤(a0.size:Int) then ((bZ.f k (a0.extract 1 ((Ca):Int).toNat)).bind fun t147=>(some t147)) else (none)) else (none)) else (some false)) else (none)) else (none))=some r:=by first|(rw [Xy] at H;exact H)|(simp only [Xy] at H ⊢;exact H)
    have aop:(IntKind.i64.wrap ((a0.size:Int) - 1))=Ca:=(dx _).trans Xy
    by_cases c7: 0≤(Ca)
    ·rw [if_pos c7] at H
     have GH:decide (0≤(Ca))=true:=decide_eq_true c7
     clear c7
     by_cases c8:(Ca) < (a0.size:Int)
     ·rw [if_pos c8] at H
      have J3:decide ((Ca) < (a0.size:Int))=true:=decide_eq_true c8
      clear c8
      by_cases c10:(bt a0 (Ca))=93
      ·rw [if_pos c10] at H
       have pV:((bt a0 (Ca)) == 93)=true:=beq_iff_eq.mpr c10
       have zm:((bt a0 (Ca)) != 93)=false:=bne_eq_false_iff_eq.mpr c10
       clear c10
       by_cases c11: 1≤(Ca)
       ·rw [if_pos c11] at H
        have zn:=eq_true c11
        have L5:decide (1≤(Ca))=true:=decide_eq_true c11
        clear c11
        by_cases c12:(Ca)≤(a0.size:Int)
        ·rw [if_pos c12] at H
         have CN:=eq_true c12
         have L6:decide ((Ca)≤(a0.size:Int))=true:=decide_eq_true c12
         clear c12
         replace H:=Option.bind_eq_some_iff.mp H
         obtain ⟨t147,ad5,H⟩:=H
         replace H:(some t147)=some r:=H
         have A13:=ah.mk ad5
         clear ad5
         obtain rfl:=Option.some.inj H
         have p4: 0≤(0:Int):=aq
         have q4: 0 < a0.size:=(by have:(0:Int) < (a0.size:Int):=of_decide_eq_true cW;omega)
         have hx4:∀ h: 0 < a0.size,((a0[0]'h).toNat:Int)=bt a0 0:=iw a0 0
         clear p4
         have qi4:(0 < (a0.size:Int))=True:=eq_true (of_decide_eq_true cW)
         replace q4:=eq_true q4
         have p9: 0≤((Ca):Int):=of_decide_eq_true cW
         have q9:(Ca) < (a0.size:Int):=of_decide_eq_true cW
         have hx9:=iw a0 (Ca)
         replace p9:=eq_true p9
         replace q9:=eq_true q9
         go_enter Tryz.func95,Tryz.ntmps95
         go_wp2_with (first|(go_at_call 27;(with_reducible refine (bZ.calls k (a0.extract 1 ((Ca):Int).toNat) t147 _ ?aX A13.out).mono ?_);(case aX=>exact aU.below HG.out bN);rintro e Hh ⟨rfl,hb⟩;have bB:=ah.mk (ay bN hb);clear HB;have HB:=bB;clear bB;(try clear hb);(try clear hb2);(try clear hk);(try clear hi)))
         go_ret
         exact ⟨PZ,bN⟩
        ·rw [if_neg c12] at H
         exact absurd H bn
       ·rw [if_neg c11] at H
        exact absurd H bn
      ·rw [if_neg c10] at H
       have pV:((bt a0 (Ca)) == 93)=false:=beq_eq_false_iff_ne.mpr c10
       have zm:((bt a0 (Ca)) != 93)=true:=bne_iff_ne.mpr c10
       obtain rfl:=Option.some.inj H
       have p4: 0≤(0:Int):=aq
       have q4: 0 < a0.size:=(by have:(0:Int) < (a0.size:Int):=of_decide_eq_true cW;omega)
       have hx4:∀ h: 0 < a0.size,((a0[0]'h).toNat:Int)=bt a0 0:=iw a0 0
       clear p4
       have qi4:(0 < (a0.size:Int))=True:=eq_true (of_decide_eq_true cW)
       replace q4:=eq_true q4
       have p9: 0≤((Ca):Int):=of_decide_eq_true cW
       have q9:(Ca) < (a0.size:Int):=of_decide_eq_true cW
       have hx9:=iw a0 (Ca)
       replace p9:=eq_true p9
       replace q9:=eq_true q9
       go_enter Tryz.func95,Tryz.ntmps95
       go_wp2
       go_ret
       exact ⟨PZ,bN⟩
     ·rw [if_neg c8] at H
      exact absurd H bn
    ·rw [if_neg c7] at H
     exact absurd H bn
   ·rw [if_neg c5] at H
    have uB:((bt a0 0) == 91)=false:=beq_eq_false_iff_ne.mpr c5
    have Vv:((bt a0 0) != 91)=true:=bne_iff_ne.mpr c5
    obtain rfl:=Option.some.inj H
    have p4: 0≤(0:Int):=aq
    have q4: 0 < a0.size:=(by have:(0:Int) < (a0.size:Int):=of_decide_eq_true cW;omega)
    have hx4:∀ h: 0 < a0.size,((a0[0]'h).toNat:Int)=bt a0 0:=iw a0 0
    clear p4
    have qi4:(0 < (a0.size:Int))=True:=eq_true (of_decide_eq_true cW)
    replace q4:=eq_true q4
    go_enter Tryz.func95,Tryz.ntmps95
    go_wp2
    go_ret
    exact ⟨cR,bN⟩
  ·rw [if_neg c3] at H
   exact absurd H bn
 ·rw [if_neg c2] at H
  have B6:decide (2 < (a0.size:Int))=false:=decide_eq_false c2
  have OB:decide (2 < a0.size)=false:=decide_eq_false aq
  clear c2
  obtain rfl:=Option.some.inj H
  go_enter Tryz.func95,Tryz.ntmps95
  go_wp2
  go_ret
  exact ⟨cR,bN⟩
def stringslite_HasPrefix.f (a0:ByteArray) (a1:ByteArray):Option (Bool):=if (a0.size:Int)≥(a1.size:Int) then (if 0≤(a1.size:Int) then (if (a1.size:Int)≤(a0.size:Int) then (some ((a0.extract 0 ((a1.size:Int):Int).toNat).toList == a1.toList)) else (none)) else (none)) else (some false)
set_option maxHeartbeats 8000000 in
set_option maxRecDepth 100000 in
theorem stringslite_HasPrefix.calls (a0:ByteArray) (a1:ByteArray) (r:Bool) (w:World) (h:stringslite_HasPrefix.f a0 a1=some r):
 Calls Tryz.prog 98 #[.string a0,.string a1] w fun e w'=>e= .returned (.bool r)∧kg w w':=by
 have H:(if (a0.size:Int)≥(a1.size:Int) then (if 0≤(a1.size:Int) then (if (a1.size:Int)≤(a0.size:Int) then (some ((a0.extract 0 ((a1.size:Int):Int).toNat).toList == a1.toList)) else (none)) else (none)) else (some false))=some r:=h
 clear h
 by_cases c3:(a0.size:Int)≥(a1.size:Int)
 ·rw [if_pos c3] at H
  have pX:decide ((a1.size:Int)≤(a0.size:Int))=true:=decide_eq_true c3
  have GL:decide (a1.size≤a0.size)=true:=decide_eq_true (Int.ofNat_le.mp c3)
  clear c3
  by_cases c4: 0≤(a1.size:Int)
  ·rw [if_pos c4] at H
   have o9:=eq_true c4
   have GK:decide (0≤(a1.size:Int))=true:=decide_eq_true c4
   clear c4
   by_cases c5:(a1.size:Int)≤(a0.size:Int)
   ·rw [if_pos c5] at H
    have uB:=eq_true c5
    have Vv:decide ((a1.size:Int)≤(a0.size:Int))=true:=decide_eq_true c5
    clear c5
    obtain rfl:=Option.some.inj H
    go_enter Tryz.func98,Tryz.ntmps98
    go_wp2
    go_ret
    exact ⟨ey,kH⟩
   ·rw [if_neg c5] at H
    exact absurd H bn
  ·rw [if_neg c4] at H
   exact absurd H bn
 ·rw [if_neg c3] at H
  have pX:decide ((a1.size:Int)≤(a0.size:Int))=false:=decide_eq_false c3
  have GL:decide (a1.size≤a0.size)=false:=decide_eq_false (fun h=>c3 (Int.ofNat_le.mpr h))
  clear c3
  obtain rfl:=Option.some.inj H
  go_enter Tryz.func98,Tryz.ntmps98
  go_wp2
  go_ret
  exact ⟨ey,kH⟩
def strings_HasPrefix.f (a0:ByteArray) (a1:ByteArray):Option (Bool):=(stringslite_HasPrefix.f a0 a1).bind fun t148=>(some t148)
set_option maxHeartbeats 8000000 in
set_option maxRecDepth 100000 in
theorem strings_HasPrefix.calls (a0:ByteArray) (a1:ByteArray) (r:Bool) (w:World) (h:strings_HasPrefix.f a0 a1=some r):
 Calls Tryz.prog 37 #[.string a0,.string a1] w fun e w'=>e= .returned (.bool r)∧kg w w':=by
 have H:((stringslite_HasPrefix.f a0 a1).bind fun t148=>(some t148))=some r:=h
 clear h
 replace H:=Option.bind_eq_some_iff.mp H
 obtain ⟨t148,zl,H⟩:=H
 replace H:(some t148)=some r:=H
 have A3:=ah.mk zl
 clear zl
 obtain rfl:=Option.some.inj H
 go_enter Tryz.func37,Tryz.ntmps37
 go_wp2_with (first|((with_reducible refine aQ (f:=98) rfl ?_);refine cu (some 7) rfl rfl Tryz.func98 av rfl #[.string a0,.string a1] rfl cT ?_;(with_reducible refine (stringslite_HasPrefix.calls a0 a1 t148 _ A3.out).mono ?_);rintro e w' ⟨rfl,⟨nd,rfl⟩⟩;refine ⟨_,rfl,?_⟩))
 go_ret
 exact ⟨ey,kH⟩
end Go.Proofs.YtokpnfljjjjikaaGreatDoor.pJ
