import Derived.Test.YtokpnfljjjjikaaGreatDoorQCbx0
import Derived.Test.YtokpnfljjjjikaaGreatDoorECmd
import Derived.Test.YtokpnfljjjjikaaGreatDoorELit
import Derived.Test.YtokpnfljjjjikaaGreatDoorESmall
set_option maxHeartbeats 8000000
set_option maxRecDepth 100000
namespace Go.Proofs.YtokpnfljjjjikaaGreatDoor.n9
open Go.RowKit Go.Proofs.aj.bQ Go.Proofs.aj.gf Go.Proofs.aj.cT
attribute [local go_sem] jt iY kQ kJ iJ iK ju jv
set_option linter.unusedVariables false
set_option linter.unusedSimpArgs false
def cB.f (a0:ByteArray):Option (ByteArray):=(gV.f a0 97 122 (-32)).bind fun t131=>(some t131)
theorem cB.calls (a0:ByteArray) (r:ByteArray) (w:World) (h:cB.f a0=some r):
 Calls Tryz.prog 93 #[.string a0] w fun e w'=>e= .returned (.string r)∧Below w.heap.size w w':=by
 have HB:=ah.mk (Below.refl w.heap.size w)
 have H:((gV.f a0 97 122 (-32)).bind fun t131=>(some t131))=some r:=h
 clear h
 replace H:=Option.bind_eq_some_iff.mp H
 obtain ⟨t131,oL,H⟩:=H
 replace H:(some t131)=some r:=H
 have A2:=ah.mk oL
 clear oL
 obtain rfl:=Option.some.inj H
 go_enter Tryz.func93,Tryz.ntmps93
 go_wp2_with (first|((with_reducible refine aT (f:=140) rfl ?_);refine cC (some 4) rfl rfl Tryz.func140 av rfl #[.string a0,.int .u8 97,.int .u8 122,.int .i64 (-32)] rfl cY ?_;(with_reducible refine (gV.calls a0 97 122 (-32) t131 _ A2.out).mono ?_);rintro e w3 ⟨rfl,hb⟩;refine ⟨_,rfl,?_⟩;have bI:=ah.mk (az cA hb);clear HB;have HB:=bI;clear bI;(try clear hb);(try clear hb2);(try clear hk);(try clear hi)))
 go_ret
 exact ⟨cU,cA⟩
def ia.f (a0:ByteArray):Option (ByteArray):=(gV.f a0 65 90 32).bind fun t132=>(some t132)
theorem ia.calls (a0:ByteArray) (r:ByteArray) (w:World) (h:ia.f a0=some r):
 Calls Tryz.prog 94 #[.string a0] w fun e w'=>e= .returned (.string r)∧Below w.heap.size w w':=by
 have HB:=ah.mk (Below.refl w.heap.size w)
 have H:((gV.f a0 65 90 32).bind fun t132=>(some t132))=some r:=h
 clear h
 replace H:=Option.bind_eq_some_iff.mp H
 obtain ⟨t132,oL,H⟩:=H
 replace H:(some t132)=some r:=H
 have A2:=ah.mk oL
 clear oL
 obtain rfl:=Option.some.inj H
 go_enter Tryz.func94,Tryz.ntmps94
 go_wp2_with (first|((with_reducible refine aT (f:=140) rfl ?_);refine cC (some 4) rfl rfl Tryz.func140 av rfl #[.string a0,.int .u8 65,.int .u8 90,.int .i64 32] rfl cY ?_;(with_reducible refine (gV.calls a0 65 90 32 t132 _ A2.out).mono ?_);rintro e w3 ⟨rfl,hb⟩;refine ⟨_,rfl,?_⟩;have bI:=ah.mk (az cA hb);clear HB;have HB:=bI;clear bI;(try clear hb);(try clear hb2);(try clear hk);(try clear hi)))
 go_ret
 exact ⟨cU,cA⟩
def qD.f (a0:ByteArray):Option (Bool):=(strings_Cut.f a0 (⟨#[58,58]⟩:ByteArray)).bind fun GY=>((fy.f GY.1).bind fun t136=>((fy.f GY.2.1).bind fun t137=>(if GY.2.2=true then (if t136≥0 then (if t137≥0 then (some (decide ((wrap64 (t136 + t137))≤6))) else (some false)) else (some false)) else (some (t136 == 8)))))
theorem qD.calls (a0:ByteArray) (r:Bool) (w:World) (hG:aW w) (h:qD.f a0=some r):
 Calls Tryz.prog 82 #[.string a0] w fun e w'=>e= .returned (.bool r)∧Below w.heap.size w w':=by
 have HB:=ah.mk (Below.refl w.heap.size w)
 have HG:=ah.mk hG
 clear hG
 have H:((strings_Cut.f a0 (⟨#[58,58]⟩:ByteArray)).bind fun GY=>((fy.f GY.1).bind fun t136=>((fy.f GY.2.1).bind fun t137=>(if GY.2.2=true then (if t136≥0 then (if t137≥0 then (some (decide ((wrap64 (t136 + t137))≤6))) else (some false)) else (some false)) else (some (t136 == 8))))))=some r:=h
 clear h
 replace H:=Option.bind_eq_some_iff.mp H
 obtain ⟨⟨t133,t134,t135⟩,oL,H⟩:=H
 replace H:((fy.f t133).bind fun t136=>((fy.f t134).bind fun t137=>(if t135=true then (if t136≥0 then (if t137≥0 then (some (decide ((wrap64 (t136 + t137))≤6))) else (some false)) else (some false)) else (some (t136 == 8)))))=some r:=H
 have A2:=ah.mk oL
 clear oL
 replace H:=Option.bind_eq_some_iff.mp H
 obtain ⟨t136,zb,H⟩:=H
 replace H:((fy.f t134).bind fun t137=>(if t135=true then (if t136≥0 then (if t137≥0 then (some (decide ((wrap64 (t136 + t137))≤6))) else (some false)) else (some false)) else (some (t136 == 8))))=some r:=H
 have A3:=ah.mk zb
 clear zb
 replace H:=Option.bind_eq_some_iff.mp H
 obtain ⟨t137,Ef,H⟩:=H
 replace H:(if t135=true then (if t136≥0 then (if t137≥0 then (some (decide ((wrap64 (t136 + t137))≤6))) else (some false)) else (some false)) else (some (t136 == 8)))=some r:=H
 have A4:=ah.mk Ef
 clear Ef
 by_cases c5:t135=true
 ·subst c5
  have H1:(if t136≥0 then (if t137≥0 then (some (decide ((wrap64 (t136 + t137))≤6))) else (some false)) else (some false))=some r:=by rw [if_pos rfl] at H;exact H
  clear H
  have H:=H1
  clear H1
  by_cases c6:t136≥0
  ·rw [if_pos c6] at H
   have oW:decide (0≤t136)=true:=decide_eq_true c6
   clear c6
   by_cases c7:t137≥0
   ·rw [if_pos c7] at H
    have Nb:decide (0≤t137)=true:=decide_eq_true c7
    clear c7
    obtain rfl:=Option.some.inj H
    go_enter Tryz.func82,Tryz.ntmps82
    go_wp2_with (first|((with_reducible refine aT (f:=91) rfl ?_);refine cC (some 10) rfl rfl Tryz.func91 av rfl #[.string a0,.string (⟨#[58,58]⟩:ByteArray)] rfl cY ?_;(with_reducible refine (strings_Cut.calls a0 (⟨#[58,58]⟩:ByteArray) t133 t134 true _ ?bg A2.out).mono ?_);(case bg=>exact aW.below HG.out cA);rintro e w' ⟨rfl,⟨nd,rfl⟩⟩;refine ⟨_,rfl,?_⟩)|((with_reducible refine aT (f:=130) rfl ?_);refine cC (some 15) rfl rfl Tryz.func130 av rfl #[.string t133] rfl cY ?_;(with_reducible refine (fy.calls t133 t136 _ ?bg A3.out).mono ?_);(case bg=>exact aW.below HG.out cA);rintro e w8 ⟨rfl,hb⟩;refine ⟨_,rfl,?_⟩;have bI:=ah.mk (az cA hb);clear HB;have HB:=bI;clear bI;(try clear hb);(try clear hb2);(try clear hk);(try clear hi))|((with_reducible refine aT (f:=130) rfl ?_);refine cC (some 17) rfl rfl Tryz.func130 av rfl #[.string t134] rfl cY ?_;(with_reducible refine (fy.calls t134 t137 _ ?bg A4.out).mono ?_);(case bg=>exact aW.below HG.out cA);rintro e w9 ⟨rfl,hb⟩;refine ⟨_,rfl,?_⟩;have bI:=ah.mk (az cA hb);clear HB;have HB:=bI;clear bI;(try clear hb);(try clear hb2);(try clear hk);(try clear hi)))
    go_ret
    exact ⟨cU,cA⟩
   ·rw [if_neg c7] at H
    have Nb:decide (0≤t137)=false:=decide_eq_false c7
    clear c7
    obtain rfl:=Option.some.inj H
    go_enter Tryz.func82,Tryz.ntmps82
    go_wp2_with (first|((with_reducible refine aT (f:=91) rfl ?_);refine cC (some 10) rfl rfl Tryz.func91 av rfl #[.string a0,.string (⟨#[58,58]⟩:ByteArray)] rfl cY ?_;(with_reducible refine (strings_Cut.calls a0 (⟨#[58,58]⟩:ByteArray) t133 t134 true _ ?bg A2.out).mono ?_);(case bg=>exact aW.below HG.out cA);rintro e w' ⟨rfl,⟨nd,rfl⟩⟩;refine ⟨_,rfl,?_⟩)|((with_reducible refine aT (f:=130) rfl ?_);refine cC (some 15) rfl rfl Tryz.func130 av rfl #[.string t133] rfl cY ?_;(with_reducible refine (fy.calls t133 t136 _ ?bg A3.out).mono ?_);(case bg=>exact aW.below HG.out cA);rintro e vI ⟨rfl,hb⟩;refine ⟨_,rfl,?_⟩;have bI:=ah.mk (az cA hb);clear HB;have HB:=bI;clear bI;(try clear hb);(try clear hb2);(try clear hk);(try clear hi))|((with_reducible refine aT (f:=130) rfl ?_);refine cC (some 17) rfl rfl Tryz.func130 av rfl #[.string t134] rfl cY ?_;(with_reducible refine (fy.calls t134 t137 _ ?bg A4.out).mono ?_);(case bg=>exact aW.below HG.out cA);rintro e w11 ⟨rfl,hb⟩;refine ⟨_,rfl,?_⟩;have bI:=ah.mk (az cA hb);clear HB;have HB:=bI;clear bI;(try clear hb);(try clear hb2);(try clear hk);(try clear hi)))
    go_ret
    exact ⟨cU,cA⟩
  ·rw [if_neg c6] at H
   have oW:decide (0≤t136)=false:=decide_eq_false c6
   clear c6
   obtain rfl:=Option.some.inj H
   go_enter Tryz.func82,Tryz.ntmps82
   go_wp2_with (first|((with_reducible refine aT (f:=91) rfl ?_);refine cC (some 10) rfl rfl Tryz.func91 av rfl #[.string a0,.string (⟨#[58,58]⟩:ByteArray)] rfl cY ?_;(with_reducible refine (strings_Cut.calls a0 (⟨#[58,58]⟩:ByteArray) t133 t134 true _ ?bg A2.out).mono ?_);(case bg=>exact aW.below HG.out cA);rintro e w' ⟨rfl,⟨nd,rfl⟩⟩;refine ⟨_,rfl,?_⟩)|((with_reducible refine aT (f:=130) rfl ?_);refine cC (some 15) rfl rfl Tryz.func130 av rfl #[.string t133] rfl cY ?_;(with_reducible refine (fy.calls t133 t136 _ ?bg A3.out).mono ?_);(case bg=>exact aW.below HG.out cA);rintro e IB ⟨rfl,hb⟩;refine ⟨_,rfl,?_⟩;have bI:=ah.mk (az cA hb);clear HB;have HB:=bI;clear bI;(try clear hb);(try clear hb2);(try clear hk);(try clear hi))|((with_reducible refine aT (f:=130) rfl ?_);refine cC (some 17) rfl rfl Tryz.func130 av rfl #[.string t134] rfl cY ?_;(with_reducible refine (fy.calls t134 t137 _ ?bg A4.out).mono ?_);(case bg=>exact aW.below HG.out cA);rintro e n7 ⟨rfl,hb⟩;refine ⟨_,rfl,?_⟩;have bI:=ah.mk (az cA hb);clear HB;have HB:=bI;clear bI;(try clear hb);(try clear hb2);(try clear hk);(try clear hi)))
   go_ret
   exact ⟨cU,cA⟩
 ·replace c5:=Bool.eq_false_iff.mpr c5
  subst c5
  have H1:(some (t136 == 8))=some r:=by rw [if_neg (show ¬ (false=true) by decide)] at H;exact H
  clear H
  have H:=H1
  clear H1
  obtain rfl:=Option.some.inj H
  go_enter Tryz.func82,Tryz.ntmps82
  go_wp2_with (first|((with_reducible refine aT (f:=91) rfl ?_);refine cC (some 10) rfl rfl Tryz.func91 av rfl #[.string a0,.string (⟨#[58,58]⟩:ByteArray)] rfl cY ?_;(with_reducible refine (strings_Cut.calls a0 (⟨#[58,58]⟩:ByteArray) t133 t134 false _ ?bg A2.out).mono ?_);(case bg=>exact aW.below HG.out cA);rintro e w' ⟨rfl,⟨nd,rfl⟩⟩;refine ⟨_,rfl,?_⟩)|((with_reducible refine aT (f:=130) rfl ?_);refine cC (some 15) rfl rfl Tryz.func130 av rfl #[.string t133] rfl cY ?_;(with_reducible refine (fy.calls t133 t136 _ ?bg A3.out).mono ?_);(case bg=>exact aW.below HG.out cA);rintro e CI ⟨rfl,hb⟩;refine ⟨_,rfl,?_⟩;have bI:=ah.mk (az cA hb);clear HB;have HB:=bI;clear bI;(try clear hb);(try clear hb2);(try clear hk);(try clear hi))|((with_reducible refine aT (f:=130) rfl ?_);refine cC (some 17) rfl rfl Tryz.func130 av rfl #[.string t134] rfl cY ?_;(with_reducible refine (fy.calls t134 t137 _ ?bg A4.out).mono ?_);(case bg=>exact aW.below HG.out cA);rintro e Jj ⟨rfl,hb⟩;refine ⟨_,rfl,?_⟩;have bI:=ah.mk (az cA hb);clear HB;have HB:=bI;clear bI;(try clear hb);(try clear hb2);(try clear hk);(try clear hi)))
  go_ret
  exact ⟨cU,cA⟩
def aA.l0:Nat→List ByteArray→Int→Int→Option (Int)
 | 0,_,_,_ =>none
 |k + 1,x0,x7,x8=>if x8 < x7 then (if 0≤x8 then (if x8 < (x0.length:Int) then ((gz.f (kG ByteArray.empty x0 x8)).bind fun t139=>(if t139=true then (some x8) else (aA.l0 k x0 x7 (wrap64 (x8 + 1))))) else (none)) else (none)) else (some (-1))
def aA.f (k:Nat) (l0:List ByteArray):Option (Int):=aA.l0 k l0 (l0.length:Int) 0
theorem aA.fU:∀ k,(∀ y0 y1 y2,cN (aA.l0 k y0 y1 y2) (aA.l0 (k + 1) y0 y1 y2))
 | 0=>fun _ _ _ r h=>by simp [aA.l0] at h
 |k + 1=>by
  have oK:=aA.fU k
  ·intro y0 y1 y2
   unfold aA.l0
   repeat' first
   |(with_reducible exact oK _ _ _)
   |(with_reducible exact cN.refl _)
   |(with_reducible exact cN.none _)
   |(with_reducible refine cN.ite ?_ ?_)
   |(with_reducible refine cN.bind ?_ (fun _ =>?_))
   |refine cN.ite ?_ ?_
   |refine cN.bind ?_ (fun _ =>?_)
theorem aA.mono:∀ a0 k,cN (aA.f k a0) (aA.f (k + 1) a0):=by
 intro a0 k
 have oK:=aA.fU k
 unfold aA.f
 repeat' first
  |(with_reducible exact oK _ _ _)
  |(with_reducible exact cN.refl _)
  |(with_reducible exact cN.none _)
  |(with_reducible refine cN.ite ?_ ?_)
  |(with_reducible refine cN.bind ?_ (fun _ =>?_))
  |refine cN.ite ?_ ?_
  |refine cN.bind ?_ (fun _ =>?_)
theorem aA.calls (k:Nat) (A0:Option Addr) (c0:Nat) (l0:List ByteArray) (r:Int) (w:World) (Bk:Kd.C Kd.string w A0 l0.length l0) (hc0:l0.length≤c0) (hG:aW w) (h:aA.f k l0=some r):
 Calls Tryz.prog 117 #[.slice A0 l0.length c0,.func (.func 83) #[] #[]] w fun e w'=>e= .returned (.int .i64 r)∧Below w.heap.size w w':=by
 have yI:=ah.mk Bk
 have S3:=ah.mk hc0
 clear Bk hc0
 have HB:=ah.mk (Below.refl w.heap.size w)
 have HG:=ah.mk hG
 clear hG
 have H:(aA.l0 k l0 (l0.length:Int) 0)=some r:=h
 clear h
 have H':=ah.mk H
 clear H
 go_enter Tryz.func117,Tryz.ntmps117
 go_wp2
 go_loopg [8] k (fun kq v8 w'=>∃ (eW:Int),v8= .int .i64 eW∧ah (aA.l0 kq l0 (l0.length:Int) eW=some r)∧ah (kq≤k)∧ah (Below w.heap.size w w'))
 case atStart=>exact ⟨(0),dL,H',⟨Nat.le_refl _⟩,⟨cA⟩⟩
 case round=>
  clear H'
  try clear c1
  try clear p2
  obtain ⟨eW,rfl,HA,wS,HB⟩:=hrel
  cases gk with
  |zero=>exact absurd HA.out (by simp [aA.l0])
  |succ k1=>
   have H:=HA.out
   clear HA
   simp only [aA.l0] at H
   by_cases c3:eW < (l0.length:Int)
   ·rw [if_pos c3] at H
    have rD:decide (eW < (l0.length:Int))=true:=decide_eq_true c3
    clear c3
    by_cases c4: 0≤eW
    ·rw [if_pos c4] at H
     have nP:decide (0≤eW)=true:=decide_eq_true c4
     clear c4
     by_cases c5:eW < (l0.length:Int)
     ·rw [if_pos c5] at H
      have vZ:decide (eW < (l0.length:Int))=true:=decide_eq_true c5
      clear c5
      replace H:=Option.bind_eq_some_iff.mp H
      obtain ⟨t139,yF,H⟩:=H
      replace H:(if t139=true then (some eW) else (aA.l0 k1 l0 (l0.length:Int) (wrap64 (eW + 1))))=some r:=H
      have A6:=ah.mk yF
      clear yF
      by_cases c7:t139=true
      ·subst c7
       have H1:(some eW)=some r:=by rw [if_pos rfl] at H;exact H
       clear H
       have H:=H1
       clear H1
       obtain rfl:=Option.some.inj H
       have Qc: 0≤(eW:Int):=of_decide_eq_true cO
       have Qd:eW < (l0.length:Int):=of_decide_eq_true cO
       obtain ⟨afE,adk,xO⟩:=Kd.jB yI.out eW Qc Qd
       cases adk
       replace xO:=(HB.out.cell (World.block_lt_of_cell? w _ xO)).trans xO
       replace Qc:=eq_true Qc
       replace Qd:=eq_true Qd
       go_wp2_with (first|(go_at_call 83;(with_reducible refine (gz.calls (kG ByteArray.empty l0 eW) true _ ?bg A6.out).mono ?_);(case bg=>exact aW.below HG.out cA);rintro e w8 ⟨rfl,hb⟩;have bI:=ah.mk (az cA hb);clear HB;have HB:=bI;clear bI;(try clear hb);(try clear hb2);(try clear hk);(try clear hi)))
       go_ret
       exact ⟨cU,cA⟩
      ·replace c7:=Bool.eq_false_iff.mpr c7
       subst c7
       have H1:(aA.l0 k1 l0 (l0.length:Int) (wrap64 (eW + 1)))=some r:=by rw [if_neg (show ¬ (false=true) by decide)] at H;exact H
       clear H
       have H:=H1
       clear H1
       have H':=ah.mk H
       clear H
       have Qc: 0≤(eW:Int):=of_decide_eq_true cO
       have Qd:eW < (l0.length:Int):=of_decide_eq_true cO
       obtain ⟨afE,adk,xO⟩:=Kd.jB yI.out eW Qc Qd
       cases adk
       replace xO:=(HB.out.cell (World.block_lt_of_cell? w _ xO)).trans xO
       replace Qc:=eq_true Qc
       replace Qd:=eq_true Qd
       go_wp2_with (first|(go_at_call 83;(with_reducible refine (gz.calls (kG ByteArray.empty l0 eW) false _ ?bg A6.out).mono ?_);(case bg=>exact aW.below HG.out cA);rintro e w9 ⟨rfl,hb⟩;have bI:=ah.mk (az cA hb);clear HB;have HB:=bI;clear bI;(try clear hb);(try clear hb2);(try clear hk);(try clear hi)))
       go_roundg k1
       case measure=>have:=wS.out;omega
       case rel=>exact ⟨(wrap64 (eW + 1)),dL,H',⟨ko⟩,⟨cA⟩⟩
     ·rw [if_neg c5] at H
      exact absurd H bf
    ·rw [if_neg c4] at H
     exact absurd H bf
   ·rw [if_neg c3] at H
    have rD:decide (eW < (l0.length:Int))=false:=decide_eq_false c3
    clear c3
    obtain rfl:=Option.some.inj H
    go_wp2
    go_ret
    exact ⟨cU,cA⟩
def bE.f (k:Nat) (l0:List ByteArray):Option (Bool):=(aA.f k l0).bind fun t140=>(some (decide (t140≥0)))
theorem bE.mono:∀ a0 k,cN (bE.f k a0) (bE.f (k + 1) a0):=by
 intro a0 k
 unfold bE.f
 repeat' first
  |(with_reducible exact aA.mono _ _)
  |(with_reducible exact cN.refl _)
  |(with_reducible exact cN.none _)
  |(with_reducible refine cN.ite ?_ ?_)
  |(with_reducible refine cN.bind ?_ (fun _ =>?_))
  |refine cN.ite ?_ ?_
  |refine cN.bind ?_ (fun _ =>?_)
theorem bE.calls (k:Nat) (A0:Option Addr) (c0:Nat) (l0:List ByteArray) (r:Bool) (w:World) (Bk:Kd.C Kd.string w A0 l0.length l0) (hc0:l0.length≤c0) (hG:aW w) (h:bE.f k l0=some r):
 Calls Tryz.prog 59 #[.slice A0 l0.length c0,.func (.func 83) #[] #[]] w fun e w'=>e= .returned (.bool r)∧Below w.heap.size w w':=by
 have yI:=ah.mk Bk
 have S3:=ah.mk hc0
 clear Bk hc0
 have HB:=ah.mk (Below.refl w.heap.size w)
 have HG:=ah.mk hG
 clear hG
 have H:((aA.f k l0).bind fun t140=>(some (decide (t140≥0))))=some r:=h
 clear h
 replace H:=Option.bind_eq_some_iff.mp H
 obtain ⟨t140,zb,H⟩:=H
 replace H:(some (decide (t140≥0)))=some r:=H
 have A3:=ah.mk zb
 clear zb
 obtain rfl:=Option.some.inj H
 go_enter Tryz.func59,Tryz.ntmps59
 go_wp2_with (first|((with_reducible refine aT (f:=117) rfl ?_);refine cC (some 7) rfl rfl Tryz.func117 av rfl #[.slice A0 l0.length c0,.func (.func 83) #[] #[]] rfl cY ?_;(with_reducible refine (aA.calls k _ _ l0 t140 _ ?bg ?bY ?eI A3.out).mono ?_);(case bg=>repeat (first|exact yI.out|(with_reducible refine Kd.dZ ?_ _)|(with_reducible refine Kd.eo ?_ _)|(with_reducible refine Kd.eZ ?_)));(case bY=>exact S3.out);(case eI=>exact aW.below HG.out cA);rintro e w4 ⟨rfl,hb⟩;refine ⟨_,rfl,?_⟩;have bI:=ah.mk (az cA hb);clear HB;have HB:=bI;clear bI;(try clear hb);(try clear hb2);(try clear hk);(try clear hi)))
 go_ret
 exact ⟨cU,cA⟩
def bZ.j0:Nat→ByteArray→Bool→Option (Bool)
 | 0,_,_ =>none
 |k + 1,x0,x12=>if x12=true then (if 5≤(x0.size:Int) then ((qD.f (x0.extract 5 x0.size)).bind fun t142=>(some t142)) else (none)) else ((strings_Split.f x0 (⟨#[46]⟩:ByteArray)).bind fun t143=>(if (t143.length:Int)=4 then ((bE.f k t143).bind fun t146=>(some (!t146))) else (some false)))
def bZ.f (k:Nat) (a0:ByteArray):Option (Bool):=if (a0.size:Int) > 5 then (if 0≤5 then (if 5≤(a0.size:Int) then ((cE.f (a0.extract 0 5)).bind fun t141=>(bZ.j0 k a0 (t141.toList == ([105,112,118,54,58]:List UInt8)))) else (none)) else (none)) else (bZ.j0 k a0 false)
theorem bZ.fU:∀ k,(∀ y0 y1,cN (bZ.j0 k y0 y1) (bZ.j0 (k + 1) y0 y1))
 | 0=>fun _ _ r h=>by simp [bZ.j0] at h
 |k + 1=>by
  have oK:=bZ.fU k
  ·intro y0 y1
   unfold bZ.j0
   repeat' first
   |(with_reducible exact oK _ _)
   |(with_reducible exact bE.mono _ _)
   |(with_reducible exact cN.refl _)
   |(with_reducible exact cN.none _)
   |(with_reducible refine cN.ite ?_ ?_)
   |(with_reducible refine cN.bind ?_ (fun _ =>?_))
   |refine cN.ite ?_ ?_
   |refine cN.bind ?_ (fun _ =>?_)
theorem bZ.mono:∀ a0 k,cN (bZ.f k a0) (bZ.f (k + 1) a0):=by
 intro a0 k
 have oK:=bZ.fU k
 unfold bZ.f
 repeat' first
  |(with_reducible exact oK _ _)
  |(with_reducible exact bE.mono _ _)
  |(with_reducible exact cN.refl _)
  |(with_reducible exact cN.none _)
  |(with_reducible refine cN.ite ?_ ?_)
  |(with_reducible refine cN.bind ?_ (fun _ =>?_))
  |refine cN.ite ?_ ?_
  |refine cN.bind ?_ (fun _ =>?_)
theorem bZ.calls (k:Nat) (a0:ByteArray) (r:Bool) (w:World) (hG:aW w) (h:bZ.f k a0=some r):
 Calls Tryz.prog 27 #[.string a0] w fun e w'=>e= .returned (.bool r)∧Below w.heap.size w w':=by
 have HB:=ah.mk (Below.refl w.heap.size w)
 have HG:=ah.mk hG
 clear hG
 have H:(if (a0.size:Int) > 5 then (if 0≤5 then (if 5≤(a0.size:Int) then ((cE.f (a0.extract 0 5)).bind fun t141=>(bZ.j0 k a0 (t141.toList == ([105,112,118,54,58]:List UInt8)))) else (none)) else (none)) else (bZ.j0 k a0 false))=some r:=h
 clear h
 have HC2:=ah.mk H
 clear H
 go_enter Tryz.func27,Tryz.ntmps27
 go_upto_region 1 with (fail)
 go_cut [12] (fun v12 wc=>∃ (kq:Nat) (S5:Bool),v12= .bool S5∧ah (bZ.j0 kq a0 S5=some r)∧ah (kq≤k)∧ah (Below w.heap.size w wc))
 case first=>
  have H:=HC2.out
  clear HC2
  by_cases c3:(a0.size:Int) > 5
  ·rw [if_pos c3] at H
   have rD:decide (5 < (a0.size:Int))=true:=decide_eq_true c3
   have Nt:decide (5 < a0.size)=true:=decide_eq_true aq
   clear c3
   (first|rw [rD]|(simp only [cS,cV];rw [rD])|skip)
   by_cases c4: 0≤5
   ·rw [if_pos c4] at H
    have nP:=eq_true c4
    have Bn:decide (0≤5)=true:=decide_eq_true c4
    clear c4
    by_cases c5: 5≤(a0.size:Int)
    ·rw [if_pos c5] at H
     have vZ:=eq_true c5
     have WZ:decide (5≤(a0.size:Int))=true:=decide_eq_true c5
     clear c5
     replace H:=Option.bind_eq_some_iff.mp H
     obtain ⟨t141,yF,H⟩:=H
     replace H:(bZ.j0 k a0 (t141.toList == ([105,112,118,54,58]:List UInt8)))=some r:=H
     have A6:=ah.mk yF
     clear yF
     have H':=ah.mk H
     clear H
     go_wp2_with (first|(go_at_call 81;(with_reducible refine (cE.calls (a0.extract 0 5) t141 _ A6.out).mono ?_);rintro e w7 ⟨rfl,hb⟩;have bI:=ah.mk (az cA hb);clear HB;have HB:=bI;clear bI;(try clear hb);(try clear hb2);(try clear hk);(try clear hi)))
     go_meet
     case rel=>exact ⟨_,((t141.toList == ([105,112,118,54,58]:List UInt8))),dL,H',⟨nB⟩,⟨cA⟩⟩
    ·rw [if_neg c5] at H
     exact absurd H bf
   ·rw [if_neg c4] at H
    exact absurd H bf
  ·rw [if_neg c3] at H
   have rD:decide (5 < (a0.size:Int))=false:=decide_eq_false c3
   have Nt:decide (5 < a0.size)=false:=decide_eq_false aq
   clear c3
   (first|rw [rD]|(simp only [cS,cV];rw [rD])|skip)
   have H':=ah.mk H
   clear H
   go_wp2
   go_meet
   case rel=>exact ⟨_,(false),dL,H',⟨nB⟩,⟨cA⟩⟩
 case rest=>
  clear HC2
  try clear c2
  try clear p2
  try clear c3
  try clear rD
  try clear Nt
  try clear c4
  try clear nP
  try clear Bn
  try clear c5
  try clear vZ
  try clear WZ
  obtain ⟨kq,S5,rfl,HA,HJ1,HB⟩:=hcut
  cases kq with
  |zero=>exact absurd HA.out (by simp [bZ.j0])
  |succ kj1=>
   have H:=HA.out
   clear HA
   simp only [bZ.j0] at H
   by_cases c8:S5=true
   ·subst c8
    have H1:(if 5≤(a0.size:Int) then ((qD.f (a0.extract 5 a0.size)).bind fun t142=>(some t142)) else (none))=some r:=by rw [if_pos rfl] at H;exact H
    clear H
    have H:=H1
    clear H1
    by_cases c9: 5≤(a0.size:Int)
    ·rw [if_pos c9] at H
     have IM:=eq_true c9
     have UY:decide (5≤(a0.size:Int))=true:=decide_eq_true c9
     clear c9
     replace H:=Option.bind_eq_some_iff.mp H
     obtain ⟨t142,W6,H⟩:=H
     replace H:(some t142)=some r:=H
     have A10:=ah.mk W6
     clear W6
     obtain rfl:=Option.some.inj H
     go_wp2_with (first|((with_reducible refine aT (f:=82) rfl ?_);refine cC (some 15) rfl rfl Tryz.func82 av rfl #[.string (a0.extract 5 a0.size)] rfl cY ?_;(with_reducible refine (qD.calls (a0.extract 5 a0.size) t142 _ ?bg A10.out).mono ?_);(case bg=>exact aW.below HG.out cA);rintro e w11 ⟨rfl,hb⟩;refine ⟨_,rfl,?_⟩;have bI:=ah.mk (az cA hb);clear HB;have HB:=bI;clear bI;(try clear hb);(try clear hb2);(try clear hk);(try clear hi)))
     go_ret
     exact ⟨cU,cA⟩
    ·rw [if_neg c9] at H
     exact absurd H bf
   ·replace c8:=Bool.eq_false_iff.mpr c8
    subst c8
    have H1:((strings_Split.f a0 (⟨#[46]⟩:ByteArray)).bind fun t143=>(if (t143.length:Int)=4 then ((bE.f kj1 t143).bind fun t146=>(some (!t146))) else (some false)))=some r:=by rw [if_neg (show ¬ (false=true) by decide)] at H;exact H
    clear H
    have H:=H1
    clear H1
    replace H:=Option.bind_eq_some_iff.mp H
    obtain ⟨t143,GZ,H⟩:=H
    replace H:(if (t143.length:Int)=4 then ((bE.f kj1 t143).bind fun t146=>(some (!t146))) else (some false))=some r:=H
    have MH:=ah.mk GZ
    clear GZ
    by_cases c13:(t143.length:Int)=4
    ·rw [if_pos c13] at H
     have G0:((t143.length:Int) == 4)=true:=beq_iff_eq.mpr c13
     have Ny:((t143.length:Int) != 4)=false:=bne_eq_false_iff_eq.mpr c13
     clear c13
     replace H:=Option.bind_eq_some_iff.mp H
     obtain ⟨t146,CK,H⟩:=H
     replace H:(some (!t146))=some r:=H
     have W7:=ah.mk CK
     clear CK
     obtain rfl:=Option.some.inj H
     go_wp2_with (first|((with_reducible refine aT (f:=75) rfl ?_);refine cC (some 17) rfl rfl Tryz.func75 av rfl #[.string a0,.string (⟨#[46]⟩:ByteArray)] rfl cY ?_;(with_reducible refine (strings_Split.calls a0 (⟨#[46]⟩:ByteArray) t143 _ ?bg MH.out).mono ?_);(case bg=>exact aW.below HG.out cA);rintro e Jj ⟨aop,rfl,ho0,hb⟩;refine ⟨_,rfl,?_⟩;have bI:=ah.mk (Kd.gv ho0 (dK cA));have bP:=ah.mk (az cA hb);clear HB;have Ei:=bI;have HB:=bP;clear bI bP;(try clear hb);(try clear hb2);(try clear hk);(try clear hi);(try clear ho0);obtain ⟨asD,asE,aoq⟩:=Kd.eB Ei.out;subst aoq)|(go_at_call 59;(with_reducible refine (bE.calls kj1 _ _ t143 t146 _ ?bg ?bY ?eI W7.out).mono ?_);(case bg=>repeat (first|exact (Kd.fD Ei.out).2.2|(with_reducible refine Kd.dZ ?_ _)|(with_reducible refine Kd.eo ?_ _)|(with_reducible refine Kd.eZ ?_)));(case bY=>exact (Kd.fD Ei.out).2.1);(case eI=>exact aW.below HG.out cA);rintro e w17 ⟨rfl,hb⟩;have bI:=ah.mk (Kd.dA (by (with_reducible repeat (first|apply Kd.fX|apply Kd.fY|apply Kd.gW));exact Ei.out) hb);have bP:=ah.mk (az cA hb);clear Ei;clear HB;have Ei:=bI;have HB:=bP;clear bI bP;(try clear hb);(try clear hb2);(try clear hk);(try clear hi)))
     go_ret
     exact ⟨cU,cA⟩
    ·rw [if_neg c13] at H
     have G0:((t143.length:Int) == 4)=false:=beq_eq_false_iff_ne.mpr c13
     have Ny:((t143.length:Int) != 4)=true:=bne_iff_ne.mpr c13
     obtain rfl:=Option.some.inj H
     go_wp2_with (first|((with_reducible refine aT (f:=75) rfl ?_);refine cC (some 17) rfl rfl Tryz.func75 av rfl #[.string a0,.string (⟨#[46]⟩:ByteArray)] rfl cY ?_;(with_reducible refine (strings_Split.calls a0 (⟨#[46]⟩:ByteArray) t143 _ ?bg MH.out).mono ?_);(case bg=>exact aW.below HG.out cA);rintro e Nz ⟨aop,rfl,ho0,hb⟩;refine ⟨_,rfl,?_⟩;have bI:=ah.mk (Kd.gv ho0 (dK cA));have bP:=ah.mk (az cA hb);clear HB;have Ei:=bI;have HB:=bP;clear bI bP;(try clear hb);(try clear hb2);(try clear hk);(try clear hi);(try clear ho0);obtain ⟨asF,asG,aor⟩:=Kd.eB Ei.out;subst aor))
     go_ret
     exact ⟨cU,cA⟩
def gJ.f (k:Nat) (a0:ByteArray):Option (Bool):=if (a0.size:Int) > 2 then (if 0 < (a0.size:Int) then (if (bt a0 0)=91 then (if 0≤(wrap64 ((a0.size:Int) - 1)) then (if (wrap64 ((a0.size:Int) - 1)) < (a0.size:Int) then (if (bt a0 (wrap64 ((a0.size:Int) - 1)))=93 then (if 1≤(wrap64 ((a0.size:Int) - 1)) then (if (wrap64 ((a0.size:Int) - 1))≤(a0.size:Int) then ((bZ.f k (a0.extract 1 ((wrap64 ((a0.size:Int) - 1)):Int).toNat)).bind fun t147=>(some t147)) else (none)) else (none)) else (some false)) else (none)) else (none)) else (some false)) else (none)) else (some false)
theorem gJ.mono:∀ a0 k,cN (gJ.f k a0) (gJ.f (k + 1) a0):=by
 intro a0 k
 unfold gJ.f
 repeat' first
  |(with_reducible exact bZ.mono _ _)
  |(with_reducible exact cN.refl _)
  |(with_reducible exact cN.none _)
  |(with_reducible refine cN.ite ?_ ?_)
  |(with_reducible refine cN.bind ?_ (fun _ =>?_))
  |refine cN.ite ?_ ?_
  |refine cN.bind ?_ (fun _ =>?_)
theorem gJ.calls (k:Nat) (a0:ByteArray) (r:Bool) (w:World) (hG:aW w) (h:gJ.f k a0=some r):
 Calls Tryz.prog 95 #[.string a0] w fun e w'=>e= .returned (.bool r)∧Below w.heap.size w w':=by
 have HB:=ah.mk (Below.refl w.heap.size w)
 have HG:=ah.mk hG
 clear hG
 have H:(if (a0.size:Int) > 2 then (if 0 < (a0.size:Int) then (if (bt a0 0)=91 then (if 0≤(wrap64 ((a0.size:Int) - 1)) then (if (wrap64 ((a0.size:Int) - 1)) < (a0.size:Int) then (if (bt a0 (wrap64 ((a0.size:Int) - 1)))=93 then (if 1≤(wrap64 ((a0.size:Int) - 1)) then (if (wrap64 ((a0.size:Int) - 1))≤(a0.size:Int) then ((bZ.f k (a0.extract 1 ((wrap64 ((a0.size:Int) - 1)):Int).toNat)).bind fun t147=>(some t147)) else (none)) else (none)) else (some false)) else (none)) else (none)) else (some false)) else (none)) else (some false))=some r:=h
 clear h
 by_cases c2:(a0.size:Int) > 2
 ·rw [if_pos c2] at H
  have Dw:decide (2 < (a0.size:Int))=true:=decide_eq_true c2
  have P8:decide (2 < a0.size)=true:=decide_eq_true aq
  clear c2
  by_cases c3: 0 < (a0.size:Int)
  ·rw [if_pos c3] at H
   have rD:decide (0 < (a0.size:Int))=true:=decide_eq_true c3
   have Nt:decide (0 < a0.size)=true:=decide_eq_true aq
   clear c3
   by_cases c5:(bt a0 0)=91
   ·rw [if_pos c5] at H
    have vZ:((bt a0 0) == 91)=true:=beq_iff_eq.mpr c5
    have WZ:((bt a0 0) != 91)=false:=bne_eq_false_iff_eq.mpr c5
    clear c5
    obtain ⟨Dx,Zi⟩:∃ j_:Int,(wrap64 ((a0.size:Int) - 1))=j_ :=⟨_,rfl⟩
    replace H:(if 0≤(Dx) then (if (Dx) < (a0.size:Int) then (if (bt a0 (Dx))=93 then (if 1≤(Dx) then (if (Dx)≤(a0.size:Int) then ((bZ.f k (a0.extract 1 ((Dx):Int).toNat)).bind fun t147=>(some t147)) else (none)) else (none)) else (some false)) else (none)) else (none))=some r:=by first|(rw [Zi] at H;exact H)|(simp only [Zi] at H ⊢;exact H)
    have aqm:(IntKind.i64.wrap ((a0.size:Int) - 1))=Dx:=(cS _).trans Zi
    by_cases c7: 0≤(Dx)
    ·rw [if_pos c7] at H
     have Nb:decide (0≤(Dx))=true:=decide_eq_true c7
     clear c7
     by_cases c8:(Dx) < (a0.size:Int)
     ·rw [if_pos c8] at H
      have Dy:decide ((Dx) < (a0.size:Int))=true:=decide_eq_true c8
      clear c8
      by_cases c10:(bt a0 (Dx))=93
      ·rw [if_pos c10] at H
       have oX:((bt a0 (Dx)) == 93)=true:=beq_iff_eq.mpr c10
       have yz:((bt a0 (Dx)) != 93)=false:=bne_eq_false_iff_eq.mpr c10
       clear c10
       by_cases c11: 1≤(Dx)
       ·rw [if_pos c11] at H
        have AY:=eq_true c11
        have Nk:decide (1≤(Dx))=true:=decide_eq_true c11
        clear c11
        by_cases c12:(Dx)≤(a0.size:Int)
        ·rw [if_pos c12] at H
         have Eg:=eq_true c12
         have Nl:decide ((Dx)≤(a0.size:Int))=true:=decide_eq_true c12
         clear c12
         replace H:=Option.bind_eq_some_iff.mp H
         obtain ⟨t147,afF,H⟩:=H
         replace H:(some t147)=some r:=H
         have A13:=ah.mk afF
         clear afF
         obtain rfl:=Option.some.inj H
         have p4: 0≤(0:Int):=aq
         have q4: 0 < a0.size:=(by have:(0:Int) < (a0.size:Int):=of_decide_eq_true cO;omega)
         have hx4:∀ h: 0 < a0.size,((a0[0]'h).toNat:Int)=bt a0 0:=ig a0 0
         clear p4
         have qi4:(0 < (a0.size:Int))=True:=eq_true (of_decide_eq_true cO)
         replace q4:=eq_true q4
         have p9: 0≤((Dx):Int):=of_decide_eq_true cO
         have q9:(Dx) < (a0.size:Int):=of_decide_eq_true cO
         have hx9:=ig a0 (Dx)
         replace p9:=eq_true p9
         replace q9:=eq_true q9
         go_enter Tryz.func95,Tryz.ntmps95
         go_wp2_with (first|(go_at_call 27;(with_reducible refine (bZ.calls k (a0.extract 1 ((Dx):Int).toNat) t147 _ ?bg A13.out).mono ?_);(case bg=>exact aW.below HG.out cA);rintro e CI ⟨rfl,hb⟩;have bI:=ah.mk (az cA hb);clear HB;have HB:=bI;clear bI;(try clear hb);(try clear hb2);(try clear hk);(try clear hi)))
         go_ret
         exact ⟨RA,cA⟩
        ·rw [if_neg c12] at H
         exact absurd H bf
       ·rw [if_neg c11] at H
        exact absurd H bf
      ·rw [if_neg c10] at H
       have oX:((bt a0 (Dx)) == 93)=false:=beq_eq_false_iff_ne.mpr c10
       have yz:((bt a0 (Dx)) != 93)=true:=bne_iff_ne.mpr c10
       obtain rfl:=Option.some.inj H
       have p4: 0≤(0:Int):=aq
       have q4: 0 < a0.size:=(by have:(0:Int) < (a0.size:Int):=of_decide_eq_true cO;omega)
       have hx4:∀ h: 0 < a0.size,((a0[0]'h).toNat:Int)=bt a0 0:=ig a0 0
       clear p4
       have qi4:(0 < (a0.size:Int))=True:=eq_true (of_decide_eq_true cO)
       replace q4:=eq_true q4
       have p9: 0≤((Dx):Int):=of_decide_eq_true cO
       have q9:(Dx) < (a0.size:Int):=of_decide_eq_true cO
       have hx9:=ig a0 (Dx)
       replace p9:=eq_true p9
       replace q9:=eq_true q9
       go_enter Tryz.func95,Tryz.ntmps95
       go_wp2
       go_ret
       exact ⟨RA,cA⟩
     ·rw [if_neg c8] at H
      exact absurd H bf
    ·rw [if_neg c7] at H
     exact absurd H bf
   ·rw [if_neg c5] at H
    have vZ:((bt a0 0) == 91)=false:=beq_eq_false_iff_ne.mpr c5
    have WZ:((bt a0 0) != 91)=true:=bne_iff_ne.mpr c5
    obtain rfl:=Option.some.inj H
    have p4: 0≤(0:Int):=aq
    have q4: 0 < a0.size:=(by have:(0:Int) < (a0.size:Int):=of_decide_eq_true cO;omega)
    have hx4:∀ h: 0 < a0.size,((a0[0]'h).toNat:Int)=bt a0 0:=ig a0 0
    clear p4
    have qi4:(0 < (a0.size:Int))=True:=eq_true (of_decide_eq_true cO)
    replace q4:=eq_true q4
    go_enter Tryz.func95,Tryz.ntmps95
    go_wp2
    go_ret
    exact ⟨cU,cA⟩
  ·rw [if_neg c3] at H
   exact absurd H bf
 ·rw [if_neg c2] at H
  have Dw:decide (2 < (a0.size:Int))=false:=decide_eq_false c2
  have P8:decide (2 < a0.size)=false:=decide_eq_false aq
  clear c2
  obtain rfl:=Option.some.inj H
  go_enter Tryz.func95,Tryz.ntmps95
  go_wp2
  go_ret
  exact ⟨cU,cA⟩
def stringslite_HasPrefix.f (a0:ByteArray) (a1:ByteArray):Option (Bool):=if (a0.size:Int)≥(a1.size:Int) then (if 0≤(a1.size:Int) then (if (a1.size:Int)≤(a0.size:Int) then (some ((a0.extract 0 ((a1.size:Int):Int).toNat).toList == a1.toList)) else (none)) else (none)) else (some false)
theorem stringslite_HasPrefix.calls (a0:ByteArray) (a1:ByteArray) (r:Bool) (w:World) (h:stringslite_HasPrefix.f a0 a1=some r):
 Calls Tryz.prog 98 #[.string a0,.string a1] w fun e w'=>e= .returned (.bool r)∧kA w w':=by
 have H:(if (a0.size:Int)≥(a1.size:Int) then (if 0≤(a1.size:Int) then (if (a1.size:Int)≤(a0.size:Int) then (some ((a0.extract 0 ((a1.size:Int):Int).toNat).toList == a1.toList)) else (none)) else (none)) else (some false))=some r:=h
 clear h
 by_cases c3:(a0.size:Int)≥(a1.size:Int)
 ·rw [if_pos c3] at H
  have rD:decide ((a1.size:Int)≤(a0.size:Int))=true:=decide_eq_true c3
  have Nt:decide (a1.size≤a0.size)=true:=decide_eq_true (Int.ofNat_le.mp c3)
  clear c3
  by_cases c4: 0≤(a1.size:Int)
  ·rw [if_pos c4] at H
   have nP:=eq_true c4
   have Bn:decide (0≤(a1.size:Int))=true:=decide_eq_true c4
   clear c4
   by_cases c5:(a1.size:Int)≤(a0.size:Int)
   ·rw [if_pos c5] at H
    have vZ:=eq_true c5
    have WZ:decide ((a1.size:Int)≤(a0.size:Int))=true:=decide_eq_true c5
    clear c5
    obtain rfl:=Option.some.inj H
    go_enter Tryz.func98,Tryz.ntmps98
    go_wp2
    go_ret
    exact ⟨dL,kN⟩
   ·rw [if_neg c5] at H
    exact absurd H bf
  ·rw [if_neg c4] at H
   exact absurd H bf
 ·rw [if_neg c3] at H
  have rD:decide ((a1.size:Int)≤(a0.size:Int))=false:=decide_eq_false c3
  have Nt:decide (a1.size≤a0.size)=false:=decide_eq_false (fun h=>c3 (Int.ofNat_le.mpr h))
  clear c3
  obtain rfl:=Option.some.inj H
  go_enter Tryz.func98,Tryz.ntmps98
  go_wp2
  go_ret
  exact ⟨dL,kN⟩
def strings_HasPrefix.f (a0:ByteArray) (a1:ByteArray):Option (Bool):=(stringslite_HasPrefix.f a0 a1).bind fun t148=>(some t148)
theorem strings_HasPrefix.calls (a0:ByteArray) (a1:ByteArray) (r:Bool) (w:World) (h:strings_HasPrefix.f a0 a1=some r):
 Calls Tryz.prog 37 #[.string a0,.string a1] w fun e w'=>e= .returned (.bool r)∧kA w w':=by
 have H:((stringslite_HasPrefix.f a0 a1).bind fun t148=>(some t148))=some r:=h
 clear h
 replace H:=Option.bind_eq_some_iff.mp H
 obtain ⟨t148,zb,H⟩:=H
 replace H:(some t148)=some r:=H
 have A3:=ah.mk zb
 clear zb
 obtain rfl:=Option.some.inj H
 go_enter Tryz.func37,Tryz.ntmps37
 go_wp2_with (first|((with_reducible refine aT (f:=98) rfl ?_);refine cC (some 7) rfl rfl Tryz.func98 av rfl #[.string a0,.string a1] rfl cY ?_;(with_reducible refine (stringslite_HasPrefix.calls a0 a1 t148 _ A3.out).mono ?_);rintro e w' ⟨rfl,⟨nd,rfl⟩⟩;refine ⟨_,rfl,?_⟩))
 go_ret
 exact ⟨dL,kN⟩
end Go.Proofs.YtokpnfljjjjikaaGreatDoor.n9
