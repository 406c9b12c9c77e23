import Derived.Test.YtokpnfljjjjikaaGreatDoorQCbx0
import Derived.Test.YtokpnfljjjjikaaGreatDoorECmd
import Derived.Test.YtokpnfljjjjikaaGreatDoorELit
import Derived.Test.YtokpnfljjjjikaaGreatDoorESmall
set_option maxHeartbeats 8000000
set_option maxRecDepth 100000
namespace Go.Proofs.YtokpnfljjjjikaaGreatDoor.nK
open Go.RowKit Go.Proofs.aj.bQ Go.Proofs.aj.fR Go.Proofs.aj.cM
attribute [local go_sem] iY iZ ku kA ig ij jc jd
set_option linter.unusedVariables false
set_option linter.unusedSimpArgs false
def cu.f (a0:ByteArray):Option (ByteArray):=(gB.f a0 97 122 (-32)).bind fun t131=>(some t131)
theorem cu.calls (a0:ByteArray) (r:ByteArray) (w:World) (h:cu.f a0=some r):
 Calls Tryz.prog 93 #[.string a0] w fun e w'=>e= .returned (.string r)∧Below w.heap.size w w':=by
 have HB:=ah.mk (Below.refl w.heap.size w)
 have H:((gB.f a0 97 122 (-32)).bind fun t131=>(some t131))=some r:=h
 clear h
 replace H:=Option.bind_eq_some_iff.mp H
 obtain ⟨t131,nr,H⟩:=H
 replace H:(some t131)=some r:=H
 have A2:=ah.mk nr
 clear nr
 obtain rfl:=Option.some.inj H
 go_enter Tryz.func93,Tryz.ntmps93
 go_wp2_with (first|((with_reducible refine aU (f:=140) rfl ?_);refine cB (some 4) rfl rfl Tryz.func140 av rfl #[.string a0,.int .u8 97,.int .u8 122,.int .i64 (-32)] rfl cX ?_;(with_reducible refine (gB.calls a0 97 122 (-32) t131 _ A2.out).mono ?_);rintro e w3 ⟨rfl,hb⟩;refine ⟨_,rfl,?_⟩;have bL:=ah.mk (aC cw hb);clear HB;have HB:=bL;clear bL;(try clear hb);(try clear hb2);(try clear hk);(try clear hi)))
 go_ret
 exact ⟨cO,cw⟩
def gi.f (a0:ByteArray):Option (ByteArray):=(gB.f a0 65 90 32).bind fun t132=>(some t132)
theorem gi.calls (a0:ByteArray) (r:ByteArray) (w:World) (h:gi.f a0=some r):
 Calls Tryz.prog 94 #[.string a0] w fun e w'=>e= .returned (.string r)∧Below w.heap.size w w':=by
 have HB:=ah.mk (Below.refl w.heap.size w)
 have H:((gB.f a0 65 90 32).bind fun t132=>(some t132))=some r:=h
 clear h
 replace H:=Option.bind_eq_some_iff.mp H
 obtain ⟨t132,nr,H⟩:=H
 replace H:(some t132)=some r:=H
 have A2:=ah.mk nr
 clear nr
 obtain rfl:=Option.some.inj H
 go_enter Tryz.func94,Tryz.ntmps94
 go_wp2_with (first|((with_reducible refine aU (f:=140) rfl ?_);refine cB (some 4) rfl rfl Tryz.func140 av rfl #[.string a0,.int .u8 65,.int .u8 90,.int .i64 32] rfl cX ?_;(with_reducible refine (gB.calls a0 65 90 32 t132 _ A2.out).mono ?_);rintro e w3 ⟨rfl,hb⟩;refine ⟨_,rfl,?_⟩;have bL:=ah.mk (aC cw hb);clear HB;have HB:=bL;clear bL;(try clear hb);(try clear hb2);(try clear hk);(try clear hi)))
 go_ret
 exact ⟨cO,cw⟩
def o8.f (a0:ByteArray):Option (Bool):=(strings_Cut.f a0 (⟨#[58,58]⟩:ByteArray)).bind fun E6=>((eU.f E6.1).bind fun t136=>((eU.f E6.2.1).bind fun t137=>(if E6.2.2=true then (if t136≥0 then (if t137≥0 then (some (decide ((wrap64 (t136 + t137))≤6))) else (some false)) else (some false)) else (some (t136 == 8)))))
theorem o8.calls (a0:ByteArray) (r:Bool) (w:World) (hG:aQ w) (h:o8.f a0=some r):
 Calls Tryz.prog 82 #[.string a0] w fun e w'=>e= .returned (.bool r)∧Below w.heap.size w w':=by
 have HB:=ah.mk (Below.refl w.heap.size w)
 have HG:=ah.mk hG
 clear hG
 have H:((strings_Cut.f a0 (⟨#[58,58]⟩:ByteArray)).bind fun E6=>((eU.f E6.1).bind fun t136=>((eU.f E6.2.1).bind fun t137=>(if E6.2.2=true then (if t136≥0 then (if t137≥0 then (some (decide ((wrap64 (t136 + t137))≤6))) else (some false)) else (some false)) else (some (t136 == 8))))))=some r:=h
 clear h
 replace H:=Option.bind_eq_some_iff.mp H
 obtain ⟨⟨t133,t134,t135⟩,nr,H⟩:=H
 replace H:((eU.f t133).bind fun t136=>((eU.f t134).bind fun t137=>(if t135=true then (if t136≥0 then (if t137≥0 then (some (decide ((wrap64 (t136 + t137))≤6))) else (some false)) else (some false)) else (some (t136 == 8)))))=some r:=H
 have A2:=ah.mk nr
 clear nr
 replace H:=Option.bind_eq_some_iff.mp H
 obtain ⟨t136,zf,H⟩:=H
 replace H:((eU.f t134).bind fun t137=>(if t135=true then (if t136≥0 then (if t137≥0 then (some (decide ((wrap64 (t136 + t137))≤6))) else (some false)) else (some false)) else (some (t136 == 8))))=some r:=H
 have A3:=ah.mk zf
 clear zf
 replace H:=Option.bind_eq_some_iff.mp H
 obtain ⟨t137,CC,H⟩:=H
 replace H:(if t135=true then (if t136≥0 then (if t137≥0 then (some (decide ((wrap64 (t136 + t137))≤6))) else (some false)) else (some false)) else (some (t136 == 8)))=some r:=H
 have A4:=ah.mk CC
 clear CC
 by_cases c5:t135=true
 ·subst c5
  have H1:(if t136≥0 then (if t137≥0 then (some (decide ((wrap64 (t136 + t137))≤6))) else (some false)) else (some false))=some r:=by rw [if_pos rfl] at H;exact H
  clear H
  have H:=H1
  clear H1
  by_cases c6:t136≥0
  ·rw [if_pos c6] at H
   have pP:decide (0≤t136)=true:=decide_eq_true c6
   clear c6
   by_cases c7:t137≥0
   ·rw [if_pos c7] at H
    have wU:decide (0≤t137)=true:=decide_eq_true c7
    clear c7
    obtain rfl:=Option.some.inj H
    go_enter Tryz.func82,Tryz.ntmps82
    go_wp2_with (first|((with_reducible refine aU (f:=91) rfl ?_);refine cB (some 10) rfl rfl Tryz.func91 av rfl #[.string a0,.string (⟨#[58,58]⟩:ByteArray)] rfl cX ?_;(with_reducible refine (strings_Cut.calls a0 (⟨#[58,58]⟩:ByteArray) t133 t134 true _ ?aW A2.out).mono ?_);(case aW=>exact aQ.below HG.out cw);rintro e w' ⟨rfl,⟨nd,rfl⟩⟩;refine ⟨_,rfl,?_⟩)|((with_reducible refine aU (f:=130) rfl ?_);refine cB (some 15) rfl rfl Tryz.func130 av rfl #[.string t133] rfl cX ?_;(with_reducible refine (eU.calls t133 t136 _ ?aW A3.out).mono ?_);(case aW=>exact aQ.below HG.out cw);rintro e w8 ⟨rfl,hb⟩;refine ⟨_,rfl,?_⟩;have bL:=ah.mk (aC cw hb);clear HB;have HB:=bL;clear bL;(try clear hb);(try clear hb2);(try clear hk);(try clear hi))|((with_reducible refine aU (f:=130) rfl ?_);refine cB (some 17) rfl rfl Tryz.func130 av rfl #[.string t134] rfl cX ?_;(with_reducible refine (eU.calls t134 t137 _ ?aW A4.out).mono ?_);(case aW=>exact aQ.below HG.out cw);rintro e w9 ⟨rfl,hb⟩;refine ⟨_,rfl,?_⟩;have bL:=ah.mk (aC cw hb);clear HB;have HB:=bL;clear bL;(try clear hb);(try clear hb2);(try clear hk);(try clear hi)))
    go_ret
    exact ⟨cO,cw⟩
   ·rw [if_neg c7] at H
    have wU:decide (0≤t137)=false:=decide_eq_false c7
    clear c7
    obtain rfl:=Option.some.inj H
    go_enter Tryz.func82,Tryz.ntmps82
    go_wp2_with (first|((with_reducible refine aU (f:=91) rfl ?_);refine cB (some 10) rfl rfl Tryz.func91 av rfl #[.string a0,.string (⟨#[58,58]⟩:ByteArray)] rfl cX ?_;(with_reducible refine (strings_Cut.calls a0 (⟨#[58,58]⟩:ByteArray) t133 t134 true _ ?aW A2.out).mono ?_);(case aW=>exact aQ.below HG.out cw);rintro e w' ⟨rfl,⟨nd,rfl⟩⟩;refine ⟨_,rfl,?_⟩)|((with_reducible refine aU (f:=130) rfl ?_);refine cB (some 15) rfl rfl Tryz.func130 av rfl #[.string t133] rfl cX ?_;(with_reducible refine (eU.calls t133 t136 _ ?aW A3.out).mono ?_);(case aW=>exact aQ.below HG.out cw);rintro e sw ⟨rfl,hb⟩;refine ⟨_,rfl,?_⟩;have bL:=ah.mk (aC cw hb);clear HB;have HB:=bL;clear bL;(try clear hb);(try clear hb2);(try clear hk);(try clear hi))|((with_reducible refine aU (f:=130) rfl ?_);refine cB (some 17) rfl rfl Tryz.func130 av rfl #[.string t134] rfl cX ?_;(with_reducible refine (eU.calls t134 t137 _ ?aW A4.out).mono ?_);(case aW=>exact aQ.below HG.out cw);rintro e w11 ⟨rfl,hb⟩;refine ⟨_,rfl,?_⟩;have bL:=ah.mk (aC cw hb);clear HB;have HB:=bL;clear bL;(try clear hb);(try clear hb2);(try clear hk);(try clear hi)))
    go_ret
    exact ⟨cO,cw⟩
  ·rw [if_neg c6] at H
   have pP:decide (0≤t136)=false:=decide_eq_false c6
   clear c6
   obtain rfl:=Option.some.inj H
   go_enter Tryz.func82,Tryz.ntmps82
   go_wp2_with (first|((with_reducible refine aU (f:=91) rfl ?_);refine cB (some 10) rfl rfl Tryz.func91 av rfl #[.string a0,.string (⟨#[58,58]⟩:ByteArray)] rfl cX ?_;(with_reducible refine (strings_Cut.calls a0 (⟨#[58,58]⟩:ByteArray) t133 t134 true _ ?aW A2.out).mono ?_);(case aW=>exact aQ.below HG.out cw);rintro e w' ⟨rfl,⟨nd,rfl⟩⟩;refine ⟨_,rfl,?_⟩)|((with_reducible refine aU (f:=130) rfl ?_);refine cB (some 15) rfl rfl Tryz.func130 av rfl #[.string t133] rfl cX ?_;(with_reducible refine (eU.calls t133 t136 _ ?aW A3.out).mono ?_);(case aW=>exact aQ.below HG.out cw);rintro e SJ ⟨rfl,hb⟩;refine ⟨_,rfl,?_⟩;have bL:=ah.mk (aC cw hb);clear HB;have HB:=bL;clear bL;(try clear hb);(try clear hb2);(try clear hk);(try clear hi))|((with_reducible refine aU (f:=130) rfl ?_);refine cB (some 17) rfl rfl Tryz.func130 av rfl #[.string t134] rfl cX ?_;(with_reducible refine (eU.calls t134 t137 _ ?aW A4.out).mono ?_);(case aW=>exact aQ.below HG.out cw);rintro e nj ⟨rfl,hb⟩;refine ⟨_,rfl,?_⟩;have bL:=ah.mk (aC cw hb);clear HB;have HB:=bL;clear bL;(try clear hb);(try clear hb2);(try clear hk);(try clear hi)))
   go_ret
   exact ⟨cO,cw⟩
 ·replace c5:=Bool.eq_false_iff.mpr c5
  subst c5
  have H1:(some (t136 == 8))=some r:=by rw [if_neg (show ¬ (false=true) by decide)] at H;exact H
  clear H
  have H:=H1
  clear H1
  obtain rfl:=Option.some.inj H
  go_enter Tryz.func82,Tryz.ntmps82
  go_wp2_with (first|((with_reducible refine aU (f:=91) rfl ?_);refine cB (some 10) rfl rfl Tryz.func91 av rfl #[.string a0,.string (⟨#[58,58]⟩:ByteArray)] rfl cX ?_;(with_reducible refine (strings_Cut.calls a0 (⟨#[58,58]⟩:ByteArray) t133 t134 false _ ?aW A2.out).mono ?_);(case aW=>exact aQ.below HG.out cw);rintro e w' ⟨rfl,⟨nd,rfl⟩⟩;refine ⟨_,rfl,?_⟩)|((with_reducible refine aU (f:=130) rfl ?_);refine cB (some 15) rfl rfl Tryz.func130 av rfl #[.string t133] rfl cX ?_;(with_reducible refine (eU.calls t133 t136 _ ?aW A3.out).mono ?_);(case aW=>exact aQ.below HG.out cw);rintro e GK ⟨rfl,hb⟩;refine ⟨_,rfl,?_⟩;have bL:=ah.mk (aC cw hb);clear HB;have HB:=bL;clear bL;(try clear hb);(try clear hb2);(try clear hk);(try clear hi))|((with_reducible refine aU (f:=130) rfl ?_);refine cB (some 17) rfl rfl Tryz.func130 av rfl #[.string t134] rfl cX ?_;(with_reducible refine (eU.calls t134 t137 _ ?aW A4.out).mono ?_);(case aW=>exact aQ.below HG.out cw);rintro e GP ⟨rfl,hb⟩;refine ⟨_,rfl,?_⟩;have bL:=ah.mk (aC cw hb);clear HB;have HB:=bL;clear bL;(try clear hb);(try clear hb2);(try clear hk);(try clear hi)))
  go_ret
  exact ⟨cO,cw⟩
def az.l0:Nat→List ByteArray→Int→Int→Option (Int)
 | 0,_,_,_ =>none
 |k + 1,x0,x7,x8=>if x8 < x7 then (if 0≤x8 then (if x8 < (x0.length:Int) then ((fY.f (jZ ByteArray.empty x0 x8)).bind fun t139=>(if t139=true then (some x8) else (az.l0 k x0 x7 (wrap64 (x8 + 1))))) else (none)) else (none)) else (some (-1))
def az.f (k:Nat) (l0:List ByteArray):Option (Int):=az.l0 k l0 (l0.length:Int) 0
theorem az.fJ:∀ k,(∀ y0 y1 y2,cH (az.l0 k y0 y1 y2) (az.l0 (k + 1) y0 y1 y2))
 | 0=>fun _ _ _ r h=>by simp [az.l0] at h
 |k + 1=>by
  have nP:=az.fJ k
  ·intro y0 y1 y2
   unfold az.l0
   repeat' first
   |(with_reducible exact nP _ _ _)
   |(with_reducible exact cH.refl _)
   |(with_reducible exact cH.none _)
   |(with_reducible refine cH.ite ?_ ?_)
   |(with_reducible refine cH.bind ?_ (fun _ =>?_))
   |refine cH.ite ?_ ?_
   |refine cH.bind ?_ (fun _ =>?_)
theorem az.mono:∀ a0 k,cH (az.f k a0) (az.f (k + 1) a0):=by
 intro a0 k
 have nP:=az.fJ k
 unfold az.f
 repeat' first
  |(with_reducible exact nP _ _ _)
  |(with_reducible exact cH.refl _)
  |(with_reducible exact cH.none _)
  |(with_reducible refine cH.ite ?_ ?_)
  |(with_reducible refine cH.bind ?_ (fun _ =>?_))
  |refine cH.ite ?_ ?_
  |refine cH.bind ?_ (fun _ =>?_)
theorem az.calls (k:Nat) (A0:Option Addr) (c0:Nat) (l0:List ByteArray) (r:Int) (w:World) (zm:Kd.C Kd.string w A0 l0.length l0) (hc0:l0.length≤c0) (hG:aQ w) (h:az.f k l0=some r):
 Calls Tryz.prog 117 #[.slice A0 l0.length c0,.func (.func 83) #[] #[]] w fun e w'=>e= .returned (.int .i64 r)∧Below w.heap.size w w':=by
 have xG:=ah.mk zm
 have Qf:=ah.mk hc0
 clear zm hc0
 have HB:=ah.mk (Below.refl w.heap.size w)
 have HG:=ah.mk hG
 clear hG
 have H:(az.l0 k l0 (l0.length:Int) 0)=some r:=h
 clear h
 have H':=ah.mk H
 clear H
 go_enter Tryz.func117,Tryz.ntmps117
 go_wp2
 go_loopg [8] k (fun kq v8 w'=>∃ (eJ:Int),v8= .int .i64 eJ∧ah (az.l0 kq l0 (l0.length:Int) eJ=some r)∧ah (kq≤k)∧ah (Below w.heap.size w w'))
 case atStart=>exact ⟨(0),dG,H',⟨Nat.le_refl _⟩,⟨cw⟩⟩
 case round=>
  clear H'
  try clear c1
  try clear p2
  obtain ⟨eJ,rfl,HA,uz,HB⟩:=hrel
  cases gk with
  |zero=>exact absurd HA.out (by simp [az.l0])
  |succ k1=>
   have H:=HA.out
   clear HA
   simp only [az.l0] at H
   by_cases c3:eJ < (l0.length:Int)
   ·rw [if_pos c3] at H
    have pW:decide (eJ < (l0.length:Int))=true:=decide_eq_true c3
    clear c3
    by_cases c4: 0≤eJ
    ·rw [if_pos c4] at H
     have oC:decide (0≤eJ)=true:=decide_eq_true c4
     clear c4
     by_cases c5:eJ < (l0.length:Int)
     ·rw [if_pos c5] at H
      have tR:decide (eJ < (l0.length:Int))=true:=decide_eq_true c5
      clear c5
      replace H:=Option.bind_eq_some_iff.mp H
      obtain ⟨t139,wK,H⟩:=H
      replace H:(if t139=true then (some eJ) else (az.l0 k1 l0 (l0.length:Int) (wrap64 (eJ + 1))))=some r:=H
      have A6:=ah.mk wK
      clear wK
      by_cases c7:t139=true
      ·subst c7
       have H1:(some eJ)=some r:=by rw [if_pos rfl] at H;exact H
       clear H
       have H:=H1
       clear H1
       obtain rfl:=Option.some.inj H
       have Ox: 0≤(eJ:Int):=of_decide_eq_true cL
       have Oy:eJ < (l0.length:Int):=of_decide_eq_true cL
       obtain ⟨adf,aaS,vJ⟩:=Kd.jk xG.out eJ Ox Oy
       cases aaS
       replace vJ:=(HB.out.cell (World.block_lt_of_cell? w _ vJ)).trans vJ
       replace Ox:=eq_true Ox
       replace Oy:=eq_true Oy
       go_wp2_with (first|(go_at_call 83;(with_reducible refine (fY.calls (jZ ByteArray.empty l0 eJ) true _ ?aW A6.out).mono ?_);(case aW=>exact aQ.below HG.out cw);rintro e w8 ⟨rfl,hb⟩;have bL:=ah.mk (aC cw hb);clear HB;have HB:=bL;clear bL;(try clear hb);(try clear hb2);(try clear hk);(try clear hi)))
       go_ret
       exact ⟨cO,cw⟩
      ·replace c7:=Bool.eq_false_iff.mpr c7
       subst c7
       have H1:(az.l0 k1 l0 (l0.length:Int) (wrap64 (eJ + 1)))=some r:=by rw [if_neg (show ¬ (false=true) by decide)] at H;exact H
       clear H
       have H:=H1
       clear H1
       have H':=ah.mk H
       clear H
       have Ox: 0≤(eJ:Int):=of_decide_eq_true cL
       have Oy:eJ < (l0.length:Int):=of_decide_eq_true cL
       obtain ⟨adf,aaS,vJ⟩:=Kd.jk xG.out eJ Ox Oy
       cases aaS
       replace vJ:=(HB.out.cell (World.block_lt_of_cell? w _ vJ)).trans vJ
       replace Ox:=eq_true Ox
       replace Oy:=eq_true Oy
       go_wp2_with (first|(go_at_call 83;(with_reducible refine (fY.calls (jZ ByteArray.empty l0 eJ) false _ ?aW A6.out).mono ?_);(case aW=>exact aQ.below HG.out cw);rintro e w9 ⟨rfl,hb⟩;have bL:=ah.mk (aC cw hb);clear HB;have HB:=bL;clear bL;(try clear hb);(try clear hb2);(try clear hk);(try clear hi)))
       go_roundg k1
       case measure=>have:=uz.out;omega
       case rel=>exact ⟨(wrap64 (eJ + 1)),dG,H',⟨kX⟩,⟨cw⟩⟩
     ·rw [if_neg c5] at H
      exact absurd H aV
    ·rw [if_neg c4] at H
     exact absurd H aV
   ·rw [if_neg c3] at H
    have pW:decide (eJ < (l0.length:Int))=false:=decide_eq_false c3
    clear c3
    obtain rfl:=Option.some.inj H
    go_wp2
    go_ret
    exact ⟨cO,cw⟩
def bz.f (k:Nat) (l0:List ByteArray):Option (Bool):=(az.f k l0).bind fun t140=>(some (decide (t140≥0)))
theorem bz.mono:∀ a0 k,cH (bz.f k a0) (bz.f (k + 1) a0):=by
 intro a0 k
 unfold bz.f
 repeat' first
  |(with_reducible exact az.mono _ _)
  |(with_reducible exact cH.refl _)
  |(with_reducible exact cH.none _)
  |(with_reducible refine cH.ite ?_ ?_)
  |(with_reducible refine cH.bind ?_ (fun _ =>?_))
  |refine cH.ite ?_ ?_
  |refine cH.bind ?_ (fun _ =>?_)
theorem bz.calls (k:Nat) (A0:Option Addr) (c0:Nat) (l0:List ByteArray) (r:Bool) (w:World) (zm:Kd.C Kd.string w A0 l0.length l0) (hc0:l0.length≤c0) (hG:aQ w) (h:bz.f k l0=some r):
 Calls Tryz.prog 59 #[.slice A0 l0.length c0,.func (.func 83) #[] #[]] w fun e w'=>e= .returned (.bool r)∧Below w.heap.size w w':=by
 have xG:=ah.mk zm
 have Qf:=ah.mk hc0
 clear zm hc0
 have HB:=ah.mk (Below.refl w.heap.size w)
 have HG:=ah.mk hG
 clear hG
 have H:((az.f k l0).bind fun t140=>(some (decide (t140≥0))))=some r:=h
 clear h
 replace H:=Option.bind_eq_some_iff.mp H
 obtain ⟨t140,zf,H⟩:=H
 replace H:(some (decide (t140≥0)))=some r:=H
 have A3:=ah.mk zf
 clear zf
 obtain rfl:=Option.some.inj H
 go_enter Tryz.func59,Tryz.ntmps59
 go_wp2_with (first|((with_reducible refine aU (f:=117) rfl ?_);refine cB (some 7) rfl rfl Tryz.func117 av rfl #[.slice A0 l0.length c0,.func (.func 83) #[] #[]] rfl cX ?_;(with_reducible refine (az.calls k _ _ l0 t140 _ ?aW ?bY ?eO A3.out).mono ?_);(case aW=>repeat (first|exact xG.out|(with_reducible refine Kd.dZ ?_ _)|(with_reducible refine Kd.eo ?_ _)|(with_reducible refine Kd.eZ ?_)));(case bY=>exact Qf.out);(case eO=>exact aQ.below HG.out cw);rintro e w4 ⟨rfl,hb⟩;refine ⟨_,rfl,?_⟩;have bL:=ah.mk (aC cw hb);clear HB;have HB:=bL;clear bL;(try clear hb);(try clear hb2);(try clear hk);(try clear hi)))
 go_ret
 exact ⟨cO,cw⟩
def bW.j0:Nat→ByteArray→Bool→Option (Bool)
 | 0,_,_ =>none
 |k + 1,x0,x12=>if x12=true then (if 5≤(x0.size:Int) then ((o8.f (x0.extract 5 x0.size)).bind fun t142=>(some t142)) else (none)) else ((strings_Split.f x0 (⟨#[46]⟩:ByteArray)).bind fun t143=>(if (t143.length:Int)=4 then ((bz.f k t143).bind fun t146=>(some (!t146))) else (some false)))
def bW.f (k:Nat) (a0:ByteArray):Option (Bool):=if (a0.size:Int) > 5 then (if 0≤5 then (if 5≤(a0.size:Int) then ((cz.f (a0.extract 0 5)).bind fun t141=>(bW.j0 k a0 (t141.toList == ([105,112,118,54,58]:List UInt8)))) else (none)) else (none)) else (bW.j0 k a0 false)
theorem bW.fJ:∀ k,(∀ y0 y1,cH (bW.j0 k y0 y1) (bW.j0 (k + 1) y0 y1))
 | 0=>fun _ _ r h=>by simp [bW.j0] at h
 |k + 1=>by
  have nP:=bW.fJ k
  ·intro y0 y1
   unfold bW.j0
   repeat' first
   |(with_reducible exact nP _ _)
   |(with_reducible exact bz.mono _ _)
   |(with_reducible exact cH.refl _)
   |(with_reducible exact cH.none _)
   |(with_reducible refine cH.ite ?_ ?_)
   |(with_reducible refine cH.bind ?_ (fun _ =>?_))
   |refine cH.ite ?_ ?_
   |refine cH.bind ?_ (fun _ =>?_)
theorem bW.mono:∀ a0 k,cH (bW.f k a0) (bW.f (k + 1) a0):=by
 intro a0 k
 have nP:=bW.fJ k
 unfold bW.f
 repeat' first
  |(with_reducible exact nP _ _)
  |(with_reducible exact bz.mono _ _)
  |(with_reducible exact cH.refl _)
  |(with_reducible exact cH.none _)
  |(with_reducible refine cH.ite ?_ ?_)
  |(with_reducible refine cH.bind ?_ (fun _ =>?_))
  |refine cH.ite ?_ ?_
  |refine cH.bind ?_ (fun _ =>?_)
theorem bW.calls (k:Nat) (a0:ByteArray) (r:Bool) (w:World) (hG:aQ w) (h:bW.f k a0=some r):
 Calls Tryz.prog 27 #[.string a0] w fun e w'=>e= .returned (.bool r)∧Below w.heap.size w w':=by
 have HB:=ah.mk (Below.refl w.heap.size w)
 have HG:=ah.mk hG
 clear hG
 have H:(if (a0.size:Int) > 5 then (if 0≤5 then (if 5≤(a0.size:Int) then ((cz.f (a0.extract 0 5)).bind fun t141=>(bW.j0 k a0 (t141.toList == ([105,112,118,54,58]:List UInt8)))) else (none)) else (none)) else (bW.j0 k a0 false))=some r:=h
 clear h
 have HC2:=ah.mk H
 clear H
 go_enter Tryz.func27,Tryz.ntmps27
 go_upto_region 1 with (fail)
 go_cut [12] (fun v12 wc=>∃ (kq:Nat) (Rl:Bool),v12= .bool Rl∧ah (bW.j0 kq a0 Rl=some r)∧ah (kq≤k)∧ah (Below w.heap.size w wc))
 case first=>
  have H:=HC2.out
  clear HC2
  by_cases c3:(a0.size:Int) > 5
  ·rw [if_pos c3] at H
   have pW:decide (5 < (a0.size:Int))=true:=decide_eq_true c3
   have LN:decide (5 < a0.size)=true:=decide_eq_true aq
   clear c3
   (first|rw [pW]|(simp only [cR,cW];rw [pW])|skip)
   by_cases c4: 0≤5
   ·rw [if_pos c4] at H
    have oC:=eq_true c4
    have Ge:decide (0≤5)=true:=decide_eq_true c4
    clear c4
    by_cases c5: 5≤(a0.size:Int)
    ·rw [if_pos c5] at H
     have tR:=eq_true c5
     have UH:decide (5≤(a0.size:Int))=true:=decide_eq_true c5
     clear c5
     replace H:=Option.bind_eq_some_iff.mp H
     obtain ⟨t141,wK,H⟩:=H
     replace H:(bW.j0 k a0 (t141.toList == ([105,112,118,54,58]:List UInt8)))=some r:=H
     have A6:=ah.mk wK
     clear wK
     have H':=ah.mk H
     clear H
     go_wp2_with (first|(go_at_call 81;(with_reducible refine (cz.calls (a0.extract 0 5) t141 _ A6.out).mono ?_);rintro e w7 ⟨rfl,hb⟩;have bL:=ah.mk (aC cw hb);clear HB;have HB:=bL;clear bL;(try clear hb);(try clear hb2);(try clear hk);(try clear hi)))
     go_meet
     case rel=>exact ⟨_,((t141.toList == ([105,112,118,54,58]:List UInt8))),dG,H',⟨mJ⟩,⟨cw⟩⟩
    ·rw [if_neg c5] at H
     exact absurd H aV
   ·rw [if_neg c4] at H
    exact absurd H aV
  ·rw [if_neg c3] at H
   have pW:decide (5 < (a0.size:Int))=false:=decide_eq_false c3
   have LN:decide (5 < a0.size)=false:=decide_eq_false aq
   clear c3
   (first|rw [pW]|(simp only [cR,cW];rw [pW])|skip)
   have H':=ah.mk H
   clear H
   go_wp2
   go_meet
   case rel=>exact ⟨_,(false),dG,H',⟨mJ⟩,⟨cw⟩⟩
 case rest=>
  clear HC2
  try clear c2
  try clear p2
  try clear c3
  try clear pW
  try clear LN
  try clear c4
  try clear oC
  try clear Ge
  try clear c5
  try clear tR
  try clear UH
  obtain ⟨kq,Rl,rfl,HA,HJ1,HB⟩:=hcut
  cases kq with
  |zero=>exact absurd HA.out (by simp [bW.j0])
  |succ kj1=>
   have H:=HA.out
   clear HA
   simp only [bW.j0] at H
   by_cases c8:Rl=true
   ·subst c8
    have H1:(if 5≤(a0.size:Int) then ((o8.f (a0.extract 5 a0.size)).bind fun t142=>(some t142)) else (none))=some r:=by rw [if_pos rfl] at H;exact H
    clear H
    have H:=H1
    clear H1
    by_cases c9: 5≤(a0.size:Int)
    ·rw [if_pos c9] at H
     have SI:=eq_true c9
     have adg:decide (5≤(a0.size:Int))=true:=decide_eq_true c9
     clear c9
     replace H:=Option.bind_eq_some_iff.mp H
     obtain ⟨t142,UQ,H⟩:=H
     replace H:(some t142)=some r:=H
     have A10:=ah.mk UQ
     clear UQ
     obtain rfl:=Option.some.inj H
     go_wp2_with (first|((with_reducible refine aU (f:=82) rfl ?_);refine cB (some 15) rfl rfl Tryz.func82 av rfl #[.string (a0.extract 5 a0.size)] rfl cX ?_;(with_reducible refine (o8.calls (a0.extract 5 a0.size) t142 _ ?aW A10.out).mono ?_);(case aW=>exact aQ.below HG.out cw);rintro e w11 ⟨rfl,hb⟩;refine ⟨_,rfl,?_⟩;have bL:=ah.mk (aC cw hb);clear HB;have HB:=bL;clear bL;(try clear hb);(try clear hb2);(try clear hk);(try clear hi)))
     go_ret
     exact ⟨cO,cw⟩
    ·rw [if_neg c9] at H
     exact absurd H aV
   ·replace c8:=Bool.eq_false_iff.mpr c8
    subst c8
    have H1:((strings_Split.f a0 (⟨#[46]⟩:ByteArray)).bind fun t143=>(if (t143.length:Int)=4 then ((bz.f kj1 t143).bind fun t146=>(some (!t146))) else (some false)))=some r:=by rw [if_neg (show ¬ (false=true) by decide)] at H;exact H
    clear H
    have H:=H1
    clear H1
    replace H:=Option.bind_eq_some_iff.mp H
    obtain ⟨t143,E7,H⟩:=H
    replace H:(if (t143.length:Int)=4 then ((bz.f kj1 t143).bind fun t146=>(some (!t146))) else (some false))=some r:=H
    have Lh:=ah.mk E7
    clear E7
    by_cases c13:(t143.length:Int)=4
    ·rw [if_pos c13] at H
     have E8:((t143.length:Int) == 4)=true:=beq_iff_eq.mpr c13
     have L3:((t143.length:Int) != 4)=false:=bne_eq_false_iff_eq.mpr c13
     clear c13
     replace H:=Option.bind_eq_some_iff.mp H
     obtain ⟨t146,Bd,H⟩:=H
     replace H:(some (!t146))=some r:=H
     have UR:=ah.mk Bd
     clear Bd
     obtain rfl:=Option.some.inj H
     go_wp2_with (first|((with_reducible refine aU (f:=75) rfl ?_);refine cB (some 17) rfl rfl Tryz.func75 av rfl #[.string a0,.string (⟨#[46]⟩:ByteArray)] rfl cX ?_;(with_reducible refine (strings_Split.calls a0 (⟨#[46]⟩:ByteArray) t143 _ ?aW Lh.out).mono ?_);(case aW=>exact aQ.below HG.out cw);rintro e GP ⟨aii,rfl,ho0,hb⟩;refine ⟨_,rfl,?_⟩;have bL:=ah.mk (Kd.kr ho0 (fL cw));have bS:=ah.mk (aC cw hb);clear HB;have CL:=bL;have HB:=bS;clear bL bS;(try clear hb);(try clear hb2);(try clear hk);(try clear hi);(try clear ho0);obtain ⟨alM,alN,aij⟩:=Kd.fI CL.out;subst aij)|(go_at_call 59;(with_reducible refine (bz.calls kj1 _ _ t143 t146 _ ?aW ?bY ?eO UR.out).mono ?_);(case aW=>repeat (first|exact (Kd.iy CL.out).2.2|(with_reducible refine Kd.dZ ?_ _)|(with_reducible refine Kd.eo ?_ _)|(with_reducible refine Kd.eZ ?_)));(case bY=>exact (Kd.iy CL.out).2.1);(case eO=>exact aQ.below HG.out cw);rintro e w17 ⟨rfl,hb⟩;have bL:=ah.mk (Kd.fB (by (with_reducible repeat (first|apply Kd.iD|apply Kd.iL|apply Kd.jT));exact CL.out) hb);have bS:=ah.mk (aC cw hb);clear CL;clear HB;have CL:=bL;have HB:=bS;clear bL bS;(try clear hb);(try clear hb2);(try clear hk);(try clear hi)))
     go_ret
     exact ⟨cO,cw⟩
    ·rw [if_neg c13] at H
     have E8:((t143.length:Int) == 4)=false:=beq_eq_false_iff_ne.mpr c13
     have L3:((t143.length:Int) != 4)=true:=bne_iff_ne.mpr c13
     obtain rfl:=Option.some.inj H
     go_wp2_with (first|((with_reducible refine aU (f:=75) rfl ?_);refine cB (some 17) rfl rfl Tryz.func75 av rfl #[.string a0,.string (⟨#[46]⟩:ByteArray)] rfl cX ?_;(with_reducible refine (strings_Split.calls a0 (⟨#[46]⟩:ByteArray) t143 _ ?aW Lh.out).mono ?_);(case aW=>exact aQ.below HG.out cw);rintro e w18 ⟨aii,rfl,ho0,hb⟩;refine ⟨_,rfl,?_⟩;have bL:=ah.mk (Kd.kr ho0 (fL cw));have bS:=ah.mk (aC cw hb);clear HB;have CL:=bL;have HB:=bS;clear bL bS;(try clear hb);(try clear hb2);(try clear hk);(try clear hi);(try clear ho0);obtain ⟨alO,alP,aik⟩:=Kd.fI CL.out;subst aik))
     go_ret
     exact ⟨cO,cw⟩
def fO.f (k:Nat) (a0:ByteArray):Option (Bool):=if (a0.size:Int) > 2 then (if 0 < (a0.size:Int) then (if (bt a0 0)=91 then (if 0≤(wrap64 ((a0.size:Int) - 1)) then (if (wrap64 ((a0.size:Int) - 1)) < (a0.size:Int) then (if (bt a0 (wrap64 ((a0.size:Int) - 1)))=93 then (if 1≤(wrap64 ((a0.size:Int) - 1)) then (if (wrap64 ((a0.size:Int) - 1))≤(a0.size:Int) then ((bW.f k (a0.extract 1 ((wrap64 ((a0.size:Int) - 1)):Int).toNat)).bind fun t147=>(some t147)) else (none)) else (none)) else (some false)) else (none)) else (none)) else (some false)) else (none)) else (some false)
theorem fO.mono:∀ a0 k,cH (fO.f k a0) (fO.f (k + 1) a0):=by
 intro a0 k
 unfold fO.f
 repeat' first
  |(with_reducible exact bW.mono _ _)
  |(with_reducible exact cH.refl _)
  |(with_reducible exact cH.none _)
  |(with_reducible refine cH.ite ?_ ?_)
  |(with_reducible refine cH.bind ?_ (fun _ =>?_))
  |refine cH.ite ?_ ?_
  |refine cH.bind ?_ (fun _ =>?_)
theorem fO.calls (k:Nat) (a0:ByteArray) (r:Bool) (w:World) (hG:aQ w) (h:fO.f k a0=some r):
 Calls Tryz.prog 95 #[.string a0] w fun e w'=>e= .returned (.bool r)∧Below w.heap.size w w':=by
 have HB:=ah.mk (Below.refl w.heap.size w)
 have HG:=ah.mk hG
 clear hG
 have H:(if (a0.size:Int) > 2 then (if 0 < (a0.size:Int) then (if (bt a0 0)=91 then (if 0≤(wrap64 ((a0.size:Int) - 1)) then (if (wrap64 ((a0.size:Int) - 1)) < (a0.size:Int) then (if (bt a0 (wrap64 ((a0.size:Int) - 1)))=93 then (if 1≤(wrap64 ((a0.size:Int) - 1)) then (if (wrap64 ((a0.size:Int) - 1))≤(a0.size:Int) then ((bW.f k (a0.extract 1 ((wrap64 ((a0.size:Int) - 1)):Int).toNat)).bind fun t147=>(some t147)) else (none)) else (none)) else (some false)) else (none)) else (none)) else (some false)) else (none)) else (some false))=some r:=h
 clear h
 by_cases c2:(a0.size:Int) > 2
 ·rw [if_pos c2] at H
  have BR:decide (2 < (a0.size:Int))=true:=decide_eq_true c2
  have N9:decide (2 < a0.size)=true:=decide_eq_true aq
  clear c2
  by_cases c3: 0 < (a0.size:Int)
  ·rw [if_pos c3] at H
   have pW:decide (0 < (a0.size:Int))=true:=decide_eq_true c3
   have LN:decide (0 < a0.size)=true:=decide_eq_true aq
   clear c3
   by_cases c5:(bt a0 0)=91
   ·rw [if_pos c5] at H
    have tR:((bt a0 0) == 91)=true:=beq_iff_eq.mpr c5
    have UH:((bt a0 0) != 91)=false:=bne_eq_false_iff_eq.mpr c5
    clear c5
    obtain ⟨BZ,WN⟩:∃ j_:Int,(wrap64 ((a0.size:Int) - 1))=j_ :=⟨_,rfl⟩
    replace H:(if 0≤(BZ) then (if (BZ) < (a0.size:Int) then (if (bt a0 (BZ))=93 then (if 1≤(BZ) then (if (BZ)≤(a0.size:Int) then ((bW.f k (a0.extract 1 ((BZ):Int).toNat)).bind fun t147=>(some t147)) else (none)) else (none)) else (some false)) else (none)) else (none))=some r:=by first|(rw [WN] at H;exact H)|(simp only [WN] at H ⊢;exact H)
    have ajO:(IntKind.i64.wrap ((a0.size:Int) - 1))=BZ:=(cR _).trans WN
    by_cases c7: 0≤(BZ)
    ·rw [if_pos c7] at H
     have wU:decide (0≤(BZ))=true:=decide_eq_true c7
     clear c7
     by_cases c8:(BZ) < (a0.size:Int)
     ·rw [if_pos c8] at H
      have JM:decide ((BZ) < (a0.size:Int))=true:=decide_eq_true c8
      clear c8
      by_cases c10:(bt a0 (BZ))=93
      ·rw [if_pos c10] at H
       have qy:((bt a0 (BZ)) == 93)=true:=beq_iff_eq.mpr c10
       have CD:((bt a0 (BZ)) != 93)=false:=bne_eq_false_iff_eq.mpr c10
       clear c10
       by_cases c11: 1≤(BZ)
       ·rw [if_pos c11] at H
        have zg:=eq_true c11
        have LH:decide (1≤(BZ))=true:=decide_eq_true c11
        clear c11
        by_cases c12:(BZ)≤(a0.size:Int)
        ·rw [if_pos c12] at H
         have wQ:=eq_true c12
         have CE:decide ((BZ)≤(a0.size:Int))=true:=decide_eq_true c12
         clear c12
         replace H:=Option.bind_eq_some_iff.mp H
         obtain ⟨t147,UT,H⟩:=H
         replace H:(some t147)=some r:=H
         have A13:=ah.mk UT
         clear UT
         obtain rfl:=Option.some.inj H
         have p4: 0≤(0:Int):=aq
         have q4: 0 < a0.size:=(by have:(0:Int) < (a0.size:Int):=of_decide_eq_true cL;omega)
         have hx4:∀ h: 0 < a0.size,((a0[0]'h).toNat:Int)=bt a0 0:=gI a0 0
         clear p4
         have qi4:(0 < (a0.size:Int))=True:=eq_true (of_decide_eq_true cL)
         replace q4:=eq_true q4
         have p9: 0≤((BZ):Int):=of_decide_eq_true cL
         have q9:(BZ) < (a0.size:Int):=of_decide_eq_true cL
         have hx9:=gI a0 (BZ)
         replace p9:=eq_true p9
         replace q9:=eq_true q9
         go_enter Tryz.func95,Tryz.ntmps95
         go_wp2_with (first|(go_at_call 27;(with_reducible refine (bW.calls k (a0.extract 1 ((BZ):Int).toNat) t147 _ ?aW A13.out).mono ?_);(case aW=>exact aQ.below HG.out cw);rintro e GK ⟨rfl,hb⟩;have bL:=ah.mk (aC cw hb);clear HB;have HB:=bL;clear bL;(try clear hb);(try clear hb2);(try clear hk);(try clear hi)))
         go_ret
         exact ⟨PV,cw⟩
        ·rw [if_neg c12] at H
         exact absurd H aV
       ·rw [if_neg c11] at H
        exact absurd H aV
      ·rw [if_neg c10] at H
       have qy:((bt a0 (BZ)) == 93)=false:=beq_eq_false_iff_ne.mpr c10
       have CD:((bt a0 (BZ)) != 93)=true:=bne_iff_ne.mpr c10
       obtain rfl:=Option.some.inj H
       have p4: 0≤(0:Int):=aq
       have q4: 0 < a0.size:=(by have:(0:Int) < (a0.size:Int):=of_decide_eq_true cL;omega)
       have hx4:∀ h: 0 < a0.size,((a0[0]'h).toNat:Int)=bt a0 0:=gI a0 0
       clear p4
       have qi4:(0 < (a0.size:Int))=True:=eq_true (of_decide_eq_true cL)
       replace q4:=eq_true q4
       have p9: 0≤((BZ):Int):=of_decide_eq_true cL
       have q9:(BZ) < (a0.size:Int):=of_decide_eq_true cL
       have hx9:=gI a0 (BZ)
       replace p9:=eq_true p9
       replace q9:=eq_true q9
       go_enter Tryz.func95,Tryz.ntmps95
       go_wp2
       go_ret
       exact ⟨PV,cw⟩
     ·rw [if_neg c8] at H
      exact absurd H aV
    ·rw [if_neg c7] at H
     exact absurd H aV
   ·rw [if_neg c5] at H
    have tR:((bt a0 0) == 91)=false:=beq_eq_false_iff_ne.mpr c5
    have UH:((bt a0 0) != 91)=true:=bne_iff_ne.mpr c5
    obtain rfl:=Option.some.inj H
    have p4: 0≤(0:Int):=aq
    have q4: 0 < a0.size:=(by have:(0:Int) < (a0.size:Int):=of_decide_eq_true cL;omega)
    have hx4:∀ h: 0 < a0.size,((a0[0]'h).toNat:Int)=bt a0 0:=gI a0 0
    clear p4
    have qi4:(0 < (a0.size:Int))=True:=eq_true (of_decide_eq_true cL)
    replace q4:=eq_true q4
    go_enter Tryz.func95,Tryz.ntmps95
    go_wp2
    go_ret
    exact ⟨cO,cw⟩
  ·rw [if_neg c3] at H
   exact absurd H aV
 ·rw [if_neg c2] at H
  have BR:decide (2 < (a0.size:Int))=false:=decide_eq_false c2
  have N9:decide (2 < a0.size)=false:=decide_eq_false aq
  clear c2
  obtain rfl:=Option.some.inj H
  go_enter Tryz.func95,Tryz.ntmps95
  go_wp2
  go_ret
  exact ⟨cO,cw⟩
def stringslite_HasPrefix.f (a0:ByteArray) (a1:ByteArray):Option (Bool):=if (a0.size:Int)≥(a1.size:Int) then (if 0≤(a1.size:Int) then (if (a1.size:Int)≤(a0.size:Int) then (some ((a0.extract 0 ((a1.size:Int):Int).toNat).toList == a1.toList)) else (none)) else (none)) else (some false)
theorem stringslite_HasPrefix.calls (a0:ByteArray) (a1:ByteArray) (r:Bool) (w:World) (h:stringslite_HasPrefix.f a0 a1=some r):
 Calls Tryz.prog 98 #[.string a0,.string a1] w fun e w'=>e= .returned (.bool r)∧jr w w':=by
 have H:(if (a0.size:Int)≥(a1.size:Int) then (if 0≤(a1.size:Int) then (if (a1.size:Int)≤(a0.size:Int) then (some ((a0.extract 0 ((a1.size:Int):Int).toNat).toList == a1.toList)) else (none)) else (none)) else (some false))=some r:=h
 clear h
 by_cases c3:(a0.size:Int)≥(a1.size:Int)
 ·rw [if_pos c3] at H
  have pW:decide ((a1.size:Int)≤(a0.size:Int))=true:=decide_eq_true c3
  have LN:decide (a1.size≤a0.size)=true:=decide_eq_true (Int.ofNat_le.mp c3)
  clear c3
  by_cases c4: 0≤(a1.size:Int)
  ·rw [if_pos c4] at H
   have oC:=eq_true c4
   have Ge:decide (0≤(a1.size:Int))=true:=decide_eq_true c4
   clear c4
   by_cases c5:(a1.size:Int)≤(a0.size:Int)
   ·rw [if_pos c5] at H
    have tR:=eq_true c5
    have UH:decide ((a1.size:Int)≤(a0.size:Int))=true:=decide_eq_true c5
    clear c5
    obtain rfl:=Option.some.inj H
    go_enter Tryz.func98,Tryz.ntmps98
    go_wp2
    go_ret
    exact ⟨dG,ke⟩
   ·rw [if_neg c5] at H
    exact absurd H aV
  ·rw [if_neg c4] at H
   exact absurd H aV
 ·rw [if_neg c3] at H
  have pW:decide ((a1.size:Int)≤(a0.size:Int))=false:=decide_eq_false c3
  have LN:decide (a1.size≤a0.size)=false:=decide_eq_false (fun h=>c3 (Int.ofNat_le.mpr h))
  clear c3
  obtain rfl:=Option.some.inj H
  go_enter Tryz.func98,Tryz.ntmps98
  go_wp2
  go_ret
  exact ⟨dG,ke⟩
def strings_HasPrefix.f (a0:ByteArray) (a1:ByteArray):Option (Bool):=(stringslite_HasPrefix.f a0 a1).bind fun t148=>(some t148)
theorem strings_HasPrefix.calls (a0:ByteArray) (a1:ByteArray) (r:Bool) (w:World) (h:strings_HasPrefix.f a0 a1=some r):
 Calls Tryz.prog 37 #[.string a0,.string a1] w fun e w'=>e= .returned (.bool r)∧jr w w':=by
 have H:((stringslite_HasPrefix.f a0 a1).bind fun t148=>(some t148))=some r:=h
 clear h
 replace H:=Option.bind_eq_some_iff.mp H
 obtain ⟨t148,zf,H⟩:=H
 replace H:(some t148)=some r:=H
 have A3:=ah.mk zf
 clear zf
 obtain rfl:=Option.some.inj H
 go_enter Tryz.func37,Tryz.ntmps37
 go_wp2_with (first|((with_reducible refine aU (f:=98) rfl ?_);refine cB (some 7) rfl rfl Tryz.func98 av rfl #[.string a0,.string a1] rfl cX ?_;(with_reducible refine (stringslite_HasPrefix.calls a0 a1 t148 _ A3.out).mono ?_);rintro e w' ⟨rfl,⟨nd,rfl⟩⟩;refine ⟨_,rfl,?_⟩))
 go_ret
 exact ⟨dG,ke⟩
end Go.Proofs.YtokpnfljjjjikaaGreatDoor.nK
