import Derived.Test.YtbjjaaodfbjkfaaGreatDoorQQux6
import Derived.Test.YtbjjaaodfbjkfaaGreatDoorELit
set_option maxHeartbeats 8000000
set_option maxRecDepth 100000
namespace Go.Proofs.YtbjjaaodfbjkfaaGreatDoor.ow
open Go.RowKit Go.Proofs.YtbjjaaodfbjkfaaGreatDoor.zi Go.Proofs.ak.bY Go.Proofs.ak.dU Go.Proofs.ak.dJ
attribute [local go_sem] jt ju kH kI iw iy jv jw
set_option linter.unusedVariables false
set_option linter.unusedSimpArgs false
def gS.f (k:Nat) (bu:ByteArray) (bX:ByteArray) (cK:Bool):Option (Bool):=if (bu.size:Int)≤64 then (if cK=true then (some true) else ((gK.f k bX).bind fun t169=>(some t169))) else (some false)
theorem gS.mono:∀ a0 a1 a2 k,fP (gS.f k a0 a1 a2) (gS.f (k + 1) a0 a1 a2):=by
 intro a0 a1 a2 k
 unfold gS.f
 repeat' (with_reducible first|exact gK.mono _ _|exact fP.refl _|refine fP.ite ?_ ?_|refine fP.bind ?_ (fun _ =>?_))
theorem gS.calls (k:Nat) (bu:ByteArray) (bX:ByteArray) (cK:Bool) (r:Bool) (w:World) (hG:bB w) (h:gS.f k bu bX cK=some r):
 Calls Tryz.prog 186 #[.agg #[.string bu,.string bX,.bool cK]] w fun e w'=>e= .returned (.bool r)∧Below w.heap.size w w':=by
 have LW:=Tryz.underlying29
 have HB:=ah.mk (Below.refl w.heap.size w)
 have HG:=ah.mk hG
 clear hG
 have H:(if (bu.size:Int)≤64 then (if cK=true then (some true) else ((gK.f k bX).bind fun t169=>(some t169))) else (some false))=some r:=h
 clear h
 by_cases c2:(bu.size:Int)≤64
 ·rw [if_pos c2] at H
  have BD:=decide_eq_true c2
  have Xc:decide (bu.size≤64)=true:=decide_eq_true aA
  clear c2
  by_cases c3:cK=true
  ·subst c3
   rw [if_pos rfl] at H
   obtain rfl:=Option.some.inj H
   go_enter Tryz.func186,Tryz.ntmps186
   go_wp2_with (((with_reducible refine bw (N:=1) rfl ?_);refine bA ?hg (N:=1) ?hd (cs:=#[.string bu,.string bX,.bool true]) (t:=29) ?hr ?_;(case hd=>rfl);(case hg=>rfl);(case hr=>(go_simp;done));intro qY hg w4 bH hb;have oH:=ah.mk (bH);have aeW:=ah.mk ((bG:w.heap.size≤qY));have aeX:=ah.mk ((bG:w.heap.size≤qY));replace HB:=ah.mk (av aI hb);clear hb bH hg;have Xl:w4.cell? ⟨qY,0,none⟩=some (.string bu):=(af oH.out 0).trans rfl;have Xm:w4.cell? ⟨qY,1,none⟩=some (.string bX):=(af oH.out 1).trans rfl;have agl:w4.cell? ⟨qY,2,none⟩=some (.bool true):=(af oH.out 2).trans rfl;have Xn:=aa oH.out 0;have Xo:=aa oH.out 1;have agm:=aa oH.out 2))
   go_ret
   exact ⟨by rfl,aI⟩
  ·replace c3:=Bool.eq_false_iff.mpr c3
   subst c3
   rw [if_neg (show ¬ (false=true) by decide)] at H
   obtain ⟨t169,A6,H⟩:=bd_ H
   obtain rfl:=Option.some.inj H
   go_enter Tryz.func186,Tryz.ntmps186
   go_wp2_with (first|((with_reducible refine bw (N:=1) rfl ?_);refine bA ?hg (N:=1) ?hd (cs:=#[.string bu,.string bX,.bool false]) (t:=29) ?hr ?_;(case hd=>rfl);(case hg=>rfl);(case hr=>(go_simp;done));intro qY hg w7 bH hb;have oH:=ah.mk (bH);have aeW:=ah.mk ((bG:w.heap.size≤qY));have aeX:=ah.mk ((bG:w.heap.size≤qY));replace HB:=ah.mk (av aI hb);clear hb bH hg;have ES:w7.cell? ⟨qY,0,none⟩=some (.string bu):=(af oH.out 0).trans rfl;have ET:w7.cell? ⟨qY,1,none⟩=some (.string bX):=(af oH.out 1).trans rfl;have W7:w7.cell? ⟨qY,2,none⟩=some (.bool false):=(af oH.out 2).trans rfl;have EU:=aa oH.out 0;have EW:=aa oH.out 1;have W8:=aa oH.out 2)|(go_at_call 94;(with_reducible refine (gK.calls k bX t169 _ ?bk A6.out).mono ?_);(case bk=>exact bB.below HG.out aI);rintro e w9 ⟨rfl,hb⟩;replace oH:=ah.mk (az (by exact oH.out) hb);replace HB:=ah.mk (av aI hb);(try clear hb)))
   go_ret
   exact ⟨by rfl,aI⟩
 ·rw [if_neg c2] at H
  have BD:=decide_eq_false c2
  have Xc:decide (bu.size≤64)=false:=decide_eq_false aA
  clear c2
  obtain rfl:=Option.some.inj H
  go_enter Tryz.func186,Tryz.ntmps186
  go_wp2_with (((with_reducible refine bw (N:=1) rfl ?_);refine bA ?hg (N:=1) ?hd (cs:=#[.string bu,.string bX,.bool cK]) (t:=29) ?hr ?_;(case hd=>rfl);(case hg=>rfl);(case hr=>(go_simp;done));intro qY hg qw bH hb;have oH:=ah.mk (bH);have aeW:=ah.mk ((bG:w.heap.size≤qY));have aeX:=ah.mk ((bG:w.heap.size≤qY));replace HB:=ah.mk (av aI hb);clear hb bH hg;have aag:qw.cell? ⟨qY,0,none⟩=some (.string bu):=(af oH.out 0).trans rfl;have aah:qw.cell? ⟨qY,1,none⟩=some (.string bX):=(af oH.out 1).trans rfl;have aai:qw.cell? ⟨qY,2,none⟩=some (.bool cK):=(af oH.out 2).trans rfl;have aaj:=aa oH.out 0;have aak:=aa oH.out 1;have aal:=aa oH.out 2))
  go_ret
  exact ⟨by rfl,aI⟩
def uA.f (a0:ByteArray):Option (Bool):=(strings_Cut.f a0 (⟨#[58,58]⟩:ByteArray)).bind fun E7=>((gB.f E7.1).bind fun t173=>((gB.f E7.2.1).bind fun t174=>(if E7.2.2=true then (if t173≥0 then (if t174≥0 then (some (decide ((wrap64 (t173 + t174))≤6))) else (some false)) else (some false)) else (some (t173 == 8)))))
theorem uA.calls (a0:ByteArray) (r:Bool) (w:World) (hG:bB w) (h:uA.f a0=some r):
 Calls Tryz.prog 214 #[.string a0] w fun e w'=>e= .returned (.bool r)∧Below w.heap.size w w':=by
 have HB:=ah.mk (Below.refl w.heap.size w)
 have HG:=ah.mk hG
 clear hG
 have H:((strings_Cut.f a0 (⟨#[58,58]⟩:ByteArray)).bind fun E7=>((gB.f E7.1).bind fun t173=>((gB.f E7.2.1).bind fun t174=>(if E7.2.2=true then (if t173≥0 then (if t174≥0 then (some (decide ((wrap64 (t173 + t174))≤6))) else (some false)) else (some false)) else (some (t173 == 8))))))=some r:=h
 clear h
 obtain ⟨⟨t170,t171,t172⟩,A2,H⟩:=bd_ H
 (try dsimp only at H)
 obtain ⟨t173,A3,H⟩:=bd_ H
 obtain ⟨t174,A4,H⟩:=bd_ H
 by_cases c5:t172=true
 ·subst c5
  rw [if_pos rfl] at H
  by_cases c6:t173≥0
  ·rw [if_pos c6] at H
   have xm:decide (0≤t173)=true:=decide_eq_true c6
   clear c6
   by_cases c7:t174≥0
   ·rw [if_pos c7] at H
    have E1:decide (0≤t174)=true:=decide_eq_true c7
    clear c7
    obtain rfl:=Option.some.inj H
    go_enter Tryz.func214,Tryz.ntmps214
    go_wp2_with (first|((with_reducible refine bE (f:=153) rfl ?_);refine dg (some 10) rfl rfl Tryz.func153 au rfl #[.string a0,.string (⟨#[58,58]⟩:ByteArray)] rfl dM ?_;(with_reducible refine (strings_Cut.calls a0 (⟨#[58,58]⟩:ByteArray) t170 t171 true _ ?bk A2.out).mono ?_);(case bk=>exact bB.below HG.out aI);rintro e w' ⟨rfl,⟨nd,rfl⟩⟩;refine ⟨_,rfl,?_⟩)|((with_reducible refine bE (f:=243) rfl ?_);refine dg (some 15) rfl rfl Tryz.func243 au rfl #[.string t170] rfl dM ?_;(with_reducible refine (gB.calls t170 t173 _ ?bk A3.out).mono ?_);(case bk=>exact bB.below HG.out eB);rintro e w8 ⟨rfl,hb⟩;refine ⟨_,rfl,?_⟩;replace HB:=ah.mk (av eB hb);(try clear hb))|((with_reducible refine bE (f:=243) rfl ?_);refine dg (some 17) rfl rfl Tryz.func243 au rfl #[.string t171] rfl dM ?_;(with_reducible refine (gB.calls t171 t174 _ ?bk A4.out).mono ?_);(case bk=>exact bB.below HG.out aI);rintro e w9 ⟨rfl,hb⟩;refine ⟨_,rfl,?_⟩;replace HB:=ah.mk (av aI hb);(try clear hb)))
    go_ret
    exact ⟨by rfl,aI⟩
   ·rw [if_neg c7] at H
    have E1:decide (0≤t174)=false:=decide_eq_false c7
    clear c7
    obtain rfl:=Option.some.inj H
    go_enter Tryz.func214,Tryz.ntmps214
    go_wp2_with (first|((with_reducible refine bE (f:=153) rfl ?_);refine dg (some 10) rfl rfl Tryz.func153 au rfl #[.string a0,.string (⟨#[58,58]⟩:ByteArray)] rfl dM ?_;(with_reducible refine (strings_Cut.calls a0 (⟨#[58,58]⟩:ByteArray) t170 t171 true _ ?bk A2.out).mono ?_);(case bk=>exact bB.below HG.out aI);rintro e w' ⟨rfl,⟨nd,rfl⟩⟩;refine ⟨_,rfl,?_⟩)|((with_reducible refine bE (f:=243) rfl ?_);refine dg (some 15) rfl rfl Tryz.func243 au rfl #[.string t170] rfl dM ?_;(with_reducible refine (gB.calls t170 t173 _ ?bk A3.out).mono ?_);(case bk=>exact bB.below HG.out eB);rintro e qw ⟨rfl,hb⟩;refine ⟨_,rfl,?_⟩;replace HB:=ah.mk (av eB hb);(try clear hb))|((with_reducible refine bE (f:=243) rfl ?_);refine dg (some 17) rfl rfl Tryz.func243 au rfl #[.string t171] rfl dM ?_;(with_reducible refine (gB.calls t171 t174 _ ?bk A4.out).mono ?_);(case bk=>exact bB.below HG.out aI);rintro e yj ⟨rfl,hb⟩;refine ⟨_,rfl,?_⟩;replace HB:=ah.mk (av aI hb);(try clear hb)))
    go_ret
    exact ⟨by rfl,aI⟩
  ·rw [if_neg c6] at H
   have xm:decide (0≤t173)=false:=decide_eq_false c6
   clear c6
   obtain rfl:=Option.some.inj H
   go_enter Tryz.func214,Tryz.ntmps214
   go_wp2_with (first|((with_reducible refine bE (f:=153) rfl ?_);refine dg (some 10) rfl rfl Tryz.func153 au rfl #[.string a0,.string (⟨#[58,58]⟩:ByteArray)] rfl dM ?_;(with_reducible refine (strings_Cut.calls a0 (⟨#[58,58]⟩:ByteArray) t170 t171 true _ ?bk A2.out).mono ?_);(case bk=>exact bB.below HG.out aI);rintro e w' ⟨rfl,⟨nd,rfl⟩⟩;refine ⟨_,rfl,?_⟩)|((with_reducible refine bE (f:=243) rfl ?_);refine dg (some 15) rfl rfl Tryz.func243 au rfl #[.string t170] rfl dM ?_;(with_reducible refine (gB.calls t170 t173 _ ?bk A3.out).mono ?_);(case bk=>exact bB.below HG.out eB);rintro e BJ ⟨rfl,hb⟩;refine ⟨_,rfl,?_⟩;replace HB:=ah.mk (av eB hb);(try clear hb))|((with_reducible refine bE (f:=243) rfl ?_);refine dg (some 17) rfl rfl Tryz.func243 au rfl #[.string t171] rfl dM ?_;(with_reducible refine (gB.calls t171 t174 _ ?bk A4.out).mono ?_);(case bk=>exact bB.below HG.out aI);rintro e ni ⟨rfl,hb⟩;refine ⟨_,rfl,?_⟩;replace HB:=ah.mk (av aI hb);(try clear hb)))
   go_ret
   exact ⟨by rfl,aI⟩
 ·replace c5:=Bool.eq_false_iff.mpr c5
  subst c5
  rw [if_neg (show ¬ (false=true) by decide)] at H
  obtain rfl:=Option.some.inj H
  go_enter Tryz.func214,Tryz.ntmps214
  go_wp2_with (first|((with_reducible refine bE (f:=153) rfl ?_);refine dg (some 10) rfl rfl Tryz.func153 au rfl #[.string a0,.string (⟨#[58,58]⟩:ByteArray)] rfl dM ?_;(with_reducible refine (strings_Cut.calls a0 (⟨#[58,58]⟩:ByteArray) t170 t171 false _ ?bk A2.out).mono ?_);(case bk=>exact bB.below HG.out aI);rintro e w' ⟨rfl,⟨nd,rfl⟩⟩;refine ⟨_,rfl,?_⟩)|((with_reducible refine bE (f:=243) rfl ?_);refine dg (some 15) rfl rfl Tryz.func243 au rfl #[.string t170] rfl dM ?_;(with_reducible refine (gB.calls t170 t173 _ ?bk A3.out).mono ?_);(case bk=>exact bB.below HG.out eB);rintro e Np ⟨rfl,hb⟩;refine ⟨_,rfl,?_⟩;replace HB:=ah.mk (av eB hb);(try clear hb))|((with_reducible refine bE (f:=243) rfl ?_);refine dg (some 17) rfl rfl Tryz.func243 au rfl #[.string t171] rfl dM ?_;(with_reducible refine (gB.calls t171 t174 _ ?bk A4.out).mono ?_);(case bk=>exact bB.below HG.out aI);rintro e wO ⟨rfl,hb⟩;refine ⟨_,rfl,?_⟩;replace HB:=ah.mk (av aI hb);(try clear hb)))
  go_ret
  exact ⟨by rfl,aI⟩
def aJ.l0:Nat→List ByteArray→Int→Int→Option (Int)
 | 0,_,_,_ =>none
 |k + 1,x0,x7,x8=>if x8 < x7 then (if 0≤x8 then (if x8 < (x0.length:Int) then ((iI.f (oQ ByteArray.empty x0 x8)).bind fun t176=>(if t176=true then (some x8) else (aJ.l0 k x0 x7 (wrap64 (x8 + 1))))) else (none)) else (none)) else (some (-1))
def aJ.f (k:Nat) (l0:List ByteArray):Option (Int):=aJ.l0 k l0 (l0.length:Int) 0
theorem aJ.eY:∀ k,(∀ y0 y1 y2,fP (aJ.l0 k y0 y1 y2) (aJ.l0 (k + 1) y0 y1 y2))
 | 0=>fun _ _ _ r h=>by simp [aJ.l0] at h
 |k + 1=>by
  have nY:=aJ.eY k
  ·intro y0 y1 y2
   unfold aJ.l0
   repeat' (with_reducible first|exact nY _ _ _|exact fP.refl _|refine fP.ite ?_ ?_|refine fP.bind ?_ (fun _ =>?_))
theorem aJ.mono:∀ a0 k,fP (aJ.f k a0) (aJ.f (k + 1) a0):=by
 intro a0 k
 have nY:=aJ.eY k
 unfold aJ.f
 repeat' (with_reducible exact nY _ _ _)
theorem aJ.calls (k:Nat) (A0:Option Addr) (c0:Nat) (l0:List ByteArray) (r:Int) (w:World) (nZ:Kd.C Kd.string w A0 l0.length l0) (hc0:l0.length≤c0) (hG:bB w) (h:aJ.f k l0=some r):
 Calls Tryz.prog 184 #[.slice A0 l0.length c0,.func (.func 215) #[] #[]] w fun e w'=>e= .returned (.int .i64 r)∧Below w.heap.size w w':=by
 have qN:=ah.mk nZ
 have Eg:=ah.mk hc0
 clear nZ hc0
 have HB:=ah.mk (Below.refl w.heap.size w)
 have HG:=ah.mk hG
 clear hG
 have H:(aJ.l0 k l0 (l0.length:Int) 0)=some r:=h
 clear h
 have H':=ah.mk H
 clear H
 go_enter Tryz.func184,Tryz.ntmps184
 go_wp2
 go_loopg [8] k (fun kq v8 w'=>∃ (gJ:Int),v8= .int .i64 gJ∧ah (aJ.l0 kq l0 (l0.length:Int) gJ=some r)∧ah (kq≤k)∧ah (Below w.heap.size w w'))
 case atStart=>exact ⟨(0),(by rfl),H',⟨Nat.le_refl _⟩,⟨aI⟩⟩
 case round=>
  clear H'
  obtain ⟨gJ,rfl,HA,oI,HB⟩:=hrel
  cases gk with
  |zero=>exact absurd HA.out (by simp [aJ.l0])
  |succ k1=>
   have H:=HA.out
   clear HA
   simp only [aJ.l0] at H
   by_cases c3:gJ < (l0.length:Int)
   ·rw [if_pos c3] at H
    have nT:=decide_eq_true c3
    clear c3
    obtain ⟨c4,H⟩:=lg H
    have ng:=decide_eq_true c4
    clear c4
    obtain ⟨c5,H⟩:=lg H
    have qu:=decide_eq_true c5
    clear c5
    obtain ⟨t176,A6,H⟩:=bd_ H
    by_cases c7:t176=true
    ·subst c7
     rw [if_pos rfl] at H
     obtain rfl:=Option.some.inj H
     have Ob: 0≤(gJ:Int):=of_decide_eq_true cL
     have Oc:gJ < (l0.length:Int):=of_decide_eq_true cL
     obtain ⟨ajt,agn,vI⟩:=Kd.kN qN.out gJ Ob Oc
     cases agn
     replace vI:=(HB.out.cell (World.block_lt_of_cell? w _ vI)).trans vI
     replace Ob:=eq_true Ob
     replace Oc:=eq_true Oc
     go_wp2_with ((go_at_call 215;(with_reducible refine (iI.calls (oQ ByteArray.empty l0 gJ) true _ ?bk A6.out).mono ?_);(case bk=>exact bB.below HG.out aI);rintro e w8 ⟨rfl,hb⟩;replace HB:=ah.mk (av aI hb);(try clear hb)))
     go_ret
     exact ⟨by rfl,aI⟩
    ·replace c7:=Bool.eq_false_iff.mpr c7
     subst c7
     rw [if_neg (show ¬ (false=true) by decide)] at H
     have H':=ah.mk H
     clear H
     have Ob: 0≤(gJ:Int):=of_decide_eq_true cL
     have Oc:gJ < (l0.length:Int):=of_decide_eq_true cL
     obtain ⟨ajt,agn,vI⟩:=Kd.kN qN.out gJ Ob Oc
     cases agn
     replace vI:=(HB.out.cell (World.block_lt_of_cell? w _ vI)).trans vI
     replace Ob:=eq_true Ob
     replace Oc:=eq_true Oc
     go_wp2_with ((go_at_call 215;(with_reducible refine (iI.calls (oQ ByteArray.empty l0 gJ) false _ ?bk A6.out).mono ?_);(case bk=>exact bB.below HG.out aI);rintro e w9 ⟨rfl,hb⟩;replace HB:=ah.mk (av aI hb);(try clear hb)))
     go_roundg k1
     case measure=>have:=oI.out;omega
     case rel=>exact ⟨(wrap64 (gJ + 1)),(by rfl),H',⟨lS⟩,⟨aI⟩⟩
   ·rw [if_neg c3] at H
    have nT:=decide_eq_false c3
    clear c3
    obtain rfl:=Option.some.inj H
    go_wp2
    go_ret
    exact ⟨by rfl,aI⟩
def bR.f (k:Nat) (l0:List ByteArray):Option (Bool):=(aJ.f k l0).bind fun t177=>(some (decide (t177≥0)))
theorem bR.mono:∀ a0 k,fP (bR.f k a0) (bR.f (k + 1) a0):=by
 intro a0 k
 unfold bR.f
 repeat' (with_reducible first|exact aJ.mono _ _|exact fP.refl _|refine fP.bind ?_ (fun _ =>?_))
theorem bR.calls (k:Nat) (A0:Option Addr) (c0:Nat) (l0:List ByteArray) (r:Bool) (w:World) (nZ:Kd.C Kd.string w A0 l0.length l0) (hc0:l0.length≤c0) (hG:bB w) (h:bR.f k l0=some r):
 Calls Tryz.prog 140 #[.slice A0 l0.length c0,.func (.func 215) #[] #[]] w fun e w'=>e= .returned (.bool r)∧Below w.heap.size w w':=by
 have qN:=ah.mk nZ
 have Eg:=ah.mk hc0
 clear nZ hc0
 have HB:=ah.mk (Below.refl w.heap.size w)
 have HG:=ah.mk hG
 clear hG
 have H:((aJ.f k l0).bind fun t177=>(some (decide (t177≥0))))=some r:=h
 clear h
 obtain ⟨t177,A3,H⟩:=bd_ H
 obtain rfl:=Option.some.inj H
 go_enter Tryz.func140,Tryz.ntmps140
 go_wp2_with (((with_reducible refine bE (f:=184) rfl ?_);refine dg (some 7) rfl rfl Tryz.func184 au rfl #[.slice A0 l0.length c0,.func (.func 215) #[] #[]] rfl dM ?_;(with_reducible refine (aJ.calls k _ _ l0 t177 _ ?bk ?bI ?cO A3.out).mono ?_);(case bk=>repeat (exact qN.out));(case bI=>exact Eg.out);(case cO=>exact bB.below HG.out aI);rintro e w4 ⟨rfl,hb⟩;refine ⟨_,rfl,?_⟩;replace HB:=ah.mk (av aI hb);(try clear hb)))
 go_ret
 exact ⟨by rfl,aI⟩
def dH.j0:Nat→ByteArray→Bool→Option (Bool)
 | 0,_,_ =>none
 |k + 1,x0,wQ=>if wQ=true then (if 5≤(x0.size:Int) then ((uA.f (x0.extract 5 x0.size)).bind fun t179=>(some t179)) else (none)) else ((strings_Split.f x0 (⟨#[46]⟩:ByteArray)).bind fun t180=>(if (t180.length:Int)=4 then ((bR.f k t180).bind fun t183=>(some (!t183))) else (some false)))
def dH.f (k:Nat) (a0:ByteArray):Option (Bool):=if (a0.size:Int) > 5 then (if 0≤5 then (if 5≤(a0.size:Int) then ((fM.f (a0.extract 0 5)).bind fun t178=>(dH.j0 k a0 (t178.toList == ([105,112,118,54,58]:List UInt8)))) else (none)) else (none)) else (dH.j0 k a0 false)
theorem dH.eY:∀ k,(∀ y0 y1,fP (dH.j0 k y0 y1) (dH.j0 (k + 1) y0 y1))
 | 0=>fun _ _ r h=>by simp [dH.j0] at h
 |k + 1=>by
  have nY:=dH.eY k
  ·intro y0 y1
   unfold dH.j0
   repeat' (with_reducible first|exact bR.mono _ _|exact fP.refl _|refine fP.ite ?_ ?_|refine fP.bind ?_ (fun _ =>?_))
theorem dH.mono:∀ a0 k,fP (dH.f k a0) (dH.f (k + 1) a0):=by
 intro a0 k
 have nY:=dH.eY k
 unfold dH.f
 repeat' (with_reducible first|exact nY _ _|exact fP.refl _|refine fP.ite ?_ ?_|refine fP.bind ?_ (fun _ =>?_))
theorem dH.calls (k:Nat) (a0:ByteArray) (r:Bool) (w:World) (hG:bB w) (h:dH.f k a0=some r):
 Calls Tryz.prog 187 #[.string a0] w fun e w'=>e= .returned (.bool r)∧Below w.heap.size w w':=by
 have HB:=ah.mk (Below.refl w.heap.size w)
 have HG:=ah.mk hG
 clear hG
 have H:(if (a0.size:Int) > 5 then (if 0≤5 then (if 5≤(a0.size:Int) then ((fM.f (a0.extract 0 5)).bind fun t178=>(dH.j0 k a0 (t178.toList == ([105,112,118,54,58]:List UInt8)))) else (none)) else (none)) else (dH.j0 k a0 false))=some r:=h
 clear h
 have HC2:=ah.mk H
 clear H
 go_enter Tryz.func187,Tryz.ntmps187
 go_upto_region 1 with (fail)
 go_cut [12] (fun v12 wc=>∃ (kq:Nat) (b7:Bool),v12= .bool b7∧ah (dH.j0 kq a0 b7=some r)∧ah (kq≤k)∧ah (Below w.heap.size w wc))
 case first=>
  have H:=HC2.out
  clear HC2
  by_cases c3:(a0.size:Int) > 5
  ·rw [if_pos c3] at H
   have nT:decide (5 < (a0.size:Int))=true:=decide_eq_true c3
   have tZ:decide (5 < a0.size)=true:=decide_eq_true aA
   clear c3
   obtain ⟨c4,H⟩:=lg H
   have ng:=eq_true c4
   have BC:=decide_eq_true c4
   clear c4
   obtain ⟨c5,H⟩:=lg H
   have qu:=eq_true c5
   have N6:=decide_eq_true c5
   clear c5
   obtain ⟨t178,A6,H⟩:=bd_ H
   have H':=ah.mk H
   clear H
   go_wp2_with ((go_at_call 139;(with_reducible refine (fM.calls (a0.extract 0 5) t178 _ A6.out).mono ?_);rintro e w7 ⟨rfl,hb⟩;replace HB:=ah.mk (av aI hb);(try clear hb)))
   go_meet
   case rel=>exact ⟨_,((t178.toList == ([105,112,118,54,58]:List UInt8))),(by rfl),H',⟨aA⟩,⟨aI⟩⟩
  ·rw [if_neg c3] at H
   have nT:decide (5 < (a0.size:Int))=false:=decide_eq_false c3
   have tZ:decide (5 < a0.size)=false:=decide_eq_false aA
   clear c3
   have H':=ah.mk H
   clear H
   go_wp2
   go_meet
   case rel=>exact ⟨_,(false),(by rfl),H',⟨aA⟩,⟨aI⟩⟩
 case rest=>
  clear HC2
  obtain ⟨kq,b7,rfl,HA,HJ1,HB⟩:=hcut
  cases kq with
  |zero=>exact absurd HA.out (by simp [dH.j0])
  |succ kj1=>
   have H:=HA.out
   clear HA
   simp only [dH.j0] at H
   by_cases c8:b7=true
   ·subst c8
    rw [if_pos rfl] at H
    obtain ⟨c9,H⟩:=lg H
    have af9:=eq_true c9
    have aJC:=decide_eq_true c9
    clear c9
    obtain ⟨t179,UO,H⟩:=bd_ H
    obtain rfl:=Option.some.inj H
    go_wp2_with (((with_reducible refine bE (f:=214) rfl ?_);refine dg (some 15) rfl rfl Tryz.func214 au rfl #[.string (a0.extract 5 a0.size)] rfl dM ?_;(with_reducible refine (uA.calls (a0.extract 5 a0.size) t179 _ ?bk UO.out).mono ?_);(case bk=>exact bB.below HG.out aI);rintro e yj ⟨rfl,hb⟩;refine ⟨_,rfl,?_⟩;replace HB:=ah.mk (av aI hb);(try clear hb)))
    go_ret
    exact ⟨by rfl,aI⟩
   ·replace c8:=Bool.eq_false_iff.mpr c8
    subst c8
    rw [if_neg (show ¬ (false=true) by decide)] at H
    obtain ⟨t180,A12,H⟩:=bd_ H
    by_cases c13:(t180.length:Int)=4
    ·rw [if_pos c13] at H
     have E8:=beq_iff_eq.mpr c13
     have Mn:=bne_eq_false_iff_eq.mpr c13
     clear c13
     obtain ⟨t183,A14,H⟩:=bd_ H
     obtain rfl:=Option.some.inj H
     go_wp2_with (first|((with_reducible refine bE (f:=141) rfl ?_);refine dg (some 17) rfl rfl Tryz.func141 au rfl #[.string a0,.string (⟨#[46]⟩:ByteArray)] rfl dM ?_;(with_reducible refine (strings_Split.calls a0 (⟨#[46]⟩:ByteArray) t180 _ ?bk A12.out).mono ?_);(case bk=>exact bB.below HG.out aI);rintro e wO ⟨aCS,rfl,ho0,hb⟩;refine ⟨_,rfl,?_⟩;have E9:=ah.mk (Kd.dY ho0 (bV aI));replace HB:=ah.mk (av aI hb);(try clear hb);(try clear ho0);obtain ⟨N2,N3,Xa⟩:=Kd.dF E9.out;subst Xa)|(go_at_call 140;(with_reducible refine (bR.calls kj1 _ _ t180 t183 _ ?bk ?bI ?cO A14.out).mono ?_);(case bk=>repeat (exact (Kd.bW E9.out).2.2));(case bI=>exact (Kd.bW E9.out).2.1);(case cO=>exact bB.below HG.out aI);rintro e ud ⟨rfl,hb⟩;replace E9:=ah.mk (Kd.bq (by exact E9.out) hb);replace HB:=ah.mk (av aI hb);(try clear hb)))
     go_ret
     exact ⟨by rfl,aI⟩
    ·rw [if_neg c13] at H
     have E8:=beq_eq_false_iff_ne.mpr c13
     have Mn:=bne_iff_ne.mpr c13
     obtain rfl:=Option.some.inj H
     go_wp2_with (((with_reducible refine bE (f:=141) rfl ?_);refine dg (some 17) rfl rfl Tryz.func141 au rfl #[.string a0,.string (⟨#[46]⟩:ByteArray)] rfl dM ?_;(with_reducible refine (strings_Split.calls a0 (⟨#[46]⟩:ByteArray) t180 _ ?bk A12.out).mono ?_);(case bk=>exact bB.below HG.out aI);rintro e sK ⟨aCS,rfl,ho0,hb⟩;refine ⟨_,rfl,?_⟩;have E9:=ah.mk (Kd.dY ho0 (bV aI));replace HB:=ah.mk (av aI hb);(try clear hb);(try clear ho0);obtain ⟨aJD,aJE,aCT⟩:=Kd.dF E9.out;subst aCT))
     go_ret
     exact ⟨by rfl,aI⟩
end Go.Proofs.YtbjjaaodfbjkfaaGreatDoor.ow
