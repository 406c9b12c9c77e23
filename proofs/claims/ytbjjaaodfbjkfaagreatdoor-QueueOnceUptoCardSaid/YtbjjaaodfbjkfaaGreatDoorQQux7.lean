import Derived.Test.YtbjjaaodfbjkfaaGreatDoorQQux6
import Derived.Test.YtbjjaaodfbjkfaaGreatDoorELit
set_option maxHeartbeats 8000000
set_option maxRecDepth 100000
namespace Go.Proofs.YtbjjaaodfbjkfaaGreatDoor.mU
open Go.RowKit Go.Proofs.YtbjjaaodfbjkfaaGreatDoor.yN Go.Proofs.ak.bR Go.Proofs.ak.dz Go.Proofs.ak.cZ
attribute [local go_sem] iR iT jW jX gW gX jh ji
set_option linter.unusedVariables false
set_option linter.unusedSimpArgs false
def gv.f (k:Nat) (bg:ByteArray) (bP:ByteArray) (cE:Bool):Option (Bool):=if (bg.size:Int)≤64 then (if cE=true then (some true) else ((fZ.f k bP).bind fun t169=>(some t169))) else (some false)
theorem gv.mono:∀ a0 a1 a2 k,eZ (gv.f k a0 a1 a2) (gv.f (k + 1) a0 a1 a2):=by
 intro a0 a1 a2 k
 unfold gv.f
 repeat' (with_reducible first|exact fZ.mono _ _|exact eZ.refl _|refine eZ.ite ?_ ?_|refine eZ.bind ?_ (fun _ =>?_))
theorem gv.calls (k:Nat) (bg:ByteArray) (bP:ByteArray) (cE:Bool) (r:Bool) (w:World) (hG:bq w) (h:gv.f k bg bP cE=some r):
 Calls Tryz.prog 186 #[.agg #[.string bg,.string bP,.bool cE]] w fun e w'=>e= .returned (.bool r)∧Below w.heap.size w w':=by
 have KD:=Tryz.underlying29
 have HB:=ah.mk (Below.refl w.heap.size w)
 have HG:=ah.mk hG
 clear hG
 have H:(if (bg.size:Int)≤64 then (if cE=true then (some true) else ((fZ.f k bP).bind fun t169=>(some t169))) else (some false))=some r:=h
 clear h
 by_cases c2:(bg.size:Int)≤64
 ·rw [if_pos c2] at H
  have Aw:=decide_eq_true c2
  have TK:decide (bg.size≤64)=true:=decide_eq_true az
  clear c2
  by_cases c3:cE=true
  ·subst c3
   rw [if_pos rfl] at H
   obtain rfl:=Option.some.inj H
   go_enter Tryz.func186,Tryz.ntmps186
   go_wp2_with (((with_reducible refine bp (N:=1) rfl ?_);refine br ?hg (N:=1) ?hd (cs:=#[.string bg,.string bP,.bool true]) (t:=29) ?hr ?_;(case hd=>rfl);(case hg=>rfl);(case hr=>(go_simp;done));intro qb hg w4 bG hb;have mZ:=ah.mk (bG);have abl:=ah.mk ((bF:w.heap.size≤qb));have abm:=ah.mk ((bF:w.heap.size≤qb));replace HB:=ah.mk (ay aJ hb);clear hb bG hg;have TZ:w4.cell? ⟨qb,0,none⟩=some (.string bg):=(af mZ.out 0).trans rfl;have T4:w4.cell? ⟨qb,1,none⟩=some (.string bP):=(af mZ.out 1).trans rfl;have acO:w4.cell? ⟨qb,2,none⟩=some (.bool true):=(af mZ.out 2).trans rfl;have T6:=aa mZ.out 0;have T7:=aa mZ.out 1;have acP:=aa mZ.out 2))
   go_ret
   exact ⟨by rfl,aJ⟩
  ·replace c3:=Bool.eq_false_iff.mpr c3
   subst c3
   rw [if_neg (show ¬ (false=true) by decide)] at H
   obtain ⟨t169,A6,H⟩:=bd_ H
   obtain rfl:=Option.some.inj H
   go_enter Tryz.func186,Tryz.ntmps186
   go_wp2_with (first|((with_reducible refine bp (N:=1) rfl ?_);refine br ?hg (N:=1) ?hd (cs:=#[.string bg,.string bP,.bool false]) (t:=29) ?hr ?_;(case hd=>rfl);(case hg=>rfl);(case hr=>(go_simp;done));intro qb hg w7 bG hb;have mZ:=ah.mk (bG);have abl:=ah.mk ((bF:w.heap.size≤qb));have abm:=ah.mk ((bF:w.heap.size≤qb));replace HB:=ah.mk (ay aJ hb);clear hb bG hg;have DV:w7.cell? ⟨qb,0,none⟩=some (.string bg):=(af mZ.out 0).trans rfl;have DW:w7.cell? ⟨qb,1,none⟩=some (.string bP):=(af mZ.out 1).trans rfl;have Ua:w7.cell? ⟨qb,2,none⟩=some (.bool false):=(af mZ.out 2).trans rfl;have DX:=aa mZ.out 0;have DY:=aa mZ.out 1;have Ub:=aa mZ.out 2)|(go_at_call 94;(with_reducible refine (fZ.calls k bP t169 _ ?bn A6.out).mono ?_);(case bn=>exact bq.below HG.out aJ);rintro e w9 ⟨rfl,hb⟩;replace mZ:=ah.mk (aA (by exact mZ.out) hb);replace HB:=ah.mk (ay aJ hb);(try clear hb)))
   go_ret
   exact ⟨by rfl,aJ⟩
 ·rw [if_neg c2] at H
  have Aw:=decide_eq_false c2
  have TK:decide (bg.size≤64)=false:=decide_eq_false az
  clear c2
  obtain rfl:=Option.some.inj H
  go_enter Tryz.func186,Tryz.ntmps186
  go_wp2_with (((with_reducible refine bp (N:=1) rfl ?_);refine br ?hg (N:=1) ?hd (cs:=#[.string bg,.string bP,.bool cE]) (t:=29) ?hr ?_;(case hd=>rfl);(case hg=>rfl);(case hr=>(go_simp;done));intro qb hg pF bG hb;have mZ:=ah.mk (bG);have abl:=ah.mk ((bF:w.heap.size≤qb));have abm:=ah.mk ((bF:w.heap.size≤qb));replace HB:=ah.mk (ay aJ hb);clear hb bG hg;have We:pF.cell? ⟨qb,0,none⟩=some (.string bg):=(af mZ.out 0).trans rfl;have Wf:pF.cell? ⟨qb,1,none⟩=some (.string bP):=(af mZ.out 1).trans rfl;have Wh:pF.cell? ⟨qb,2,none⟩=some (.bool cE):=(af mZ.out 2).trans rfl;have Wi:=aa mZ.out 0;have Wj:=aa mZ.out 1;have Wk:=aa mZ.out 2))
  go_ret
  exact ⟨by rfl,aJ⟩
def tA.f (a0:ByteArray):Option (Bool):=(strings_Cut.f a0 (⟨#[58,58]⟩:ByteArray)).bind fun D7=>((fO.f D7.1).bind fun t173=>((fO.f D7.2.1).bind fun t174=>(if D7.2.2=true then (if t173≥0 then (if t174≥0 then (some (decide ((wrap64 (t173 + t174))≤6))) else (some false)) else (some false)) else (some (t173 == 8)))))
theorem tA.calls (a0:ByteArray) (r:Bool) (w:World) (hG:bq w) (h:tA.f a0=some r):
 Calls Tryz.prog 214 #[.string a0] w fun e w'=>e= .returned (.bool r)∧Below w.heap.size w w':=by
 have HB:=ah.mk (Below.refl w.heap.size w)
 have HG:=ah.mk hG
 clear hG
 have H:((strings_Cut.f a0 (⟨#[58,58]⟩:ByteArray)).bind fun D7=>((fO.f D7.1).bind fun t173=>((fO.f D7.2.1).bind fun t174=>(if D7.2.2=true then (if t173≥0 then (if t174≥0 then (some (decide ((wrap64 (t173 + t174))≤6))) else (some false)) else (some false)) else (some (t173 == 8))))))=some r:=h
 clear h
 obtain ⟨⟨t170,t171,t172⟩,A2,H⟩:=bd_ H
 (try dsimp only at H)
 obtain ⟨t173,A3,H⟩:=bd_ H
 obtain ⟨t174,A4,H⟩:=bd_ H
 by_cases c5:t172=true
 ·subst c5
  rw [if_pos rfl] at H
  by_cases c6:t173≥0
  ·rw [if_pos c6] at H
   have zH:decide (0≤t173)=true:=decide_eq_true c6
   clear c6
   by_cases c7:t174≥0
   ·rw [if_pos c7] at H
    have E3:decide (0≤t174)=true:=decide_eq_true c7
    clear c7
    obtain rfl:=Option.some.inj H
    go_enter Tryz.func214,Tryz.ntmps214
    go_wp2_with (first|((with_reducible refine bK (f:=153) rfl ?_);refine dB (some 10) rfl rfl Tryz.func153 aq rfl #[.string a0,.string (⟨#[58,58]⟩:ByteArray)] rfl dK ?_;(with_reducible refine (strings_Cut.calls a0 (⟨#[58,58]⟩:ByteArray) t170 t171 true _ ?bn A2.out).mono ?_);(case bn=>exact bq.below HG.out aJ);rintro e w' ⟨rfl,⟨nd,rfl⟩⟩;refine ⟨_,rfl,?_⟩)|((with_reducible refine bK (f:=243) rfl ?_);refine dB (some 15) rfl rfl Tryz.func243 aq rfl #[.string t170] rfl dK ?_;(with_reducible refine (fO.calls t170 t173 _ ?bn A3.out).mono ?_);(case bn=>exact bq.below HG.out dZ);rintro e w8 ⟨rfl,hb⟩;refine ⟨_,rfl,?_⟩;replace HB:=ah.mk (ay dZ hb);(try clear hb))|((with_reducible refine bK (f:=243) rfl ?_);refine dB (some 17) rfl rfl Tryz.func243 aq rfl #[.string t171] rfl dK ?_;(with_reducible refine (fO.calls t171 t174 _ ?bn A4.out).mono ?_);(case bn=>exact bq.below HG.out aJ);rintro e w9 ⟨rfl,hb⟩;refine ⟨_,rfl,?_⟩;replace HB:=ah.mk (ay aJ hb);(try clear hb)))
    go_ret
    exact ⟨by rfl,aJ⟩
   ·rw [if_neg c7] at H
    have E3:decide (0≤t174)=false:=decide_eq_false c7
    clear c7
    obtain rfl:=Option.some.inj H
    go_enter Tryz.func214,Tryz.ntmps214
    go_wp2_with (first|((with_reducible refine bK (f:=153) rfl ?_);refine dB (some 10) rfl rfl Tryz.func153 aq rfl #[.string a0,.string (⟨#[58,58]⟩:ByteArray)] rfl dK ?_;(with_reducible refine (strings_Cut.calls a0 (⟨#[58,58]⟩:ByteArray) t170 t171 true _ ?bn A2.out).mono ?_);(case bn=>exact bq.below HG.out aJ);rintro e w' ⟨rfl,⟨nd,rfl⟩⟩;refine ⟨_,rfl,?_⟩)|((with_reducible refine bK (f:=243) rfl ?_);refine dB (some 15) rfl rfl Tryz.func243 aq rfl #[.string t170] rfl dK ?_;(with_reducible refine (fO.calls t170 t173 _ ?bn A3.out).mono ?_);(case bn=>exact bq.below HG.out dZ);rintro e pF ⟨rfl,hb⟩;refine ⟨_,rfl,?_⟩;replace HB:=ah.mk (ay dZ hb);(try clear hb))|((with_reducible refine bK (f:=243) rfl ?_);refine dB (some 17) rfl rfl Tryz.func243 aq rfl #[.string t171] rfl dK ?_;(with_reducible refine (fO.calls t171 t174 _ ?bn A4.out).mono ?_);(case bn=>exact bq.below HG.out aJ);rintro e xq ⟨rfl,hb⟩;refine ⟨_,rfl,?_⟩;replace HB:=ah.mk (ay aJ hb);(try clear hb)))
    go_ret
    exact ⟨by rfl,aJ⟩
  ·rw [if_neg c6] at H
   have zH:decide (0≤t173)=false:=decide_eq_false c6
   clear c6
   obtain rfl:=Option.some.inj H
   go_enter Tryz.func214,Tryz.ntmps214
   go_wp2_with (first|((with_reducible refine bK (f:=153) rfl ?_);refine dB (some 10) rfl rfl Tryz.func153 aq rfl #[.string a0,.string (⟨#[58,58]⟩:ByteArray)] rfl dK ?_;(with_reducible refine (strings_Cut.calls a0 (⟨#[58,58]⟩:ByteArray) t170 t171 true _ ?bn A2.out).mono ?_);(case bn=>exact bq.below HG.out aJ);rintro e w' ⟨rfl,⟨nd,rfl⟩⟩;refine ⟨_,rfl,?_⟩)|((with_reducible refine bK (f:=243) rfl ?_);refine dB (some 15) rfl rfl Tryz.func243 aq rfl #[.string t170] rfl dK ?_;(with_reducible refine (fO.calls t170 t173 _ ?bn A3.out).mono ?_);(case bn=>exact bq.below HG.out dZ);rintro e D3 ⟨rfl,hb⟩;refine ⟨_,rfl,?_⟩;replace HB:=ah.mk (ay dZ hb);(try clear hb))|((with_reducible refine bK (f:=243) rfl ?_);refine dB (some 17) rfl rfl Tryz.func243 aq rfl #[.string t171] rfl dK ?_;(with_reducible refine (fO.calls t171 t174 _ ?bn A4.out).mono ?_);(case bn=>exact bq.below HG.out aJ);rintro e kI ⟨rfl,hb⟩;refine ⟨_,rfl,?_⟩;replace HB:=ah.mk (ay aJ hb);(try clear hb)))
   go_ret
   exact ⟨by rfl,aJ⟩
 ·replace c5:=Bool.eq_false_iff.mpr c5
  subst c5
  rw [if_neg (show ¬ (false=true) by decide)] at H
  obtain rfl:=Option.some.inj H
  go_enter Tryz.func214,Tryz.ntmps214
  go_wp2_with (first|((with_reducible refine bK (f:=153) rfl ?_);refine dB (some 10) rfl rfl Tryz.func153 aq rfl #[.string a0,.string (⟨#[58,58]⟩:ByteArray)] rfl dK ?_;(with_reducible refine (strings_Cut.calls a0 (⟨#[58,58]⟩:ByteArray) t170 t171 false _ ?bn A2.out).mono ?_);(case bn=>exact bq.below HG.out aJ);rintro e w' ⟨rfl,⟨nd,rfl⟩⟩;refine ⟨_,rfl,?_⟩)|((with_reducible refine bK (f:=243) rfl ?_);refine dB (some 15) rfl rfl Tryz.func243 aq rfl #[.string t170] rfl dK ?_;(with_reducible refine (fO.calls t170 t173 _ ?bn A3.out).mono ?_);(case bn=>exact bq.below HG.out dZ);rintro e LS ⟨rfl,hb⟩;refine ⟨_,rfl,?_⟩;replace HB:=ah.mk (ay dZ hb);(try clear hb))|((with_reducible refine bK (f:=243) rfl ?_);refine dB (some 17) rfl rfl Tryz.func243 aq rfl #[.string t171] rfl dK ?_;(with_reducible refine (fO.calls t171 t174 _ ?bn A4.out).mono ?_);(case bn=>exact bq.below HG.out aJ);rintro e vF ⟨rfl,hb⟩;refine ⟨_,rfl,?_⟩;replace HB:=ah.mk (ay aJ hb);(try clear hb)))
  go_ret
  exact ⟨by rfl,aJ⟩
def aH.l0:Nat→List ByteArray→Int→Int→Option (Int)
 | 0,_,_,_ =>none
 |k + 1,x0,x7,x8=>if x8 < x7 then (if 0≤x8 then (if x8 < (x0.length:Int) then ((gY.f (nu ByteArray.empty x0 x8)).bind fun t176=>(if t176=true then (some x8) else (aH.l0 k x0 x7 (wrap64 (x8 + 1))))) else (none)) else (none)) else (some (-1))
def aH.f (k:Nat) (l0:List ByteArray):Option (Int):=aH.l0 k l0 (l0.length:Int) 0
theorem aH.ey:∀ k,(∀ y0 y1 y2,eZ (aH.l0 k y0 y1 y2) (aH.l0 (k + 1) y0 y1 y2))
 | 0=>fun _ _ _ r h=>by simp [aH.l0] at h
 |k + 1=>by
  have mH:=aH.ey k
  ·intro y0 y1 y2
   unfold aH.l0
   repeat' (with_reducible first|exact mH _ _ _|exact eZ.refl _|refine eZ.ite ?_ ?_|refine eZ.bind ?_ (fun _ =>?_))
theorem aH.mono:∀ a0 k,eZ (aH.f k a0) (aH.f (k + 1) a0):=by
 intro a0 k
 have mH:=aH.ey k
 unfold aH.f
 repeat' (with_reducible exact mH _ _ _)
theorem aH.calls (k:Nat) (A0:Option Addr) (c0:Nat) (l0:List ByteArray) (r:Int) (w:World) (nK:Kd.C Kd.string w A0 l0.length l0) (hc0:l0.length≤c0) (hG:bq w) (h:aH.f k l0=some r):
 Calls Tryz.prog 184 #[.slice A0 l0.length c0,.func (.func 215) #[] #[]] w fun e w'=>e= .returned (.int .i64 r)∧Below w.heap.size w w':=by
 have q9:=ah.mk nK
 have Fy:=ah.mk hc0
 clear nK hc0
 have HB:=ah.mk (Below.refl w.heap.size w)
 have HG:=ah.mk hG
 clear hG
 have H:(aH.l0 k l0 (l0.length:Int) 0)=some r:=h
 clear h
 have H':=ah.mk H
 clear H
 go_enter Tryz.func184,Tryz.ntmps184
 go_wp2
 go_loopg [8] k (fun kq v8 w'=>∃ (fY:Int),v8= .int .i64 fY∧ah (aH.l0 kq l0 (l0.length:Int) fY=some r)∧ah (kq≤k)∧ah (Below w.heap.size w w'))
 case atStart=>exact ⟨(0),(by rfl),H',⟨Nat.le_refl _⟩,⟨aJ⟩⟩
 case round=>
  clear H'
  obtain ⟨fY,rfl,HA,qi,HB⟩:=hrel
  cases gk with
  |zero=>exact absurd HA.out (by simp [aH.l0])
  |succ k1=>
   have H:=HA.out
   clear HA
   simp only [aH.l0] at H
   by_cases c3:fY < (l0.length:Int)
   ·rw [if_pos c3] at H
    have ny:=decide_eq_true c3
    clear c3
    obtain ⟨c4,H⟩:=lO H
    have mQ:=decide_eq_true c4
    clear c4
    obtain ⟨c5,H⟩:=lO H
    have p8:=decide_eq_true c5
    clear c5
    obtain ⟨t176,A6,H⟩:=bd_ H
    by_cases c7:t176=true
    ·subst c7
     rw [if_pos rfl] at H
     obtain rfl:=Option.some.inj H
     have Mw: 0≤(fY:Int):=of_decide_eq_true cj
     have Mx:fY < (l0.length:Int):=of_decide_eq_true cj
     obtain ⟨afB,acQ,uo⟩:=Kd.j5 q9.out fY Mw Mx
     cases acQ
     replace uo:=(HB.out.cell (World.block_lt_of_cell? w _ uo)).trans uo
     replace Mw:=eq_true Mw
     replace Mx:=eq_true Mx
     go_wp2_with ((go_at_call 215;(with_reducible refine (gY.calls (nu ByteArray.empty l0 fY) true _ ?bn A6.out).mono ?_);(case bn=>exact bq.below HG.out aJ);rintro e w8 ⟨rfl,hb⟩;replace HB:=ah.mk (ay aJ hb);(try clear hb)))
     go_ret
     exact ⟨by rfl,aJ⟩
    ·replace c7:=Bool.eq_false_iff.mpr c7
     subst c7
     rw [if_neg (show ¬ (false=true) by decide)] at H
     have H':=ah.mk H
     clear H
     have Mw: 0≤(fY:Int):=of_decide_eq_true cj
     have Mx:fY < (l0.length:Int):=of_decide_eq_true cj
     obtain ⟨afB,acQ,uo⟩:=Kd.j5 q9.out fY Mw Mx
     cases acQ
     replace uo:=(HB.out.cell (World.block_lt_of_cell? w _ uo)).trans uo
     replace Mw:=eq_true Mw
     replace Mx:=eq_true Mx
     go_wp2_with ((go_at_call 215;(with_reducible refine (gY.calls (nu ByteArray.empty l0 fY) false _ ?bn A6.out).mono ?_);(case bn=>exact bq.below HG.out aJ);rintro e w9 ⟨rfl,hb⟩;replace HB:=ah.mk (ay aJ hb);(try clear hb)))
     go_roundg k1
     case measure=>have:=qi.out;omega
     case rel=>exact ⟨(wrap64 (fY + 1)),(by rfl),H',⟨lu⟩,⟨aJ⟩⟩
   ·rw [if_neg c3] at H
    have ny:=decide_eq_false c3
    clear c3
    obtain rfl:=Option.some.inj H
    go_wp2
    go_ret
    exact ⟨by rfl,aJ⟩
def bJ.f (k:Nat) (l0:List ByteArray):Option (Bool):=(aH.f k l0).bind fun t177=>(some (decide (t177≥0)))
theorem bJ.mono:∀ a0 k,eZ (bJ.f k a0) (bJ.f (k + 1) a0):=by
 intro a0 k
 unfold bJ.f
 repeat' (with_reducible first|exact aH.mono _ _|exact eZ.refl _|refine eZ.bind ?_ (fun _ =>?_))
theorem bJ.calls (k:Nat) (A0:Option Addr) (c0:Nat) (l0:List ByteArray) (r:Bool) (w:World) (nK:Kd.C Kd.string w A0 l0.length l0) (hc0:l0.length≤c0) (hG:bq w) (h:bJ.f k l0=some r):
 Calls Tryz.prog 140 #[.slice A0 l0.length c0,.func (.func 215) #[] #[]] w fun e w'=>e= .returned (.bool r)∧Below w.heap.size w w':=by
 have q9:=ah.mk nK
 have Fy:=ah.mk hc0
 clear nK hc0
 have HB:=ah.mk (Below.refl w.heap.size w)
 have HG:=ah.mk hG
 clear hG
 have H:((aH.f k l0).bind fun t177=>(some (decide (t177≥0))))=some r:=h
 clear h
 obtain ⟨t177,A3,H⟩:=bd_ H
 obtain rfl:=Option.some.inj H
 go_enter Tryz.func140,Tryz.ntmps140
 go_wp2_with (((with_reducible refine bK (f:=184) rfl ?_);refine dB (some 7) rfl rfl Tryz.func184 aq rfl #[.slice A0 l0.length c0,.func (.func 215) #[] #[]] rfl dK ?_;(with_reducible refine (aH.calls k _ _ l0 t177 _ ?bn ?bN ?cW A3.out).mono ?_);(case bn=>repeat (exact q9.out));(case bN=>exact Fy.out);(case cW=>exact bq.below HG.out aJ);rintro e w4 ⟨rfl,hb⟩;refine ⟨_,rfl,?_⟩;replace HB:=ah.mk (ay aJ hb);(try clear hb)))
 go_ret
 exact ⟨by rfl,aJ⟩
def cX.j0:Nat→ByteArray→Bool→Option (Bool)
 | 0,_,_ =>none
 |k + 1,x0,ym=>if ym=true then (if 5≤(x0.size:Int) then ((tA.f (x0.extract 5 x0.size)).bind fun t179=>(some t179)) else (none)) else ((strings_Split.f x0 (⟨#[46]⟩:ByteArray)).bind fun t180=>(if (t180.length:Int)=4 then ((bJ.f k t180).bind fun t183=>(some (!t183))) else (some false)))
def cX.f (k:Nat) (a0:ByteArray):Option (Bool):=if (a0.size:Int) > 5 then (if 0≤5 then (if 5≤(a0.size:Int) then ((eX.f (a0.extract 0 5)).bind fun t178=>(cX.j0 k a0 (t178.toList == ([105,112,118,54,58]:List UInt8)))) else (none)) else (none)) else (cX.j0 k a0 false)
theorem cX.ey:∀ k,(∀ y0 y1,eZ (cX.j0 k y0 y1) (cX.j0 (k + 1) y0 y1))
 | 0=>fun _ _ r h=>by simp [cX.j0] at h
 |k + 1=>by
  have mH:=cX.ey k
  ·intro y0 y1
   unfold cX.j0
   repeat' (with_reducible first|exact bJ.mono _ _|exact eZ.refl _|refine eZ.ite ?_ ?_|refine eZ.bind ?_ (fun _ =>?_))
theorem cX.mono:∀ a0 k,eZ (cX.f k a0) (cX.f (k + 1) a0):=by
 intro a0 k
 have mH:=cX.ey k
 unfold cX.f
 repeat' (with_reducible first|exact mH _ _|exact eZ.refl _|refine eZ.ite ?_ ?_|refine eZ.bind ?_ (fun _ =>?_))
theorem cX.calls (k:Nat) (a0:ByteArray) (r:Bool) (w:World) (hG:bq w) (h:cX.f k a0=some r):
 Calls Tryz.prog 187 #[.string a0] w fun e w'=>e= .returned (.bool r)∧Below w.heap.size w w':=by
 have HB:=ah.mk (Below.refl w.heap.size w)
 have HG:=ah.mk hG
 clear hG
 have H:(if (a0.size:Int) > 5 then (if 0≤5 then (if 5≤(a0.size:Int) then ((eX.f (a0.extract 0 5)).bind fun t178=>(cX.j0 k a0 (t178.toList == ([105,112,118,54,58]:List UInt8)))) else (none)) else (none)) else (cX.j0 k a0 false))=some r:=h
 clear h
 have HC2:=ah.mk H
 clear H
 go_enter Tryz.func187,Tryz.ntmps187
 go_upto_region 1 with (fail)
 go_cut [12] (fun v12 wc=>∃ (kq:Nat) (bT:Bool),v12= .bool bT∧ah (cX.j0 kq a0 bT=some r)∧ah (kq≤k)∧ah (Below w.heap.size w wc))
 case first=>
  have H:=HC2.out
  clear HC2
  by_cases c3:(a0.size:Int) > 5
  ·rw [if_pos c3] at H
   have ny:decide (5 < (a0.size:Int))=true:=decide_eq_true c3
   have xX:decide (5 < a0.size)=true:=decide_eq_true az
   clear c3
   obtain ⟨c4,H⟩:=lO H
   have mQ:=eq_true c4
   have AE:=decide_eq_true c4
   clear c4
   obtain ⟨c5,H⟩:=lO H
   have p8:=eq_true c5
   have Mr:=decide_eq_true c5
   clear c5
   obtain ⟨t178,A6,H⟩:=bd_ H
   have H':=ah.mk H
   clear H
   go_wp2_with ((go_at_call 139;(with_reducible refine (eX.calls (a0.extract 0 5) t178 _ A6.out).mono ?_);rintro e w7 ⟨rfl,hb⟩;replace HB:=ah.mk (ay aJ hb);(try clear hb)))
   go_meet
   case rel=>exact ⟨_,((t178.toList == ([105,112,118,54,58]:List UInt8))),(by rfl),H',⟨az⟩,⟨aJ⟩⟩
  ·rw [if_neg c3] at H
   have ny:decide (5 < (a0.size:Int))=false:=decide_eq_false c3
   have xX:decide (5 < a0.size)=false:=decide_eq_false az
   clear c3
   have H':=ah.mk H
   clear H
   go_wp2
   go_meet
   case rel=>exact ⟨_,(false),(by rfl),H',⟨az⟩,⟨aJ⟩⟩
 case rest=>
  clear HC2
  obtain ⟨kq,bT,rfl,HA,HJ1,HB⟩:=hcut
  cases kq with
  |zero=>exact absurd HA.out (by simp [cX.j0])
  |succ kj1=>
   have H:=HA.out
   clear HA
   simp only [cX.j0] at H
   by_cases c8:bT=true
   ·subst c8
    rw [if_pos rfl] at H
    obtain ⟨c9,H⟩:=lO H
    have V8:=eq_true c9
    have aDU:=decide_eq_true c9
    clear c9
    obtain ⟨t179,Rs,H⟩:=bd_ H
    obtain rfl:=Option.some.inj H
    go_wp2_with (((with_reducible refine bK (f:=214) rfl ?_);refine dB (some 15) rfl rfl Tryz.func214 aq rfl #[.string (a0.extract 5 a0.size)] rfl dK ?_;(with_reducible refine (tA.calls (a0.extract 5 a0.size) t179 _ ?bn Rs.out).mono ?_);(case bn=>exact bq.below HG.out aJ);rintro e xq ⟨rfl,hb⟩;refine ⟨_,rfl,?_⟩;replace HB:=ah.mk (ay aJ hb);(try clear hb)))
    go_ret
    exact ⟨by rfl,aJ⟩
   ·replace c8:=Bool.eq_false_iff.mpr c8
    subst c8
    rw [if_neg (show ¬ (false=true) by decide)] at H
    obtain ⟨t180,A12,H⟩:=bd_ H
    by_cases c13:(t180.length:Int)=4
    ·rw [if_pos c13] at H
     have D8:=beq_iff_eq.mpr c13
     have KS:=bne_eq_false_iff_eq.mpr c13
     clear c13
     obtain ⟨t183,A14,H⟩:=bd_ H
     obtain rfl:=Option.some.inj H
     go_wp2_with (first|((with_reducible refine bK (f:=141) rfl ?_);refine dB (some 17) rfl rfl Tryz.func141 aq rfl #[.string a0,.string (⟨#[46]⟩:ByteArray)] rfl dK ?_;(with_reducible refine (strings_Split.calls a0 (⟨#[46]⟩:ByteArray) t180 _ ?bn A12.out).mono ?_);(case bn=>exact bq.below HG.out aJ);rintro e vF ⟨axQ,rfl,ho0,hb⟩;refine ⟨_,rfl,?_⟩;have D9:=ah.mk (Kd.dX ho0 (b7 aJ));replace HB:=ah.mk (ay aJ hb);(try clear hb);(try clear ho0);obtain ⟨My,Mz,Uc⟩:=Kd.dm D9.out;subst Uc)|(go_at_call 140;(with_reducible refine (bJ.calls kj1 _ _ t180 t183 _ ?bn ?bN ?cW A14.out).mono ?_);(case bn=>repeat (exact (Kd.ck D9.out).2.2));(case bN=>exact (Kd.ck D9.out).2.1);(case cW=>exact bq.below HG.out aJ);rintro e sN ⟨rfl,hb⟩;replace D9:=ah.mk (Kd.bH (by exact D9.out) hb);replace HB:=ah.mk (ay aJ hb);(try clear hb)))
     go_ret
     exact ⟨by rfl,aJ⟩
    ·rw [if_neg c13] at H
     have D8:=beq_eq_false_iff_ne.mpr c13
     have KS:=bne_iff_ne.mpr c13
     obtain rfl:=Option.some.inj H
     go_wp2_with (((with_reducible refine bK (f:=141) rfl ?_);refine dB (some 17) rfl rfl Tryz.func141 aq rfl #[.string a0,.string (⟨#[46]⟩:ByteArray)] rfl dK ?_;(with_reducible refine (strings_Split.calls a0 (⟨#[46]⟩:ByteArray) t180 _ ?bn A12.out).mono ?_);(case bn=>exact bq.below HG.out aJ);rintro e za ⟨axQ,rfl,ho0,hb⟩;refine ⟨_,rfl,?_⟩;have D9:=ah.mk (Kd.dX ho0 (b7 aJ));replace HB:=ah.mk (ay aJ hb);(try clear hb);(try clear ho0);obtain ⟨aDV,aDW,axR⟩:=Kd.dm D9.out;subst axR))
     go_ret
     exact ⟨by rfl,aJ⟩
end Go.Proofs.YtbjjaaodfbjkfaaGreatDoor.mU
