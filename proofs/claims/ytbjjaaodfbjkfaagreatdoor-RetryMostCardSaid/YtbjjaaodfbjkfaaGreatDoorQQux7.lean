import Derived.Test.YtbjjaaodfbjkfaaGreatDoorQQux6
import Derived.Test.YtbjjaaodfbjkfaaGreatDoorELit
set_option maxHeartbeats 8000000
set_option maxRecDepth 100000
namespace Go.Proofs.YtbjjaaodfbjkfaaGreatDoor.qb
open Go.RowKit Go.Proofs.YtbjjaaodfbjkfaaGreatDoor.xI Go.Proofs.aj.bQ Go.Proofs.aj.dX Go.Proofs.aj.dJ
attribute [local go_sem] jT jU lF lG iX iY jV jW
set_option linter.unusedVariables false
set_option linter.unusedSimpArgs false
def gL.f (k:Nat) (bB:ByteArray) (b7:ByteArray) (cD:Bool):Option (Bool):=if (bB.size:Int)≤64 then (if cD=true then (some true) else ((iI.f k b7).bind fun t186=>(some t186))) else (some false)
theorem gL.mono:∀ a0 a1 a2 k,gB (gL.f k a0 a1 a2) (gL.f (k + 1) a0 a1 a2):=by
 intro a0 a1 a2 k
 unfold gL.f
 repeat' (with_reducible first|exact iI.mono _ _|exact gB.refl _|refine gB.ite ?_ ?_|refine gB.bind ?_ (fun _ =>?_))
theorem gL.calls (k:Nat) (bB:ByteArray) (b7:ByteArray) (cD:Bool) (r:Bool) (w:World) (hG:bp w) (h:gL.f k bB b7 cD=some r):
 Calls Tryz.prog 186 #[.agg #[.string bB,.string b7,.bool cD]] w fun e w'=>e= .returned (.bool r)∧Below w.heap.size w w':=by
 have Q3:=Tryz.underlying29
 have HB:=ah.mk (Below.refl w.heap.size w)
 have HG:=ah.mk hG
 clear hG
 have H:(if (bB.size:Int)≤64 then (if cD=true then (some true) else ((iI.f k b7).bind fun t186=>(some t186))) else (some false))=some r:=h
 clear h
 by_cases c2:(bB.size:Int)≤64
 ·rw [if_pos c2] at H
  have yu:=decide_eq_true c2
  have Pk:decide (bB.size≤64)=true:=decide_eq_true ay
  clear c2
  by_cases c3:cD=true
  ·subst c3
   rw [if_pos rfl] at H
   obtain rfl:=Option.some.inj H
   go_enter Tryz.func186,Tryz.ntmps186
   go_wp2_with (((with_reducible refine bI (N:=1) rfl ?_);refine bR ?hg (N:=1) ?hd (cs:=#[.string bB,.string b7,.bool true]) (t:=29) ?hr ?_;(case hd=>rfl);(case hg=>rfl);(case hr=>(go_simp;done));intro pV hg w4 b9 hb;have mP:=ah.mk (b9);have acf:=ah.mk ((bZ:w.heap.size≤pV));have acg:=ah.mk ((bZ:w.heap.size≤pV));replace HB:=ah.mk (aA aD hb);clear hb b9 hg;have Sg:w4.cell? ⟨pV,0,none⟩=some (.string bB):=(af mP.out 0).trans rfl;have Sh:w4.cell? ⟨pV,1,none⟩=some (.string b7):=(af mP.out 1).trans rfl;have ad6:w4.cell? ⟨pV,2,none⟩=some (.bool true):=(af mP.out 2).trans rfl;have Si:=aa mP.out 0;have Sj:=aa mP.out 1;have ad7:=aa mP.out 2))
   go_ret
   exact ⟨by rfl,aD⟩
  ·replace c3:=Bool.eq_false_iff.mpr c3
   subst c3
   rw [if_neg (show ¬ (false=true) by decide)] at H
   obtain ⟨t186,A6,H⟩:=bd_ H
   obtain rfl:=Option.some.inj H
   go_enter Tryz.func186,Tryz.ntmps186
   go_wp2_with (first|((with_reducible refine bI (N:=1) rfl ?_);refine bR ?hg (N:=1) ?hd (cs:=#[.string bB,.string b7,.bool false]) (t:=29) ?hr ?_;(case hd=>rfl);(case hg=>rfl);(case hr=>(go_simp;done));intro pV hg w7 b9 hb;have mP:=ah.mk (b9);have acf:=ah.mk ((bZ:w.heap.size≤pV));have acg:=ah.mk ((bZ:w.heap.size≤pV));replace HB:=ah.mk (aA aD hb);clear hb b9 hg;have Dh:w7.cell? ⟨pV,0,none⟩=some (.string bB):=(af mP.out 0).trans rfl;have Di:w7.cell? ⟨pV,1,none⟩=some (.string b7):=(af mP.out 1).trans rfl;have Q4:w7.cell? ⟨pV,2,none⟩=some (.bool false):=(af mP.out 2).trans rfl;have Dj:=aa mP.out 0;have Dk:=aa mP.out 1;have Q5:=aa mP.out 2)|(go_at_call 94;(with_reducible refine (iI.calls k b7 t186 _ ?aX A6.out).mono ?_);(case aX=>exact bp.below HG.out aD);rintro e w9 ⟨rfl,hb⟩;replace mP:=ah.mk (aC (by exact mP.out) hb);replace HB:=ah.mk (aA aD hb);(try clear hb)))
   go_ret
   exact ⟨by rfl,aD⟩
 ·rw [if_neg c2] at H
  have yu:=decide_eq_false c2
  have Pk:decide (bB.size≤64)=false:=decide_eq_false ay
  clear c2
  obtain rfl:=Option.some.inj H
  go_enter Tryz.func186,Tryz.ntmps186
  go_wp2_with (((with_reducible refine bI (N:=1) rfl ?_);refine bR ?hg (N:=1) ?hd (cs:=#[.string bB,.string b7,.bool cD]) (t:=29) ?hr ?_;(case hd=>rfl);(case hg=>rfl);(case hr=>(go_simp;done));intro pV hg sI b9 hb;have mP:=ah.mk (b9);have acf:=ah.mk ((bZ:w.heap.size≤pV));have acg:=ah.mk ((bZ:w.heap.size≤pV));replace HB:=ah.mk (aA aD hb);clear hb b9 hg;have auS:sI.cell? ⟨pV,0,none⟩=some (.string bB):=(af mP.out 0).trans rfl;have auT:sI.cell? ⟨pV,1,none⟩=some (.string b7):=(af mP.out 1).trans rfl;have auU:sI.cell? ⟨pV,2,none⟩=some (.bool cD):=(af mP.out 2).trans rfl;have auV:=aa mP.out 0;have auW:=aa mP.out 1;have auX:=aa mP.out 2))
  go_ret
  exact ⟨by rfl,aD⟩
def yG.f (a0:ByteArray):Option (Bool):=(strings_Cut.f a0 (⟨#[58,58]⟩:ByteArray)).bind fun Bw=>((gw.f Bw.1).bind fun t190=>((gw.f Bw.2.1).bind fun t191=>(if Bw.2.2=true then (if t190≥0 then (if t191≥0 then (some (decide ((wrap64 (t190 + t191))≤6))) else (some false)) else (some false)) else (some (t190 == 8)))))
theorem yG.calls (a0:ByteArray) (r:Bool) (w:World) (hG:bp w) (h:yG.f a0=some r):
 Calls Tryz.prog 214 #[.string a0] w fun e w'=>e= .returned (.bool r)∧Below w.heap.size w w':=by
 have HB:=ah.mk (Below.refl w.heap.size w)
 have HG:=ah.mk hG
 clear hG
 have H:((strings_Cut.f a0 (⟨#[58,58]⟩:ByteArray)).bind fun Bw=>((gw.f Bw.1).bind fun t190=>((gw.f Bw.2.1).bind fun t191=>(if Bw.2.2=true then (if t190≥0 then (if t191≥0 then (some (decide ((wrap64 (t190 + t191))≤6))) else (some false)) else (some false)) else (some (t190 == 8))))))=some r:=h
 clear h
 obtain ⟨⟨t187,t188,t189⟩,A2,H⟩:=bd_ H
 (try dsimp only at H)
 obtain ⟨t190,A3,H⟩:=bd_ H
 obtain ⟨t191,A4,H⟩:=bd_ H
 by_cases c5:t189=true
 ·subst c5
  rw [if_pos rfl] at H
  by_cases c6:t190≥0
  ·rw [if_pos c6] at H
   have Cm:decide (0≤t190)=true:=decide_eq_true c6
   clear c6
   by_cases c7:t191≥0
   ·rw [if_pos c7] at H
    have Q8:decide (0≤t191)=true:=decide_eq_true c7
    clear c7
    obtain rfl:=Option.some.inj H
    go_enter Tryz.func214,Tryz.ntmps214
    go_wp2_with (first|((with_reducible refine bq (f:=153) rfl ?_);refine cK (some 10) rfl rfl Tryz.func153 aR rfl #[.string a0,.string (⟨#[58,58]⟩:ByteArray)] rfl dc ?_;(with_reducible refine (strings_Cut.calls a0 (⟨#[58,58]⟩:ByteArray) t187 t188 true _ ?aX A2.out).mono ?_);(case aX=>exact bp.below HG.out aD);rintro e w' ⟨rfl,⟨nd,rfl⟩⟩;refine ⟨_,rfl,?_⟩)|((with_reducible refine bq (f:=243) rfl ?_);refine cK (some 15) rfl rfl Tryz.func243 aR rfl #[.string t187] rfl dc ?_;(with_reducible refine (gw.calls t187 t190 _ ?aX A3.out).mono ?_);(case aX=>exact bp.below HG.out dG);rintro e w8 ⟨rfl,hb⟩;refine ⟨_,rfl,?_⟩;replace HB:=ah.mk (aA dG hb);(try clear hb))|((with_reducible refine bq (f:=243) rfl ?_);refine cK (some 17) rfl rfl Tryz.func243 aR rfl #[.string t188] rfl dc ?_;(with_reducible refine (gw.calls t188 t191 _ ?aX A4.out).mono ?_);(case aX=>exact bp.below HG.out aD);rintro e w9 ⟨rfl,hb⟩;refine ⟨_,rfl,?_⟩;replace HB:=ah.mk (aA aD hb);(try clear hb)))
    go_ret
    exact ⟨by rfl,aD⟩
   ·rw [if_neg c7] at H
    have Q8:decide (0≤t191)=false:=decide_eq_false c7
    clear c7
    obtain rfl:=Option.some.inj H
    go_enter Tryz.func214,Tryz.ntmps214
    go_wp2_with (first|((with_reducible refine bq (f:=153) rfl ?_);refine cK (some 10) rfl rfl Tryz.func153 aR rfl #[.string a0,.string (⟨#[58,58]⟩:ByteArray)] rfl dc ?_;(with_reducible refine (strings_Cut.calls a0 (⟨#[58,58]⟩:ByteArray) t187 t188 true _ ?aX A2.out).mono ?_);(case aX=>exact bp.below HG.out aD);rintro e w' ⟨rfl,⟨nd,rfl⟩⟩;refine ⟨_,rfl,?_⟩)|((with_reducible refine bq (f:=243) rfl ?_);refine cK (some 15) rfl rfl Tryz.func243 aR rfl #[.string t187] rfl dc ?_;(with_reducible refine (gw.calls t187 t190 _ ?aX A3.out).mono ?_);(case aX=>exact bp.below HG.out dG);rintro e sI ⟨rfl,hb⟩;refine ⟨_,rfl,?_⟩;replace HB:=ah.mk (aA dG hb);(try clear hb))|((with_reducible refine bq (f:=243) rfl ?_);refine cK (some 17) rfl rfl Tryz.func243 aR rfl #[.string t188] rfl dc ?_;(with_reducible refine (gw.calls t188 t191 _ ?aX A4.out).mono ?_);(case aX=>exact bp.below HG.out aD);rintro e Bp ⟨rfl,hb⟩;refine ⟨_,rfl,?_⟩;replace HB:=ah.mk (aA aD hb);(try clear hb)))
    go_ret
    exact ⟨by rfl,aD⟩
  ·rw [if_neg c6] at H
   have Cm:decide (0≤t190)=false:=decide_eq_false c6
   clear c6
   obtain rfl:=Option.some.inj H
   go_enter Tryz.func214,Tryz.ntmps214
   go_wp2_with (first|((with_reducible refine bq (f:=153) rfl ?_);refine cK (some 10) rfl rfl Tryz.func153 aR rfl #[.string a0,.string (⟨#[58,58]⟩:ByteArray)] rfl dc ?_;(with_reducible refine (strings_Cut.calls a0 (⟨#[58,58]⟩:ByteArray) t187 t188 true _ ?aX A2.out).mono ?_);(case aX=>exact bp.below HG.out aD);rintro e w' ⟨rfl,⟨nd,rfl⟩⟩;refine ⟨_,rfl,?_⟩)|((with_reducible refine bq (f:=243) rfl ?_);refine cK (some 15) rfl rfl Tryz.func243 aR rfl #[.string t187] rfl dc ?_;(with_reducible refine (gw.calls t187 t190 _ ?aX A3.out).mono ?_);(case aX=>exact bp.below HG.out dG);rintro e w12 ⟨rfl,hb⟩;refine ⟨_,rfl,?_⟩;replace HB:=ah.mk (aA dG hb);(try clear hb))|((with_reducible refine bq (f:=243) rfl ?_);refine cK (some 17) rfl rfl Tryz.func243 aR rfl #[.string t188] rfl dc ?_;(with_reducible refine (gw.calls t188 t191 _ ?aX A4.out).mono ?_);(case aX=>exact bp.below HG.out aD);rintro e rX ⟨rfl,hb⟩;refine ⟨_,rfl,?_⟩;replace HB:=ah.mk (aA aD hb);(try clear hb)))
   go_ret
   exact ⟨by rfl,aD⟩
 ·replace c5:=Bool.eq_false_iff.mpr c5
  subst c5
  rw [if_neg (show ¬ (false=true) by decide)] at H
  obtain rfl:=Option.some.inj H
  go_enter Tryz.func214,Tryz.ntmps214
  go_wp2_with (first|((with_reducible refine bq (f:=153) rfl ?_);refine cK (some 10) rfl rfl Tryz.func153 aR rfl #[.string a0,.string (⟨#[58,58]⟩:ByteArray)] rfl dc ?_;(with_reducible refine (strings_Cut.calls a0 (⟨#[58,58]⟩:ByteArray) t187 t188 false _ ?aX A2.out).mono ?_);(case aX=>exact bp.below HG.out aD);rintro e w' ⟨rfl,⟨nd,rfl⟩⟩;refine ⟨_,rfl,?_⟩)|((with_reducible refine bq (f:=243) rfl ?_);refine cK (some 15) rfl rfl Tryz.func243 aR rfl #[.string t187] rfl dc ?_;(with_reducible refine (gw.calls t187 t190 _ ?aX A3.out).mono ?_);(case aX=>exact bp.below HG.out dG);rintro e JY ⟨rfl,hb⟩;refine ⟨_,rfl,?_⟩;replace HB:=ah.mk (aA dG hb);(try clear hb))|((with_reducible refine bq (f:=243) rfl ?_);refine cK (some 17) rfl rfl Tryz.func243 aR rfl #[.string t188] rfl dc ?_;(with_reducible refine (gw.calls t188 t191 _ ?aX A4.out).mono ?_);(case aX=>exact bp.below HG.out aD);rintro e uC ⟨rfl,hb⟩;refine ⟨_,rfl,?_⟩;replace HB:=ah.mk (aA aD hb);(try clear hb)))
  go_ret
  exact ⟨by rfl,aD⟩
def aI.l0:Nat→List ByteArray→Int→Int→Option (Int)
 | 0,_,_,_ =>none
 |k + 1,x0,x7,x8=>if x8 < x7 then (if 0≤x8 then (if x8 < (x0.length:Int) then ((kW.f (qU ByteArray.empty x0 x8)).bind fun t193=>(if t193=true then (some x8) else (aI.l0 k x0 x7 (wrap64 (x8 + 1))))) else (none)) else (none)) else (some (-1))
def aI.f (k:Nat) (l0:List ByteArray):Option (Int):=aI.l0 k l0 (l0.length:Int) 0
theorem aI.ij:∀ k,(∀ y0 y1 y2,gB (aI.l0 k y0 y1 y2) (aI.l0 (k + 1) y0 y1 y2))
 | 0=>fun _ _ _ r h=>by simp [aI.l0] at h
 |k + 1=>by
  have sG:=aI.ij k
  ·intro y0 y1 y2
   unfold aI.l0
   repeat' (with_reducible first|exact sG _ _ _|exact gB.refl _|refine gB.ite ?_ ?_|refine gB.bind ?_ (fun _ =>?_))
theorem aI.mono:∀ a0 k,gB (aI.f k a0) (aI.f (k + 1) a0):=by
 intro a0 k
 have sG:=aI.ij k
 unfold aI.f
 repeat' (with_reducible exact sG _ _ _)
theorem aI.calls (k:Nat) (A0:Option Addr) (c0:Nat) (l0:List ByteArray) (r:Int) (w:World) (lN:Kd.C Kd.string w A0 l0.length l0) (hc0:l0.length≤c0) (hG:bp w) (h:aI.f k l0=some r):
 Calls Tryz.prog 184 #[.slice A0 l0.length c0,.func (.func 215) #[] #[]] w fun e w'=>e= .returned (.int .i64 r)∧Below w.heap.size w w':=by
 have nr:=ah.mk lN
 have sU:=ah.mk hc0
 clear lN hc0
 have HB:=ah.mk (Below.refl w.heap.size w)
 have HG:=ah.mk hG
 clear hG
 have H:(aI.l0 k l0 (l0.length:Int) 0)=some r:=h
 clear h
 have H':=ah.mk H
 clear H
 go_enter Tryz.func184,Tryz.ntmps184
 go_wp2
 go_loopg [8] k (fun kq v8 w'=>∃ (eP:Int),v8= .int .i64 eP∧ah (aI.l0 kq l0 (l0.length:Int) eP=some r)∧ah (kq≤k)∧ah (Below w.heap.size w w'))
 case atStart=>exact ⟨(0),(by rfl),H',⟨Nat.le_refl _⟩,⟨aD⟩⟩
 case round=>
  clear H'
  obtain ⟨eP,rfl,HA,sw,HB⟩:=hrel
  cases gk with
  |zero=>exact absurd HA.out (by simp [aI.l0])
  |succ k1=>
   have H:=HA.out
   clear HA
   simp only [aI.l0] at H
   by_cases c3:eP < (l0.length:Int)
   ·rw [if_pos c3] at H
    have pF:=decide_eq_true c3
    clear c3
    obtain ⟨c4,H⟩:=ld H
    have oU:=decide_eq_true c4
    clear c4
    obtain ⟨c5,H⟩:=ld H
    have uA:=decide_eq_true c5
    clear c5
    obtain ⟨t193,A6,H⟩:=bd_ H
    by_cases c7:t193=true
    ·subst c7
     rw [if_pos rfl] at H
     obtain rfl:=Option.some.inj H
     have J1: 0≤(eP:Int):=of_decide_eq_true cP
     have J2:eP < (l0.length:Int):=of_decide_eq_true cP
     obtain ⟨ajk,ad8,tY⟩:=Kd.mM nr.out eP J1 J2
     cases ad8
     replace tY:=(HB.out.cell (World.block_lt_of_cell? w _ tY)).trans tY
     replace J1:=eq_true J1
     replace J2:=eq_true J2
     go_wp2_with ((go_at_call 215;(with_reducible refine (kW.calls (qU ByteArray.empty l0 eP) true _ ?aX A6.out).mono ?_);(case aX=>exact bp.below HG.out aD);rintro e w8 ⟨rfl,hb⟩;replace HB:=ah.mk (aA aD hb);(try clear hb)))
     go_ret
     exact ⟨by rfl,aD⟩
    ·replace c7:=Bool.eq_false_iff.mpr c7
     subst c7
     rw [if_neg (show ¬ (false=true) by decide)] at H
     have H':=ah.mk H
     clear H
     have J1: 0≤(eP:Int):=of_decide_eq_true cP
     have J2:eP < (l0.length:Int):=of_decide_eq_true cP
     obtain ⟨ajk,ad8,tY⟩:=Kd.mM nr.out eP J1 J2
     cases ad8
     replace tY:=(HB.out.cell (World.block_lt_of_cell? w _ tY)).trans tY
     replace J1:=eq_true J1
     replace J2:=eq_true J2
     go_wp2_with ((go_at_call 215;(with_reducible refine (kW.calls (qU ByteArray.empty l0 eP) false _ ?aX A6.out).mono ?_);(case aX=>exact bp.below HG.out aD);rintro e w9 ⟨rfl,hb⟩;replace HB:=ah.mk (aA aD hb);(try clear hb)))
     go_roundg k1
     case measure=>have:=sw.out;omega
     case rel=>exact ⟨(wrap64 (eP + 1)),(by rfl),H',⟨lA⟩,⟨aD⟩⟩
   ·rw [if_neg c3] at H
    have pF:=decide_eq_false c3
    clear c3
    obtain rfl:=Option.some.inj H
    go_wp2
    go_ret
    exact ⟨by rfl,aD⟩
def bV.f (k:Nat) (l0:List ByteArray):Option (Bool):=(aI.f k l0).bind fun t194=>(some (decide (t194≥0)))
theorem bV.mono:∀ a0 k,gB (bV.f k a0) (bV.f (k + 1) a0):=by
 intro a0 k
 unfold bV.f
 repeat' (with_reducible first|exact aI.mono _ _|exact gB.refl _|refine gB.bind ?_ (fun _ =>?_))
theorem bV.calls (k:Nat) (A0:Option Addr) (c0:Nat) (l0:List ByteArray) (r:Bool) (w:World) (lN:Kd.C Kd.string w A0 l0.length l0) (hc0:l0.length≤c0) (hG:bp w) (h:bV.f k l0=some r):
 Calls Tryz.prog 140 #[.slice A0 l0.length c0,.func (.func 215) #[] #[]] w fun e w'=>e= .returned (.bool r)∧Below w.heap.size w w':=by
 have nr:=ah.mk lN
 have sU:=ah.mk hc0
 clear lN hc0
 have HB:=ah.mk (Below.refl w.heap.size w)
 have HG:=ah.mk hG
 clear hG
 have H:((aI.f k l0).bind fun t194=>(some (decide (t194≥0))))=some r:=h
 clear h
 obtain ⟨t194,A3,H⟩:=bd_ H
 obtain rfl:=Option.some.inj H
 go_enter Tryz.func140,Tryz.ntmps140
 go_wp2_with (((with_reducible refine bq (f:=184) rfl ?_);refine cK (some 7) rfl rfl Tryz.func184 aR rfl #[.slice A0 l0.length c0,.func (.func 215) #[] #[]] rfl dc ?_;(with_reducible refine (aI.calls k _ _ l0 t194 _ ?aX ?bF ?dU A3.out).mono ?_);(case aX=>repeat (exact nr.out));(case bF=>exact sU.out);(case dU=>exact bp.below HG.out aD);rintro e w4 ⟨rfl,hb⟩;refine ⟨_,rfl,?_⟩;replace HB:=ah.mk (aA aD hb);(try clear hb)))
 go_ret
 exact ⟨by rfl,aD⟩
def dx.j0:Nat→ByteArray→Bool→Option (Bool)
 | 0,_,_ =>none
 |k + 1,x0,Dd=>if Dd=true then (if 5≤(x0.size:Int) then ((yG.f (x0.extract 5 x0.size)).bind fun t196=>(some t196)) else (none)) else ((strings_Split.f x0 (⟨#[46]⟩:ByteArray)).bind fun t197=>(if (t197.length:Int)=4 then ((bV.f k t197).bind fun t200=>(some (!t200))) else (some false)))
def dx.f (k:Nat) (a0:ByteArray):Option (Bool):=if (a0.size:Int) > 5 then (if 0≤5 then (if 5≤(a0.size:Int) then ((gJ.f (a0.extract 0 5)).bind fun t195=>(dx.j0 k a0 (t195.toList == ([105,112,118,54,58]:List UInt8)))) else (none)) else (none)) else (dx.j0 k a0 false)
theorem dx.ij:∀ k,(∀ y0 y1,gB (dx.j0 k y0 y1) (dx.j0 (k + 1) y0 y1))
 | 0=>fun _ _ r h=>by simp [dx.j0] at h
 |k + 1=>by
  have sG:=dx.ij k
  ·intro y0 y1
   unfold dx.j0
   repeat' (with_reducible first|exact bV.mono _ _|exact gB.refl _|refine gB.ite ?_ ?_|refine gB.bind ?_ (fun _ =>?_))
theorem dx.mono:∀ a0 k,gB (dx.f k a0) (dx.f (k + 1) a0):=by
 intro a0 k
 have sG:=dx.ij k
 unfold dx.f
 repeat' (with_reducible first|exact sG _ _|exact gB.refl _|refine gB.ite ?_ ?_|refine gB.bind ?_ (fun _ =>?_))
theorem dx.calls (k:Nat) (a0:ByteArray) (r:Bool) (w:World) (hG:bp w) (h:dx.f k a0=some r):
 Calls Tryz.prog 187 #[.string a0] w fun e w'=>e= .returned (.bool r)∧Below w.heap.size w w':=by
 have HB:=ah.mk (Below.refl w.heap.size w)
 have HG:=ah.mk hG
 clear hG
 have H:(if (a0.size:Int) > 5 then (if 0≤5 then (if 5≤(a0.size:Int) then ((gJ.f (a0.extract 0 5)).bind fun t195=>(dx.j0 k a0 (t195.toList == ([105,112,118,54,58]:List UInt8)))) else (none)) else (none)) else (dx.j0 k a0 false))=some r:=h
 clear h
 have HC2:=ah.mk H
 clear H
 go_enter Tryz.func187,Tryz.ntmps187
 go_upto_region 1 with (fail)
 go_cut [12] (fun v12 wc=>∃ (kq:Nat) (bK:Bool),v12= .bool bK∧ah (dx.j0 kq a0 bK=some r)∧ah (kq≤k)∧ah (Below w.heap.size w wc))
 case first=>
  have H:=HC2.out
  clear HC2
  by_cases c3:(a0.size:Int) > 5
  ·rw [if_pos c3] at H
   have pF:decide (5 < (a0.size:Int))=true:=decide_eq_true c3
   have De:decide (5 < a0.size)=true:=decide_eq_true ay
   clear c3
   obtain ⟨c4,H⟩:=ld H
   have oU:=eq_true c4
   have Bl:=decide_eq_true c4
   clear c4
   obtain ⟨c5,H⟩:=ld H
   have uA:=eq_true c5
   have ad3:=decide_eq_true c5
   clear c5
   obtain ⟨t195,A6,H⟩:=bd_ H
   have H':=ah.mk H
   clear H
   go_wp2_with ((go_at_call 139;(with_reducible refine (gJ.calls (a0.extract 0 5) t195 _ A6.out).mono ?_);rintro e w7 ⟨rfl,hb⟩;replace HB:=ah.mk (aA aD hb);(try clear hb)))
   go_meet
   case rel=>exact ⟨_,((t195.toList == ([105,112,118,54,58]:List UInt8))),(by rfl),H',⟨ay⟩,⟨aD⟩⟩
  ·rw [if_neg c3] at H
   have pF:decide (5 < (a0.size:Int))=false:=decide_eq_false c3
   have De:decide (5 < a0.size)=false:=decide_eq_false ay
   clear c3
   have H':=ah.mk H
   clear H
   go_wp2
   go_meet
   case rel=>exact ⟨_,(false),(by rfl),H',⟨ay⟩,⟨aD⟩⟩
 case rest=>
  clear HC2
  obtain ⟨kq,bK,rfl,HA,HJ1,HB⟩:=hcut
  cases kq with
  |zero=>exact absurd HA.out (by simp [dx.j0])
  |succ kj1=>
   have H:=HA.out
   clear HA
   simp only [dx.j0] at H
   by_cases c8:bK=true
   ·subst c8
    rw [if_pos rfl] at H
    obtain ⟨c9,H⟩:=ld H
    have Us:=eq_true c9
    have aJF:=decide_eq_true c9
    clear c9
    obtain ⟨t196,Re,H⟩:=bd_ H
    obtain rfl:=Option.some.inj H
    go_wp2_with (((with_reducible refine bq (f:=214) rfl ?_);refine cK (some 15) rfl rfl Tryz.func214 aR rfl #[.string (a0.extract 5 a0.size)] rfl dc ?_;(with_reducible refine (yG.calls (a0.extract 5 a0.size) t196 _ ?aX Re.out).mono ?_);(case aX=>exact bp.below HG.out aD);rintro e Bp ⟨rfl,hb⟩;refine ⟨_,rfl,?_⟩;replace HB:=ah.mk (aA aD hb);(try clear hb)))
    go_ret
    exact ⟨by rfl,aD⟩
   ·replace c8:=Bool.eq_false_iff.mpr c8
    subst c8
    rw [if_neg (show ¬ (false=true) by decide)] at H
    obtain ⟨t197,A12,H⟩:=bd_ H
    by_cases c13:(t197.length:Int)=4
    ·rw [if_pos c13] at H
     have CD:=beq_iff_eq.mpr c13
     have Sw:=bne_eq_false_iff_eq.mpr c13
     clear c13
     obtain ⟨t200,A14,H⟩:=bd_ H
     obtain rfl:=Option.some.inj H
     go_wp2_with (first|((with_reducible refine bq (f:=141) rfl ?_);refine cK (some 17) rfl rfl Tryz.func141 aR rfl #[.string a0,.string (⟨#[46]⟩:ByteArray)] rfl dc ?_;(with_reducible refine (strings_Split.calls a0 (⟨#[46]⟩:ByteArray) t197 _ ?aX A12.out).mono ?_);(case aX=>exact bp.below HG.out aD);rintro e uC ⟨v198,rfl,ho0,hb⟩;refine ⟨_,rfl,?_⟩;have Bz:=ah.mk (Kd.cN ho0 (bL aD));replace HB:=ah.mk (aA aD hb);(try clear hb);(try clear ho0);obtain ⟨ads,adt,adu⟩:=Kd.cM Bz.out;subst adu)|(go_at_call 140;(with_reducible refine (bV.calls kj1 _ _ t197 t200 _ ?aX ?bF ?dU A14.out).mono ?_);(case aX=>repeat (exact (Kd.aZ Bz.out).2.2));(case bF=>exact (Kd.aZ Bz.out).2.1);(case dU=>exact bp.below HG.out aD);rintro e wj ⟨rfl,hb⟩;replace Bz:=ah.mk (Kd.aM (by exact Bz.out) hb);replace HB:=ah.mk (aA aD hb);(try clear hb)))
     go_ret
     exact ⟨by rfl,aD⟩
    ·rw [if_neg c13] at H
     have CD:=beq_eq_false_iff_ne.mpr c13
     have Sw:=bne_iff_ne.mpr c13
     obtain rfl:=Option.some.inj H
     go_wp2_with (((with_reducible refine bq (f:=141) rfl ?_);refine cK (some 17) rfl rfl Tryz.func141 aR rfl #[.string a0,.string (⟨#[46]⟩:ByteArray)] rfl dc ?_;(with_reducible refine (strings_Split.calls a0 (⟨#[46]⟩:ByteArray) t197 _ ?aX A12.out).mono ?_);(case aX=>exact bp.below HG.out aD);rintro e w18 ⟨v198,rfl,ho0,hb⟩;refine ⟨_,rfl,?_⟩;have Bz:=ah.mk (Kd.cN ho0 (bL aD));replace HB:=ah.mk (aA aD hb);(try clear hb);(try clear ho0);obtain ⟨fy,fA,ad9⟩:=Kd.cM Bz.out;subst ad9))
     go_ret
     exact ⟨by rfl,aD⟩
end Go.Proofs.YtbjjaaodfbjkfaaGreatDoor.qb
