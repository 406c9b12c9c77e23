import Derived.Test.YtbjjaaodfbjkfaaGreatDoorESlim
import Derived.Test.YtbjjaaodfbjkfaaGreatDoorQQux0
set_option maxHeartbeats 8000000
set_option maxRecDepth 100000
namespace Go.Proofs.YtbjjaaodfbjkfaaGreatDoor.qb
open Go.RowKit Go.Proofs.YtbjjaaodfbjkfaaGreatDoor.xI Go.Proofs.aj.bQ Go.Proofs.aj.dX Go.Proofs.aj.dJ
attribute [local go_sem] jT jU lF lG iX iY jV jW
set_option linter.unusedVariables false
set_option linter.unusedSimpArgs false
def ku.f:Option (Int×(List (qV))):=some (1,([]:List (qV)))
theorem ku.calls (r1:Int) (r2:List (qV)) (w:World) (h:ku.f=some (r1,r2)):
 Calls Tryz.prog 16 #[] w fun e w'=>∃ Q7:Value,e= .returned (.agg #[.int .i64 r1,Q7])∧Kd.S Cb 34 w' w.heap.size (fun _ =>True) Q7 r2∧Below w.heap.size w w':=by
 have adw:=Tryz.underlying40
 have HB:=ah.mk (Below.refl w.heap.size w)
 have H:(some (1,([]:List (qV))))=some (r1,r2):=h
 clear h
 simp only [Option.some.injEq,Prod.mk.injEq] at H
 obtain ⟨rfl,rfl⟩:=H
 go_enter Tryz.func16,Tryz.ntmps16
 go_wp2_with (((with_reducible refine bI (N:=0) rfl ?_);refine bR ?hg (N:=0) ?hd (cs:=#[.int .i64 0,.slice none 0 0]) (t:=40) ?hr ?_;(case hd=>rfl);(case hg=>rfl);(case hr=>(go_simp;done));intro Ia hg w1 b9 hb;have Ib:=ah.mk (b9);have aFb:=ah.mk ((bZ:w.heap.size≤Ia));have ahc:=ah.mk ((bZ:w.heap.size≤Ia));replace HB:=ah.mk (aA aD hb);clear hb b9 hg;have aBh:w1.cell? ⟨Ia,0,none⟩=some (.int .i64 0):=(af Ib.out 0).trans rfl;have aBi:w1.cell? ⟨Ia,1,none⟩=some (.slice none 0 0):=(af Ib.out 1).trans rfl;have aBj:=aa Ib.out 0;have aBk:=aa Ib.out 1))
 refine bodyPost_ret (results_cell_row rfl _ _ Ia 40 #[.int .i64 1,.slice none 0 0] (0,0) _ rfl (by refine aH (cs:=#[.int .i64 1,.slice none 0 0]) ?_ 1 _ rfl;refine aH (cs:=#[.int .i64 0,.slice none 0 0]) ?_ 0 _ rfl;exact Ib.out) Tryz.underlying40 rfl aR) rfl ?_
 exact ⟨_,by rfl,by exact Kd.aba _ _ _ _ _,by repeat ((with_reducible first|exact HB.out|refine dN ?_ ahc.out))⟩
def fZ.f (a0:Int) (a1:Int):Option (Bool):=if a0≥a1 then (some (decide (a0≤1099511627776))) else (some false)
theorem fZ.calls (a0:Int) (a1:Int) (r:Bool) (w:World) (h:fZ.f a0 a1=some r):
 Calls Tryz.prog 60 #[.int .i64 a0,.int .i64 a1] w fun e w'=>e= .returned (.bool r)∧gH w w':=by
 have H:(if a0≥a1 then (some (decide (a0≤1099511627776))) else (some false))=some r:=h
 clear h
 by_cases c3:a0≥a1
 ·rw [if_pos c3] at H
  have pF:decide (a1≤a0)=true:=decide_eq_true c3
  clear c3
  obtain rfl:=Option.some.inj H
  go_enter Tryz.func60,Tryz.ntmps60
  go_wp2
  go_ret
  exact ⟨by rfl,mE⟩
 ·rw [if_neg c3] at H
  have pF:decide (a1≤a0)=false:=decide_eq_false c3
  clear c3
  obtain rfl:=Option.some.inj H
  go_enter Tryz.func60,Tryz.ntmps60
  go_wp2
  go_ret
  exact ⟨by rfl,mE⟩
def kD.f (a0:Int):Option (Bool):=(fZ.f a0 1).bind fun t272=>(some (!t272))
theorem kD.calls (a0:Int) (r:Bool) (w:World) (h:kD.f a0=some r):
 Calls Tryz.prog 86 #[.int .i64 a0] w fun e w'=>e= .returned (.bool r)∧gH w w':=by
 have H:((fZ.f a0 1).bind fun t272=>(some (!t272)))=some r:=h
 clear h
 obtain ⟨t272,A2,H⟩:=bd_ H
 obtain rfl:=Option.some.inj H
 go_enter Tryz.func86,Tryz.ntmps86
 go_wp2_with (((with_reducible refine bq (f:=60) rfl ?_);refine cK (some 4) rfl rfl Tryz.func60 aR rfl #[.int .i64 a0,.int .i64 1] rfl dc ?_;(with_reducible refine (fZ.calls a0 1 t272 _ A2.out).mono ?_);rintro e w' ⟨rfl,⟨nd,rfl⟩⟩;refine ⟨_,rfl,?_⟩))
 go_ret
 exact ⟨by rfl,jy⟩
def aG.l0:Nat→List Int→Int→Int→Option (Int)
 | 0,_,_,_ =>none
 |k + 1,x0,x7,x8=>if x8 < x7 then (if 0≤x8 then (if x8 < (x0.length:Int) then ((kD.f (rd x0 x8)).bind fun t274=>(if t274=true then (some x8) else (aG.l0 k x0 x7 (wrap64 (x8 + 1))))) else (none)) else (none)) else (some (-1))
def aG.f (k:Nat) (l0:List Int):Option (Int):=aG.l0 k l0 (l0.length:Int) 0
theorem aG.ij:∀ k,(∀ y0 y1 y2,gB (aG.l0 k y0 y1 y2) (aG.l0 (k + 1) y0 y1 y2))
 | 0=>fun _ _ _ r h=>by simp [aG.l0] at h
 |k + 1=>by
  have sG:=aG.ij k
  ·intro y0 y1 y2
   unfold aG.l0
   repeat' (with_reducible first|exact sG _ _ _|exact gB.refl _|refine gB.ite ?_ ?_|refine gB.bind ?_ (fun _ =>?_))
theorem aG.mono:∀ a0 k,gB (aG.f k a0) (aG.f (k + 1) a0):=by
 intro a0 k
 have sG:=aG.ij k
 unfold aG.f
 repeat' (with_reducible exact sG _ _ _)
theorem aG.calls (k:Nat) (A0:Option Addr) (c0:Nat) (l0:List Int) (r:Int) (w:World) (lN:Kd.C (Kd.int .i64) w A0 l0.length l0) (hc0:l0.length≤c0) (h:aG.f k l0=some r):
 Calls Tryz.prog 129 #[.slice A0 l0.length c0,.func (.func 86) #[] #[]] w fun e w'=>e= .returned (.int .i64 r)∧gH w w':=by
 have nr:=ah.mk lN
 have sU:=ah.mk hc0
 clear lN hc0
 have H:(aG.l0 k l0 (l0.length:Int) 0)=some r:=h
 clear h
 have H':=ah.mk H
 clear H
 go_enter Tryz.func129,Tryz.ntmps129
 go_wp2
 go_loopg [8] k (fun kq v8 w'=>∃ (eP:Int),v8= .int .i64 eP∧ah (aG.l0 kq l0 (l0.length:Int) eP=some r)∧ah (kq≤k)∧gH w w')
 case atStart=>exact ⟨(0),(by rfl),H',⟨Nat.le_refl _⟩,mE⟩
 case round=>
  clear H'
  obtain ⟨eP,rfl,HA,sw,⟨m1,rfl⟩⟩:=hrel
  cases gk with
  |zero=>exact absurd HA.out (by simp [aG.l0])
  |succ k1=>
   have H:=HA.out
   clear HA
   simp only [aG.l0] at H
   by_cases c3:eP < (l0.length:Int)
   ·rw [if_pos c3] at H
    have pF:=decide_eq_true c3
    clear c3
    obtain ⟨c4,H⟩:=ld H
    have oU:=decide_eq_true c4
    clear c4
    obtain ⟨c5,H⟩:=ld H
    have uA:=decide_eq_true c5
    clear c5
    obtain ⟨t274,A6,H⟩:=bd_ H
    by_cases c7:t274=true
    ·subst c7
     rw [if_pos rfl] at H
     obtain rfl:=Option.some.inj H
     have JB: 0≤(eP:Int):=of_decide_eq_true cP
     have JC:eP < (l0.length:Int):=of_decide_eq_true cP
     obtain ⟨ahd,adx,Vl⟩:=Kd.p4 nr.out eP JB JC
     cases adx
     replace JB:=eq_true JB
     replace JC:=eq_true JC
     go_wp2_with ((go_at_call 86;(with_reducible refine (kD.calls (rd l0 eP) true _ A6.out).mono ?_);rintro e w' ⟨rfl,⟨nd,rfl⟩⟩))
     go_ret
     exact ⟨by rfl,jy⟩
    ·replace c7:=Bool.eq_false_iff.mpr c7
     subst c7
     rw [if_neg (show ¬ (false=true) by decide)] at H
     have H':=ah.mk H
     clear H
     have JB: 0≤(eP:Int):=of_decide_eq_true cP
     have JC:eP < (l0.length:Int):=of_decide_eq_true cP
     obtain ⟨ahd,adx,Vl⟩:=Kd.p4 nr.out eP JB JC
     cases adx
     replace JB:=eq_true JB
     replace JC:=eq_true JC
     go_wp2_with ((go_at_call 86;(with_reducible refine (kD.calls (rd l0 eP) false _ A6.out).mono ?_);rintro e w' ⟨rfl,⟨nd,rfl⟩⟩))
     go_roundg k1
     case measure=>have:=sw.out;omega
     case rel=>exact ⟨(wrap64 (eP + 1)),(by rfl),H',⟨lA⟩,jy⟩
   ·rw [if_neg c3] at H
    have pF:=decide_eq_false c3
    clear c3
    obtain rfl:=Option.some.inj H
    go_wp2
    go_ret
    exact ⟨by rfl,jy⟩
def bU.f (k:Nat) (l0:List Int):Option (Bool):=(aG.f k l0).bind fun t275=>(some (decide (t275≥0)))
theorem bU.mono:∀ a0 k,gB (bU.f k a0) (bU.f (k + 1) a0):=by
 intro a0 k
 unfold bU.f
 repeat' (with_reducible first|exact aG.mono _ _|exact gB.refl _|refine gB.bind ?_ (fun _ =>?_))
theorem bU.calls (k:Nat) (A0:Option Addr) (c0:Nat) (l0:List Int) (r:Bool) (w:World) (lN:Kd.C (Kd.int .i64) w A0 l0.length l0) (hc0:l0.length≤c0) (h:bU.f k l0=some r):
 Calls Tryz.prog 85 #[.slice A0 l0.length c0,.func (.func 86) #[] #[]] w fun e w'=>e= .returned (.bool r)∧gH w w':=by
 have nr:=ah.mk lN
 have sU:=ah.mk hc0
 clear lN hc0
 have H:((aG.f k l0).bind fun t275=>(some (decide (t275≥0))))=some r:=h
 clear h
 obtain ⟨t275,A3,H⟩:=bd_ H
 obtain rfl:=Option.some.inj H
 go_enter Tryz.func85,Tryz.ntmps85
 go_wp2_with (((with_reducible refine bq (f:=129) rfl ?_);refine cK (some 7) rfl rfl Tryz.func129 aR rfl #[.slice A0 l0.length c0,.func (.func 86) #[] #[]] rfl dc ?_;(with_reducible refine (aG.calls k _ _ l0 t275 _ ?aX ?bF A3.out).mono ?_);(case aX=>repeat (exact nr.out));(case bF=>exact sU.out);rintro e w' ⟨rfl,⟨nd,rfl⟩⟩;refine ⟨_,rfl,?_⟩))
 go_ret
 exact ⟨by rfl,jy⟩
def dw.f (k:Nat) (l0:List Int) (a1:Int):Option (Bool):=if (l0.length:Int)≥1 then (if (l0.length:Int)≤50 then ((fZ.f a1 1).bind fun t276=>(if t276=true then ((bU.f k l0).bind fun t277=>(some (!t277))) else (some false))) else (some false)) else (some false)
theorem dw.mono:∀ a0 a1 k,gB (dw.f k a0 a1) (dw.f (k + 1) a0 a1):=by
 intro a0 a1 k
 unfold dw.f
 repeat' (with_reducible first|exact bU.mono _ _|exact gB.refl _|refine gB.ite ?_ ?_|refine gB.bind ?_ (fun _ =>?_))
theorem dw.calls (k:Nat) (A0:Option Addr) (c0:Nat) (l0:List Int) (a1:Int) (r:Bool) (w:World) (lN:Kd.C (Kd.int .i64) w A0 l0.length l0) (hc0:l0.length≤c0) (h:dw.f k l0 a1=some r):
 Calls Tryz.prog 42 #[.slice A0 l0.length c0,.int .i64 a1] w fun e w'=>e= .returned (.bool r)∧gH w w':=by
 have nr:=ah.mk lN
 have sU:=ah.mk hc0
 clear lN hc0
 have H:(if (l0.length:Int)≥1 then (if (l0.length:Int)≤50 then ((fZ.f a1 1).bind fun t276=>(if t276=true then ((bU.f k l0).bind fun t277=>(some (!t277))) else (some false))) else (some false)) else (some false))=some r:=h
 clear h
 by_cases c3:(l0.length:Int)≥1
 ·rw [if_pos c3] at H
  have pF:decide (1≤(l0.length:Int))=true:=decide_eq_true c3
  have De:decide (1≤l0.length)=true:=decide_eq_true ay
  clear c3
  by_cases c4:(l0.length:Int)≤50
  ·rw [if_pos c4] at H
   have oU:=decide_eq_true c4
   have Bl:decide (l0.length≤50)=true:=decide_eq_true ay
   clear c4
   obtain ⟨t276,A5,H⟩:=bd_ H
   by_cases c6:t276=true
   ·subst c6
    rw [if_pos rfl] at H
    obtain ⟨t277,A7,H⟩:=bd_ H
    obtain rfl:=Option.some.inj H
    go_enter Tryz.func42,Tryz.ntmps42
    go_wp2_with (first|(go_at_call 60;(with_reducible refine (fZ.calls a1 1 true _ A5.out).mono ?_);rintro e w' ⟨rfl,⟨nd,rfl⟩⟩)|(go_at_call 85;(with_reducible refine (bU.calls k _ _ l0 t277 _ ?aX ?bF A7.out).mono ?_);(case aX=>repeat (exact nr.out));(case bF=>exact sU.out);rintro e w' ⟨rfl,⟨nd,rfl⟩⟩))
    go_ret
    exact ⟨by rfl,jy⟩
   ·replace c6:=Bool.eq_false_iff.mpr c6
    subst c6
    rw [if_neg (show ¬ (false=true) by decide)] at H
    obtain rfl:=Option.some.inj H
    go_enter Tryz.func42,Tryz.ntmps42
    go_wp2_with ((go_at_call 60;(with_reducible refine (fZ.calls a1 1 false _ A5.out).mono ?_);rintro e w' ⟨rfl,⟨nd,rfl⟩⟩))
    go_ret
    exact ⟨by rfl,jy⟩
  ·rw [if_neg c4] at H
   have oU:=decide_eq_false c4
   have Bl:decide (l0.length≤50)=false:=decide_eq_false ay
   clear c4
   obtain rfl:=Option.some.inj H
   go_enter Tryz.func42,Tryz.ntmps42
   go_wp2
   go_ret
   exact ⟨by rfl,mE⟩
 ·rw [if_neg c3] at H
  have pF:decide (1≤(l0.length:Int))=false:=decide_eq_false c3
  have De:decide (1≤l0.length)=false:=decide_eq_false ay
  clear c3
  obtain rfl:=Option.some.inj H
  go_enter Tryz.func42,Tryz.ntmps42
  go_wp2
  go_ret
  exact ⟨by rfl,mE⟩
def cA.l0:Nat→List Int→Int→Int→List Int→Int→Int→Option (Int)
 | 0,_,_,_,_,_,_ =>none
 |k + 1,x0,x5,x6,wq,uB,x17=>if x17 < uB then (if 0≤x17 then (if x17 < (wq.length:Int) then (if (rd wq x17) > x5 then (some (wrap64 (x6 + 2))) else (cA.l0 k x0 (wrap64 (x5 - (rd wq x17))) (wrap64 (x6 + 1)) wq uB (wrap64 (x17 + 1)))) else (none)) else (none)) else (if 0≤(wrap64 ((x0.length:Int) - 1)) then (if (wrap64 ((x0.length:Int) - 1)) < (x0.length:Int) then (if (rd x0 (wrap64 ((x0.length:Int) - 1)))=0 then (none) else (some (wrap64 ((wrap64 (x6 + (wrap64 (Int.tdiv x5 (rd x0 (wrap64 ((x0.length:Int) - 1))))))) + 2)))) else (none)) else (none))
def cA.f (k:Nat) (l0:List Int) (a1:Int):Option (Int):=(dw.f k l0 a1).bind fun t278=>(if t278=true then (cA.l0 k l0 (wrap64 (a1 - 1)) 0 l0 (l0.length:Int) 0) else (some 0))
theorem cA.ij:∀ k,(∀ y0 y1 y2 y3 y4 y5,gB (cA.l0 k y0 y1 y2 y3 y4 y5) (cA.l0 (k + 1) y0 y1 y2 y3 y4 y5))
 | 0=>fun _ _ _ _ _ _ r h=>by simp [cA.l0] at h
 |k + 1=>by
  have sG:=cA.ij k
  ·intro y0 y1 y2 y3 y4 y5
   unfold cA.l0
   repeat' (with_reducible first|exact sG _ _ _ _ _ _|exact gB.refl _|refine gB.ite ?_ ?_)
theorem cA.mono:∀ a0 a1 k,gB (cA.f k a0 a1) (cA.f (k + 1) a0 a1):=by
 intro a0 a1 k
 have sG:=cA.ij k
 unfold cA.f
 repeat' (with_reducible first|exact sG _ _ _ _ _ _|exact dw.mono _ _ _|exact gB.refl _|refine gB.ite ?_ ?_|refine gB.bind ?_ (fun _ =>?_))
theorem cA.calls (k:Nat) (A0:Option Addr) (c0:Nat) (l0:List Int) (a1:Int) (r:Int) (w:World) (lN:Kd.C (Kd.int .i64) w A0 l0.length l0) (hc0:l0.length≤c0) (h:cA.f k l0 a1=some r):
 Calls Tryz.prog 17 #[.slice A0 l0.length c0,.int .i64 a1] w fun e w'=>e= .returned (.int .i64 r)∧gH w w':=by
 have nr:=ah.mk lN
 have sU:=ah.mk hc0
 clear lN hc0
 have H:((dw.f k l0 a1).bind fun t278=>(if t278=true then (cA.l0 k l0 (wrap64 (a1 - 1)) 0 l0 (l0.length:Int) 0) else (some 0)))=some r:=h
 clear h
 obtain ⟨t278,A3,H⟩:=bd_ H
 by_cases c4:t278=true
 ·subst c4
  rw [if_pos rfl] at H
  have H':=ah.mk H
  clear H
  go_enter Tryz.func17,Tryz.ntmps17
  go_wp2_with (((with_reducible refine bq (f:=42) rfl ?_);refine cK (some 11) rfl rfl Tryz.func42 aR rfl #[.slice A0 l0.length c0,.int .i64 a1] rfl dc ?_;(with_reducible refine (dw.calls k _ _ l0 a1 true _ ?aX ?bF A3.out).mono ?_);(case aX=>repeat (exact nr.out));(case bF=>exact sU.out);rintro e w' ⟨rfl,⟨nd,rfl⟩⟩;refine ⟨_,rfl,?_⟩))
  go_loopg [5,6,17] k (fun kq v5 v6 v17 w'=>∃ (JD:Int) (Vm:Int) (qG:Int),v5= .int .i64 JD∧v6= .int .i64 Vm∧v17= .int .i64 qG∧ah (cA.l0 kq l0 JD Vm l0 (l0.length:Int) qG=some r)∧ah (kq≤k)∧gH w w')
  case atStart=>exact ⟨(wrap64 (a1 - 1)),(0),(0),(by rfl),(by rfl),(by rfl),H',⟨Nat.le_refl _⟩,jy⟩
  case round=>
   clear H'
   obtain ⟨JD,Vm,qG,rfl,rfl,rfl,HA,sw,⟨m1,rfl⟩⟩:=hrel
   cases gk with
   |zero=>exact absurd HA.out (by simp [cA.l0])
   |succ k1=>
    have H:=HA.out
    clear HA
    simp only [cA.l0] at H
    by_cases c5:qG < (l0.length:Int)
    ·rw [if_pos c5] at H
     have uA:=decide_eq_true c5
     clear c5
     obtain ⟨c6,H⟩:=ld H
     have Cm:=decide_eq_true c6
     clear c6
     obtain ⟨c7,H⟩:=ld H
     have Q8:=decide_eq_true c7
     clear c7
     by_cases c8:(rd l0 qG) > JD
     ·rw [if_pos c8] at H
      have Cl:decide (JD < (rd l0 qG))=true:=decide_eq_true c8
      clear c8
      obtain rfl:=Option.some.inj H
      have JE: 0≤(qG:Int):=of_decide_eq_true cP
      have JF:qG < (l0.length:Int):=of_decide_eq_true cP
      obtain ⟨ahe,ady,Vn⟩:=Kd.p4 nr.out qG JE JF
      cases ady
      replace JE:=eq_true JE
      replace JF:=eq_true JF
      go_wp2
      go_ret
      exact ⟨by rfl,jy⟩
     ·rw [if_neg c8] at H
      have Cl:decide (JD < (rd l0 qG))=false:=decide_eq_false c8
      clear c8
      have H':=ah.mk H
      clear H
      have JE: 0≤(qG:Int):=of_decide_eq_true cP
      have JF:qG < (l0.length:Int):=of_decide_eq_true cP
      obtain ⟨ahe,ady,Vn⟩:=Kd.p4 nr.out qG JE JF
      cases ady
      replace JE:=eq_true JE
      replace JF:=eq_true JF
      go_wp2
      go_roundg k1
      case measure=>have:=sw.out;omega
      case rel=>exact ⟨(wrap64 (JD - (rd l0 qG))),(wrap64 (Vm + 1)),(wrap64 (qG + 1)),(by rfl),(by rfl),(by rfl),H',⟨lA⟩,jy⟩
    ·rw [if_neg c5] at H
     have uA:=decide_eq_false c5
     clear c5
     obtain ⟨ji9,Q9⟩:∃ j_:Int,(wrap64 ((l0.length:Int) - 1))=j_ :=⟨_,rfl⟩
     (rw [Q9] at H)
     have aFc:(IntKind.i64.wrap ((l0.length:Int) - 1))=ji9:=(fU _).trans Q9
     obtain ⟨c10,H⟩:=ld H
     have Bn:=decide_eq_true c10
     clear c10
     obtain ⟨c11,H⟩:=ld H
     have xN:=decide_eq_true c11
     clear c11
     obtain ⟨c12,H⟩:=agC H
     have CC:=beq_eq_false_iff_ne.mpr c12
     have abk:=bne_iff_ne.mpr c12
     obtain rfl:=Option.some.inj H
     have adz: 0≤((ji9):Int):=of_decide_eq_true cP
     have adA:(ji9) < (l0.length:Int):=of_decide_eq_true cP
     obtain ⟨aFd,aBl,arn⟩:=Kd.p4 nr.out (ji9) adz adA
     cases aBl
     replace adz:=eq_true adz
     replace adA:=eq_true adA
     go_wp2
     go_ret
     exact ⟨by rfl,jy⟩
 ·replace c4:=Bool.eq_false_iff.mpr c4
  subst c4
  rw [if_neg (show ¬ (false=true) by decide)] at H
  obtain rfl:=Option.some.inj H
  go_enter Tryz.func17,Tryz.ntmps17
  go_wp2_with (((with_reducible refine bq (f:=42) rfl ?_);refine cK (some 11) rfl rfl Tryz.func42 aR rfl #[.slice A0 l0.length c0,.int .i64 a1] rfl dc ?_;(with_reducible refine (dw.calls k _ _ l0 a1 false _ ?aX ?bF A3.out).mono ?_);(case aX=>repeat (exact nr.out));(case bF=>exact sU.out);rintro e w' ⟨rfl,⟨nd,rfl⟩⟩;refine ⟨_,rfl,?_⟩))
  go_ret
  exact ⟨by rfl,jy⟩
def dK.f (k:Nat) (l0:List Int) (a1:Int) (a2:Int):Option (Int):=(dw.f k l0 1).bind fun t281=>(if t281=true then (if a1 < 1 then (some 0) else ((fZ.f a2 0).bind fun t282=>(if t282=true then (if 0≤(wrap64 ((mn a1 (l0.length:Int)) - 1)) then (if (wrap64 ((mn a1 (l0.length:Int)) - 1)) < (l0.length:Int) then (some (mn (wrap64 (a2 + (rd l0 (wrap64 ((mn a1 (l0.length:Int)) - 1))))) 1099511627776)) else (none)) else (none)) else (some 0)))) else (some 0))
theorem dK.mono:∀ a0 a1 a2 k,gB (dK.f k a0 a1 a2) (dK.f (k + 1) a0 a1 a2):=by
 intro a0 a1 a2 k
 unfold dK.f
 repeat' (with_reducible first|exact dw.mono _ _ _|exact gB.refl _|refine gB.bind ?_ (fun _ =>?_))
theorem dK.calls (k:Nat) (A0:Option Addr) (c0:Nat) (l0:List Int) (a1:Int) (a2:Int) (r:Int) (w:World) (lN:Kd.C (Kd.int .i64) w A0 l0.length l0) (hc0:l0.length≤c0) (h:dK.f k l0 a1 a2=some r):
 Calls Tryz.prog 44 #[.slice A0 l0.length c0,.int .i64 a1,.int .i64 a2] w fun e w'=>e= .returned (.int .i64 r)∧Below w.heap.size w w':=by
 have nr:=ah.mk lN
 have sU:=ah.mk hc0
 clear lN hc0
 have HB:=ah.mk (Below.refl w.heap.size w)
 have H:((dw.f k l0 1).bind fun t281=>(if t281=true then (if a1 < 1 then (some 0) else ((fZ.f a2 0).bind fun t282=>(if t282=true then (if 0≤(wrap64 ((mn a1 (l0.length:Int)) - 1)) then (if (wrap64 ((mn a1 (l0.length:Int)) - 1)) < (l0.length:Int) then (some (mn (wrap64 (a2 + (rd l0 (wrap64 ((mn a1 (l0.length:Int)) - 1))))) 1099511627776)) else (none)) else (none)) else (some 0)))) else (some 0)))=some r:=h
 clear h
 obtain ⟨t281,A4,H⟩:=bd_ H
 by_cases c5:t281=true
 ·subst c5
  rw [if_pos rfl] at H
  by_cases c6:a1 < 1
  ·rw [if_pos c6] at H
   have Cm:=decide_eq_true c6
   clear c6
   obtain rfl:=Option.some.inj H
   go_enter Tryz.func44,Tryz.ntmps44
   go_wp2_with (((with_reducible refine bq (f:=42) rfl ?_);refine cK (some 8) rfl rfl Tryz.func42 aR rfl #[.slice A0 l0.length c0,.int .i64 1] rfl dc ?_;(with_reducible refine (dw.calls k _ _ l0 1 true _ ?aX ?bF A4.out).mono ?_);(case aX=>repeat (exact nr.out));(case bF=>exact sU.out);rintro e w' ⟨rfl,⟨nd,rfl⟩⟩;refine ⟨_,rfl,?_⟩))
   go_ret
   exact ⟨by rfl,dG⟩
  ·rw [if_neg c6] at H
   have Cm:=decide_eq_false c6
   clear c6
   obtain ⟨t282,A7,H⟩:=bd_ H
   by_cases c8:t282=true
   ·subst c8
    rw [if_pos rfl] at H
    obtain ⟨ji9,Q9⟩:∃ j_:Int,(mn a1 (l0.length:Int))=j_ :=⟨_,rfl⟩
    (rw [Q9] at H)
    have aFe:(if (l0.length:Int) < a1 then (l0.length:Int) else a1)=ji9:=Q9
    obtain ⟨JG,abl⟩:∃ j_:Int,(wrap64 ((ji9) - 1))=j_ :=⟨_,rfl⟩
    (rw [abl] at H)
    have aBm:(IntKind.i64.wrap ((ji9) - 1))=JG:=(fU _).trans abl
    obtain ⟨c11,H⟩:=ld H
    have xN:=decide_eq_true c11
    clear c11
    obtain ⟨c12,H⟩:=ld H
    have CC:=decide_eq_true c12
    clear c12
    obtain ⟨aBn,abm⟩:∃ j_:Int,(mn (wrap64 (a2 + (rd l0 (JG)))) 1099511627776)=j_ :=⟨_,rfl⟩
    (rw [abm] at H)
    have aBo:(if 1099511627776 < (wrap64 (a2 + (rd l0 (JG)))) then 1099511627776 else (wrap64 (a2 + (rd l0 (JG)))))=aBn:=abm
    obtain rfl:=Option.some.inj H
    go_enter Tryz.func44,Tryz.ntmps44
    go_wp2_with (first|((with_reducible refine bq (f:=42) rfl ?_);refine cK (some 8) rfl rfl Tryz.func42 aR rfl #[.slice A0 l0.length c0,.int .i64 1] rfl dc ?_;(with_reducible refine (dw.calls k _ _ l0 1 true _ ?aX ?bF A4.out).mono ?_);(case aX=>repeat (exact nr.out));(case bF=>exact sU.out);rintro e w' ⟨rfl,⟨nd,rfl⟩⟩;refine ⟨_,rfl,?_⟩)|(go_at_call 60;(with_reducible refine (fZ.calls a2 0 true _ A7.out).mono ?_);rintro e w' ⟨rfl,⟨nd,rfl⟩⟩;have adB: 0≤((JG):Int):=of_decide_eq_true cP;have adC:(JG) < (l0.length:Int):=of_decide_eq_true cP;obtain ⟨aFf,aBp,aro⟩:=Kd.p4 nr.out (JG) adB adC;cases aBp;replace adB:=eq_true adB;replace adC:=eq_true adC))
    go_ret
    exact ⟨by rfl,dG⟩
   ·replace c8:=Bool.eq_false_iff.mpr c8
    subst c8
    rw [if_neg (show ¬ (false=true) by decide)] at H
    obtain rfl:=Option.some.inj H
    go_enter Tryz.func44,Tryz.ntmps44
    go_wp2_with (first|((with_reducible refine bq (f:=42) rfl ?_);refine cK (some 8) rfl rfl Tryz.func42 aR rfl #[.slice A0 l0.length c0,.int .i64 1] rfl dc ?_;(with_reducible refine (dw.calls k _ _ l0 1 true _ ?aX ?bF A4.out).mono ?_);(case aX=>repeat (exact nr.out));(case bF=>exact sU.out);rintro e w' ⟨rfl,⟨nd,rfl⟩⟩;refine ⟨_,rfl,?_⟩)|(go_at_call 60;(with_reducible refine (fZ.calls a2 0 false _ A7.out).mono ?_);rintro e w' ⟨rfl,⟨nd,rfl⟩⟩))
    go_ret
    exact ⟨by rfl,dG⟩
 ·replace c5:=Bool.eq_false_iff.mpr c5
  subst c5
  rw [if_neg (show ¬ (false=true) by decide)] at H
  obtain rfl:=Option.some.inj H
  go_enter Tryz.func44,Tryz.ntmps44
  go_wp2_with (((with_reducible refine bq (f:=42) rfl ?_);refine cK (some 8) rfl rfl Tryz.func42 aR rfl #[.slice A0 l0.length c0,.int .i64 1] rfl dc ?_;(with_reducible refine (dw.calls k _ _ l0 1 false _ ?aX ?bF A4.out).mono ?_);(case aX=>repeat (exact nr.out));(case bF=>exact sU.out);rintro e w' ⟨rfl,⟨nd,rfl⟩⟩;refine ⟨_,rfl,?_⟩))
  go_ret
  exact ⟨by rfl,dG⟩
end Go.Proofs.YtbjjaaodfbjkfaaGreatDoor.qb
