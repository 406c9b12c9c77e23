import Derived.Test.YtokpnfljjjjikaaGreatDoorZo
import Derived.Test.YtokpnfljjjjikaaGreatDoorQCbx0
import Derived.Test.YtokpnfljjjjikaaGreatDoorQCbx1
import Derived.Test.YtokpnfljjjjikaaGreatDoorQCbx15
import Derived.Test.YtokpnfljjjjikaaGreatDoorQCbx16
import Derived.Test.YtokpnfljjjjikaaGreatDoorEParse
namespace Go.Proofs.YtokpnfljjjjikaaGreatDoor.nX
open Go.RowKit Go.Proofs.aj.bW Go.Proofs.aj.fW Go.Proofs.aj.dz
attribute [local go_sem] jg jh kO kP iK iL ji jk
set_option linter.unusedVariables false
set_option linter.unusedSimpArgs false
attribute [local go_sem high] UU
def aW.l0:Nat→List (gP)→Int→Int→Option (Int)
 | 0,_,_,_ =>none
 |k + 1,x0,x7,x8=>if x8 < x7 then (if 0≤x8 then (if x8 < (x0.length:Int) then ((jq.f k ((dN x0 x8).f0) ((dN x0 x8).f1) ((dN x0 x8).f2)).bind fun ZA=>(if ZA=true then (some x8) else (aW.l0 k x0 x7 (wrap64 (x8 + 1))))) else (none)) else (none)) else (some (-1))
def aW.f (k:Nat) (l0:List (gP)):Option (Int):=aW.l0 k l0 (l0.length:Int) 0
set_option maxHeartbeats 8000000 in
set_option maxRecDepth 100000 in
theorem aW.calls (k:Nat) (A0:Option Addr) (c0:Nat) (l0:List (gP)) (r:Int) (w:World) (zk:Kd.C zF w A0 l0.length l0) (hc0:l0.length≤c0) (h:aW.f k l0=some r):
 Calls Tryz.prog 175 #[.slice A0 l0.length c0,.func (.func 137) #[] #[]] w fun e w'=>e= .returned (.int .i64 r)∧Below w.heap.size w w':=by
 have U0:=Tryz.underlying58
 have xO:=ah.mk zk
 have P9:=ah.mk hc0
 clear zk hc0
 have HB:=ah.mk (Below.refl w.heap.size w)
 have H:(aW.l0 k l0 (l0.length:Int) 0)=some r:=h
 clear h
 have H':=ah.mk H
 clear H
 go_enter Tryz.func175,Tryz.ntmps175
 go_wp2
 go_loopg [8] k (fun kq v8 w'=>∃ (eV:Int),v8= .int .i64 eV∧ah (aW.l0 kq l0 (l0.length:Int) eV=some r)∧ah (kq≤k)∧ah (Below w.heap.size w w'))
 case atStart=>exact ⟨(0),ey,H',⟨Nat.le_refl _⟩,⟨cw⟩⟩
 case round=>
  clear H'
  try clear c1
  try clear p2
  obtain ⟨eV,rfl,HA,uC,HB⟩:=hrel
  cases gk with
  |zero=>exact absurd HA.out (by simp [aW.l0])
  |succ k1=>
   have H:=HA.out
   clear HA
   simp only [aW.l0] at H
   by_cases c3:eV < (l0.length:Int)
   ·rw [if_pos c3] at H
    have qm:decide (eV < (l0.length:Int))=true:=decide_eq_true c3
    clear c3
    by_cases c4: 0≤eV
    ·rw [if_pos c4] at H
     have oL:decide (0≤eV)=true:=decide_eq_true c4
     clear c4
     by_cases c5:eV < (l0.length:Int)
     ·rw [if_pos c5] at H
      have tR:decide (eV < (l0.length:Int))=true:=decide_eq_true c5
      clear c5
      replace H:=Option.bind_eq_some_iff.mp H
      obtain ⟨ZA,wR,H⟩:=H
      replace H:(if ZA=true then (some eV) else (aW.l0 k1 l0 (l0.length:Int) (wrap64 (eV + 1))))=some r:=H
      have A6:=ah.mk wR
      clear wR
      by_cases c7:ZA=true
      ·subst c7
       have H1:(some eV)=some r:=by rw [if_pos rfl] at H;exact H
       clear H
       have H:=H1
       clear H1
       obtain rfl:=Option.some.inj H
       have O1: 0≤(eV:Int):=of_decide_eq_true cX
       have O2:eV < (l0.length:Int):=of_decide_eq_true cX
       obtain ⟨afA,acZ,vW,vX,vY⟩:=wN xO.out eV O1 O2
       cases acZ
       replace vW:=(HB.out.cell (World.block_lt_of_cell? w _ vW)).trans vW
       replace vX:=(HB.out.cell (World.block_lt_of_cell? w _ vX)).trans vX
       replace vY:=(HB.out.cell (World.block_lt_of_cell? w _ vY)).trans vY
       replace O1:=eq_true O1
       replace O2:=eq_true O2
       go_wp2_with (first|(go_at_call 137;(with_reducible refine (jq.calls k1 ((dN l0 eV).f0) ((dN l0 eV).f1) ((dN l0 eV).f2) true _ A6.out).mono ?_);rintro e w8 ⟨rfl,hb⟩;have bD:=ah.mk (ay cw hb);clear HB;have HB:=bD;clear bD;(try clear hb);(try clear hb2);(try clear hk);(try clear hi)))
       go_ret
       exact ⟨cZ,cw⟩
      ·replace c7:=Bool.eq_false_iff.mpr c7
       subst c7
       have H1:(aW.l0 k1 l0 (l0.length:Int) (wrap64 (eV + 1)))=some r:=by rw [if_neg (show ¬ (false=true) by decide)] at H;exact H
       clear H
       have H:=H1
       clear H1
       have H':=ah.mk H
       clear H
       have O1: 0≤(eV:Int):=of_decide_eq_true cX
       have O2:eV < (l0.length:Int):=of_decide_eq_true cX
       obtain ⟨afA,acZ,vW,vX,vY⟩:=wN xO.out eV O1 O2
       cases acZ
       replace vW:=(HB.out.cell (World.block_lt_of_cell? w _ vW)).trans vW
       replace vX:=(HB.out.cell (World.block_lt_of_cell? w _ vX)).trans vX
       replace vY:=(HB.out.cell (World.block_lt_of_cell? w _ vY)).trans vY
       replace O1:=eq_true O1
       replace O2:=eq_true O2
       go_wp2_with (first|(go_at_call 137;(with_reducible refine (jq.calls k1 ((dN l0 eV).f0) ((dN l0 eV).f1) ((dN l0 eV).f2) false _ A6.out).mono ?_);rintro e w9 ⟨rfl,hb⟩;have bD:=ah.mk (ay cw hb);clear HB;have HB:=bD;clear bD;(try clear hb);(try clear hb2);(try clear hk);(try clear hi)))
       go_roundg k1
       case measure=>have:=uC.out;omega
       case rel=>exact ⟨(wrap64 (eV + 1)),ey,H',⟨j6⟩,⟨cw⟩⟩
     ·rw [if_neg c5] at H
      exact absurd H bn
    ·rw [if_neg c4] at H
     exact absurd H bn
   ·rw [if_neg c3] at H
    have qm:decide (eV < (l0.length:Int))=false:=decide_eq_false c3
    clear c3
    obtain rfl:=Option.some.inj H
    go_wp2
    go_ret
    exact ⟨cZ,cw⟩
def bK.f (k:Nat) (l0:List (gP)):Option (Bool):=(aW.f k l0).bind fun Th=>(some (decide (Th≥0)))
set_option maxHeartbeats 8000000 in
set_option maxRecDepth 100000 in
theorem bK.calls (k:Nat) (A0:Option Addr) (c0:Nat) (l0:List (gP)) (r:Bool) (w:World) (zk:Kd.C zF w A0 l0.length l0) (hc0:l0.length≤c0) (h:bK.f k l0=some r):
 Calls Tryz.prog 136 #[.slice A0 l0.length c0,.func (.func 137) #[] #[]] w fun e w'=>e= .returned (.bool r)∧Below w.heap.size w w':=by
 have xO:=ah.mk zk
 have P9:=ah.mk hc0
 clear zk hc0
 have HB:=ah.mk (Below.refl w.heap.size w)
 have H:((aW.f k l0).bind fun Th=>(some (decide (Th≥0))))=some r:=h
 clear h
 replace H:=Option.bind_eq_some_iff.mp H
 obtain ⟨Th,wQ,H⟩:=H
 replace H:(some (decide (Th≥0)))=some r:=H
 have A3:=ah.mk wQ
 clear wQ
 obtain rfl:=Option.some.inj H
 go_enter Tryz.func136,Tryz.ntmps136
 go_wp2_with (first|((with_reducible refine aN (f:=175) rfl ?_);refine cr (some 7) rfl rfl Tryz.func175 au rfl #[.slice A0 l0.length c0,.func (.func 137) #[] #[]] rfl cV ?_;(with_reducible refine (aW.calls k _ _ l0 Th _ ?aX ?bS A3.out).mono ?_);(case aX=>repeat (first|exact xO.out|(with_reducible refine Kd.cK ?_ _)|(with_reducible refine Kd.cL ?_ _)|(with_reducible refine Kd.dG ?_)));(case bS=>exact P9.out);rintro e w4 ⟨rfl,hb⟩;refine ⟨_,rfl,?_⟩;have bD:=ah.mk (ay cw hb);clear HB;have HB:=bD;clear bD;(try clear hb);(try clear hb2);(try clear hk);(try clear hi)))
 go_ret
 exact ⟨cZ,cw⟩
def fG.f (k:Nat) (aK:Int) (bf:ByteArray) (bg:Bool) (bQ:List ByteArray) (bw:ByteArray) (bT:ByteArray) (bU:Bool) (bG:List (gP)):Option (Bool):=(ez.f aK).bind fun Ti=>(if Ti=true then (if bf.toList=([]:List UInt8) then ((fI.f k bg bQ bw bT bU).bind fun Gz=>(if Gz=true then ((bK.f k bG).bind fun Bj=>(some (!Bj))) else (some false))) else (some false)) else (if bg=true then (some false) else (if (bQ.length:Int)=0 then (if (bw.toList == ([]:List UInt8) && (bT.toList == ([]:List UInt8) && (!bU)))=true then (some ((bG.length:Int) == 0)) else (some false)) else (some false))))
set_option maxHeartbeats 8000000 in
set_option maxRecDepth 100000 in
theorem fG.calls (k:Nat) (aK:Int) (bf:ByteArray) (bg:Bool) (cO:Option Addr) (cP:Nat) (bQ:List ByteArray) (bw:ByteArray) (bT:ByteArray) (bU:Bool) (cS:Option Addr) (cQ:Nat) (bG:List (gP)) (r:Bool) (w:World) (qJ:Kd.C Kd.string w cO bQ.length bQ) (qK:bQ.length≤cP) (qM:Kd.C zF w cS bG.length bG) (qN:bG.length≤cQ) (hG:aT w) (h:fG.f k aK bf bg bQ bw bT bU bG=some r):
 Calls Tryz.prog 90 #[.agg #[.int .u8 aK,.string bf,.bool bg,.slice cO bQ.length cP,.string bw,.string bT,.bool bU,.slice cS bG.length cQ]] w fun e w'=>e= .returned (.bool r)∧Below w.heap.size w w':=by
 have LP:=Tryz.underlying35
 have Oi:=Tryz.underlying32
 have LI:=Tryz.underlying30
 have iF:=ah.mk qJ
 have iG:=ah.mk qK
 clear qJ qK
 have iV:=ah.mk qM
 have jw:=ah.mk qN
 clear qM qN
 have HB:=ah.mk (Below.refl w.heap.size w)
 have HG:=ah.mk hG
 clear hG
 have H:((ez.f aK).bind fun Ti=>(if Ti=true then (if bf.toList=([]:List UInt8) then ((fI.f k bg bQ bw bT bU).bind fun Gz=>(if Gz=true then ((bK.f k bG).bind fun Bj=>(some (!Bj))) else (some false))) else (some false)) else (if bg=true then (some false) else (if (bQ.length:Int)=0 then (if (bw.toList == ([]:List UInt8) && (bT.toList == ([]:List UInt8) && (!bU)))=true then (some ((bG.length:Int) == 0)) else (some false)) else (some false)))))=some r:=h
 clear h
 replace H:=Option.bind_eq_some_iff.mp H
 obtain ⟨Ti,nK,H⟩:=H
 replace H:(if Ti=true then (if bf.toList=([]:List UInt8) then ((fI.f k bg bQ bw bT bU).bind fun Gz=>(if Gz=true then ((bK.f k bG).bind fun Bj=>(some (!Bj))) else (some false))) else (some false)) else (if bg=true then (some false) else (if (bQ.length:Int)=0 then (if (bw.toList == ([]:List UInt8) && (bT.toList == ([]:List UInt8) && (!bU)))=true then (some ((bG.length:Int) == 0)) else (some false)) else (some false))))=some r:=H
 have A2:=ah.mk nK
 clear nK
 by_cases c3:Ti=true
 ·subst c3
  have H1:(if bf.toList=([]:List UInt8) then ((fI.f k bg bQ bw bT bU).bind fun Gz=>(if Gz=true then ((bK.f k bG).bind fun Bj=>(some (!Bj))) else (some false))) else (some false))=some r:=by rw [if_pos rfl] at H;exact H
  clear H
  have H:=H1
  clear H1
  by_cases c4:bf.toList=([]:List UInt8)
  ·rw [if_pos c4] at H
   have oL:(bf.toList == ([]:List UInt8))=true:=beq_iff_eq.mpr c4
   have Gn:(bf.toList != ([]:List UInt8))=false:=bne_eq_false_iff_eq.mpr c4
   clear c4
   replace H:=Option.bind_eq_some_iff.mp H
   obtain ⟨Gz,LZ,H⟩:=H
   replace H:(if Gz=true then ((bK.f k bG).bind fun Bj=>(some (!Bj))) else (some false))=some r:=H
   have A5:=ah.mk LZ
   clear LZ
   by_cases c6:Gz=true
   ·subst c6
    have H1:((bK.f k bG).bind fun Bj=>(some (!Bj)))=some r:=by rw [if_pos rfl] at H;exact H
    clear H
    have H:=H1
    clear H1
    replace H:=Option.bind_eq_some_iff.mp H
    obtain ⟨Bj,GW,H⟩:=H
    replace H:(some (!Bj))=some r:=H
    have A7:=ah.mk GW
    clear GW
    obtain rfl:=Option.some.inj H
    go_enter Tryz.func90,Tryz.ntmps90
    go_wp2_with (first|((with_reducible refine cG (N:=1) rfl ?_);(try (refine dg (by rfl) ?_;dsimp only));refine cj ?hg (N:=1) ?hd (cs:=#[.int .u8 aK,.string bf,.bool bg,.slice cO bQ.length cP,.string bw,.string bT,.bool bU,.slice cS bG.length cQ]) (t:=35) ?hr ?_;(case hd=>rfl);(case hg=>rfl);(case hr=>first|(go_simp;done)|(go_simp;rfl));intro eK hg w8 cJ hb;have bD:=ah.mk (ay cw hb);have bN:=ah.mk (cJ);have cz:=ah.mk ((dK:w.heap.size≤eK));have cY:=ah.mk ((dK:w.heap.size≤eK));clear HB;have HB:=bD;have cU:=bN;have G5:=cz;have EI:=cY;clear bD bN cz cY;clear hb cJ hg;have qp:w8.cell? ⟨eK,0,none⟩=some (.int .u8 aK):=(af cU.out 0).trans rfl;have qq:w8.cell? ⟨eK,1,none⟩=some (.string bf):=(af cU.out 1).trans rfl;have wY:w8.cell? ⟨eK,2,none⟩=some (.bool bg):=(af cU.out 2).trans rfl;have zm:w8.cell? ⟨eK,3,none⟩=some (.slice cO bQ.length cP):=(af cU.out 3).trans rfl;have zn:w8.cell? ⟨eK,4,none⟩=some (.string bw):=(af cU.out 4).trans rfl;have KM:w8.cell? ⟨eK,5,none⟩=some (.string bT):=(af cU.out 5).trans rfl;have KN:w8.cell? ⟨eK,6,none⟩=some (.bool bU):=(af cU.out 6).trans rfl;have KO:w8.cell? ⟨eK,7,none⟩=some (.slice cS bG.length cQ):=(af cU.out 7).trans rfl;have qu:=aa cU.out 0;have qw:=aa cU.out 1;have wZ:=aa cU.out 2;have zo:=aa cU.out 3;have zq:=aa cU.out 4;have KP:=aa cU.out 5;have KQ:=aa cU.out 6;have KR:=aa cU.out 7)|((with_reducible refine aN (f:=135) rfl ?_);refine cr (some 5) rfl rfl Tryz.func135 au rfl #[.int .u8 aK] rfl cV ?_;(with_reducible refine (ez.calls aK true _ A2.out).mono ?_);rintro e w' ⟨rfl,⟨nd,rfl⟩⟩;refine ⟨_,rfl,?_⟩)|(go_at_call 20;(with_reducible refine (fI.calls k bg _ _ bQ bw bT bU true _ ?aX ?bS ?dH A5.out).mono ?_);(case aX=>repeat (first|exact (Kd.cI iF.out pI)|(with_reducible refine Kd.cK ?_ _)|(with_reducible refine Kd.cL ?_ _)|(with_reducible refine Kd.dG ?_)));(case bS=>exact iG.out);(case dH=>exact aT.below HG.out pI);rintro e sV ⟨rfl,hb⟩;have bD:=ah.mk (aJ (g:=eK) (o:= .cells #[.int .u8 aK,.string bf,.bool bg,.slice cO bQ.length cP,.string bw,.string bT,.bool bU,.slice cS bG.length cQ] 35 (0,0)) Io hb);have bN:=ah.mk (ay pI hb);clear cU;clear HB;have cU:=bD;have HB:=bN;clear bD bN;(try clear hb);(try clear hb2);(try clear hk);(try clear hi);have sX:sV.cell? ⟨eK,0,none⟩=some (.int .u8 aK):=(af cU.out 0).trans rfl;have sY:sV.cell? ⟨eK,1,none⟩=some (.string bf):=(af cU.out 1).trans rfl;have sZ:sV.cell? ⟨eK,2,none⟩=some (.bool bg):=(af cU.out 2).trans rfl;have xS:sV.cell? ⟨eK,3,none⟩=some (.slice cO bQ.length cP):=(af cU.out 3).trans rfl;have xU:sV.cell? ⟨eK,4,none⟩=some (.string bw):=(af cU.out 4).trans rfl;have Aa:sV.cell? ⟨eK,5,none⟩=some (.string bT):=(af cU.out 5).trans rfl;have Ac:sV.cell? ⟨eK,6,none⟩=some (.bool bU):=(af cU.out 6).trans rfl;have Ad:sV.cell? ⟨eK,7,none⟩=some (.slice cS bG.length cQ):=(af cU.out 7).trans rfl;have s7:=aa cU.out 0;have s8:=aa cU.out 1;have s9:=aa cU.out 2;have xV:=aa cU.out 3;have xW:=aa cU.out 4;have Ae:=aa cU.out 5;have Af:=aa cU.out 6;have Ag:=aa cU.out 7)|(go_at_call 136;(with_reducible refine (bK.calls k _ _ bG Bj _ ?aX ?bS A7.out).mono ?_);(case aX=>repeat (first|exact (Kd.cI iV.out HB.out)|(with_reducible refine Kd.cK ?_ _)|(with_reducible refine Kd.cL ?_ _)|(with_reducible refine Kd.dG ?_)));(case bS=>exact jw.out);rintro e SX ⟨rfl,hb⟩;have bD:=ah.mk (aJ (g:=eK) (o:= .cells #[.int .u8 aK,.string bf,.bool bg,.slice cO bQ.length cP,.string bw,.string bT,.bool bU,.slice cS bG.length cQ] 35 (0,0)) Io hb);have bN:=ah.mk (ay pI hb);clear cU;clear HB;have cU:=bD;have HB:=bN;clear bD bN;(try clear hb);(try clear hb2);(try clear hk);(try clear hi)))
    go_ret
    exact ⟨cZ,pI⟩
   ·replace c6:=Bool.eq_false_iff.mpr c6
    subst c6
    have H1:(some false)=some r:=by rw [if_neg (show ¬ (false=true) by decide)] at H;exact H
    clear H
    have H:=H1
    clear H1
    obtain rfl:=Option.some.inj H
    go_enter Tryz.func90,Tryz.ntmps90
    go_wp2_with (first|((with_reducible refine cG (N:=1) rfl ?_);(try (refine dg (by rfl) ?_;dsimp only));refine cj ?hg (N:=1) ?hd (cs:=#[.int .u8 aK,.string bf,.bool bg,.slice cO bQ.length cP,.string bw,.string bT,.bool bU,.slice cS bG.length cQ]) (t:=35) ?hr ?_;(case hd=>rfl);(case hg=>rfl);(case hr=>first|(go_simp;done)|(go_simp;rfl));intro eK hg nI cJ hb;have bD:=ah.mk (ay cw hb);have bN:=ah.mk (cJ);have cz:=ah.mk ((dK:w.heap.size≤eK));have cY:=ah.mk ((dK:w.heap.size≤eK));clear HB;have HB:=bD;have cU:=bN;have G5:=cz;have EI:=cY;clear bD bN cz cY;clear hb cJ hg;have td:nI.cell? ⟨eK,0,none⟩=some (.int .u8 aK):=(af cU.out 0).trans rfl;have tj:nI.cell? ⟨eK,1,none⟩=some (.string bf):=(af cU.out 1).trans rfl;have u7:nI.cell? ⟨eK,2,none⟩=some (.bool bg):=(af cU.out 2).trans rfl;have u9:nI.cell? ⟨eK,3,none⟩=some (.slice cO bQ.length cP):=(af cU.out 3).trans rfl;have vk:nI.cell? ⟨eK,4,none⟩=some (.string bw):=(af cU.out 4).trans rfl;have vo:nI.cell? ⟨eK,5,none⟩=some (.string bT):=(af cU.out 5).trans rfl;have vq:nI.cell? ⟨eK,6,none⟩=some (.bool bU):=(af cU.out 6).trans rfl;have vv:nI.cell? ⟨eK,7,none⟩=some (.slice cS bG.length cQ):=(af cU.out 7).trans rfl;have tq:=aa cU.out 0;have tu:=aa cU.out 1;have vw:=aa cU.out 2;have vA:=aa cU.out 3;have vB:=aa cU.out 4;have vC:=aa cU.out 5;have vD:=aa cU.out 6;have vE:=aa cU.out 7)|((with_reducible refine aN (f:=135) rfl ?_);refine cr (some 5) rfl rfl Tryz.func135 au rfl #[.int .u8 aK] rfl cV ?_;(with_reducible refine (ez.calls aK true _ A2.out).mono ?_);rintro e w' ⟨rfl,⟨nd,rfl⟩⟩;refine ⟨_,rfl,?_⟩)|(go_at_call 20;(with_reducible refine (fI.calls k bg _ _ bQ bw bT bU false _ ?aX ?bS ?dH A5.out).mono ?_);(case aX=>repeat (first|exact (Kd.cI iF.out pI)|(with_reducible refine Kd.cK ?_ _)|(with_reducible refine Kd.cL ?_ _)|(with_reducible refine Kd.dG ?_)));(case bS=>exact iG.out);(case dH=>exact aT.below HG.out pI);rintro e zV ⟨rfl,hb⟩;have bD:=ah.mk (aJ (g:=eK) (o:= .cells #[.int .u8 aK,.string bf,.bool bg,.slice cO bQ.length cP,.string bw,.string bT,.bool bU,.slice cS bG.length cQ] 35 (0,0)) Io hb);have bN:=ah.mk (ay pI hb);clear cU;clear HB;have cU:=bD;have HB:=bN;clear bD bN;(try clear hb);(try clear hb2);(try clear hk);(try clear hi)))
    go_ret
    exact ⟨cZ,pI⟩
  ·rw [if_neg c4] at H
   have oL:(bf.toList == ([]:List UInt8))=false:=beq_eq_false_iff_ne.mpr c4
   have Gn:(bf.toList != ([]:List UInt8))=true:=bne_iff_ne.mpr c4
   obtain rfl:=Option.some.inj H
   go_enter Tryz.func90,Tryz.ntmps90
   go_wp2_with (first|((with_reducible refine cG (N:=1) rfl ?_);(try (refine dg (by rfl) ?_;dsimp only));refine cj ?hg (N:=1) ?hd (cs:=#[.int .u8 aK,.string bf,.bool bg,.slice cO bQ.length cP,.string bw,.string bT,.bool bU,.slice cS bG.length cQ]) (t:=35) ?hr ?_;(case hd=>rfl);(case hg=>rfl);(case hr=>first|(go_simp;done)|(go_simp;rfl));intro eK hg w16 cJ hb;have bD:=ah.mk (ay cw hb);have bN:=ah.mk (cJ);have cz:=ah.mk ((dK:w.heap.size≤eK));have cY:=ah.mk ((dK:w.heap.size≤eK));clear HB;have HB:=bD;have cU:=bN;have G5:=cz;have EI:=cY;clear bD bN cz cY;clear hb cJ hg;have tv:w16.cell? ⟨eK,0,none⟩=some (.int .u8 aK):=(af cU.out 0).trans rfl;have tA:w16.cell? ⟨eK,1,none⟩=some (.string bf):=(af cU.out 1).trans rfl;have Ah:w16.cell? ⟨eK,2,none⟩=some (.bool bg):=(af cU.out 2).trans rfl;have Jg:w16.cell? ⟨eK,3,none⟩=some (.slice cO bQ.length cP):=(af cU.out 3).trans rfl;have Jh:w16.cell? ⟨eK,4,none⟩=some (.string bw):=(af cU.out 4).trans rfl;have Ji:w16.cell? ⟨eK,5,none⟩=some (.string bT):=(af cU.out 5).trans rfl;have Jj:w16.cell? ⟨eK,6,none⟩=some (.bool bU):=(af cU.out 6).trans rfl;have Jk:w16.cell? ⟨eK,7,none⟩=some (.slice cS bG.length cQ):=(af cU.out 7).trans rfl;have tB:=aa cU.out 0;have tC:=aa cU.out 1;have Ai:=aa cU.out 2;have Jl:=aa cU.out 3;have Jm:=aa cU.out 4;have Jn:=aa cU.out 5;have Jo:=aa cU.out 6;have Jp:=aa cU.out 7)|((with_reducible refine aN (f:=135) rfl ?_);refine cr (some 5) rfl rfl Tryz.func135 au rfl #[.int .u8 aK] rfl cV ?_;(with_reducible refine (ez.calls aK true _ A2.out).mono ?_);rintro e w' ⟨rfl,⟨nd,rfl⟩⟩;refine ⟨_,rfl,?_⟩))
   go_ret
   exact ⟨cZ,pI⟩
 ·replace c3:=Bool.eq_false_iff.mpr c3
  subst c3
  have H1:(if bg=true then (some false) else (if (bQ.length:Int)=0 then (if (bw.toList == ([]:List UInt8) && (bT.toList == ([]:List UInt8) && (!bU)))=true then (some ((bG.length:Int) == 0)) else (some false)) else (some false)))=some r:=by rw [if_neg (show ¬ (false=true) by decide)] at H;exact H
  clear H
  have H:=H1
  clear H1
  by_cases c18:bg=true
  ·subst c18
   have H1:(some false)=some r:=by rw [if_pos rfl] at H;exact H
   clear H
   have H:=H1
   clear H1
   obtain rfl:=Option.some.inj H
   go_enter Tryz.func90,Tryz.ntmps90
   go_wp2_with (first|((with_reducible refine cG (N:=1) rfl ?_);(try (refine dg (by rfl) ?_;dsimp only));refine cj ?hg (N:=1) ?hd (cs:=#[.int .u8 aK,.string bf,.bool true,.slice cO bQ.length cP,.string bw,.string bT,.bool bU,.slice cS bG.length cQ]) (t:=35) ?hr ?_;(case hd=>rfl);(case hg=>rfl);(case hr=>first|(go_simp;done)|(go_simp;rfl));intro eK hg LQ cJ hb;have bD:=ah.mk (ay cw hb);have bN:=ah.mk (cJ);have cz:=ah.mk ((dK:w.heap.size≤eK));have cY:=ah.mk ((dK:w.heap.size≤eK));clear HB;have HB:=bD;have cU:=bN;have G5:=cz;have EI:=cY;clear bD bN cz cY;clear hb cJ hg;have En:LQ.cell? ⟨eK,0,none⟩=some (.int .u8 aK):=(af cU.out 0).trans rfl;have Eo:LQ.cell? ⟨eK,1,none⟩=some (.string bf):=(af cU.out 1).trans rfl;have YV:LQ.cell? ⟨eK,2,none⟩=some (.bool true):=(af cU.out 2).trans rfl;have aiH:LQ.cell? ⟨eK,3,none⟩=some (.slice cO bQ.length cP):=(af cU.out 3).trans rfl;have aiI:LQ.cell? ⟨eK,4,none⟩=some (.string bw):=(af cU.out 4).trans rfl;have aiJ:LQ.cell? ⟨eK,5,none⟩=some (.string bT):=(af cU.out 5).trans rfl;have aiK:LQ.cell? ⟨eK,6,none⟩=some (.bool bU):=(af cU.out 6).trans rfl;have aiL:LQ.cell? ⟨eK,7,none⟩=some (.slice cS bG.length cQ):=(af cU.out 7).trans rfl;have Ep:=aa cU.out 0;have Er:=aa cU.out 1;have YW:=aa cU.out 2;have aiM:=aa cU.out 3;have aiN:=aa cU.out 4;have aiO:=aa cU.out 5;have aiP:=aa cU.out 6;have aiQ:=aa cU.out 7)|((with_reducible refine aN (f:=135) rfl ?_);refine cr (some 5) rfl rfl Tryz.func135 au rfl #[.int .u8 aK] rfl cV ?_;(with_reducible refine (ez.calls aK false _ A2.out).mono ?_);rintro e w' ⟨rfl,⟨nd,rfl⟩⟩;refine ⟨_,rfl,?_⟩))
   go_ret
   exact ⟨cZ,pI⟩
  ·replace c18:=Bool.eq_false_iff.mpr c18
   subst c18
   have H1:(if (bQ.length:Int)=0 then (if (bw.toList == ([]:List UInt8) && (bT.toList == ([]:List UInt8) && (!bU)))=true then (some ((bG.length:Int) == 0)) else (some false)) else (some false))=some r:=by rw [if_neg (show ¬ (false=true) by decide)] at H;exact H
   clear H
   have H:=H1
   clear H1
   by_cases c21:(bQ.length:Int)=0
   ·rw [if_pos c21] at H
    have Qm:((bQ.length:Int) == 0)=true:=beq_iff_eq.mpr c21
    have VV:((bQ.length:Int) != 0)=false:=bne_eq_false_iff_eq.mpr c21
    clear c21
    by_cases Gq:(bw.toList == ([]:List UInt8) && (bT.toList == ([]:List UInt8) && (!bU)))=true
    ·rw [if_pos Gq] at H
     have Qn:(bw.toList == ([]:List UInt8) && (bT.toList == ([]:List UInt8) && (!bU)))=true:=Gq
     have O3:∀ l:List UInt8,l.isEmpty=(l == []):=fun l=>by cases l<;>rfl
     have anW:(bw.toList.isEmpty && (bT.toList.isEmpty && (!bU)))=true:=by rw [O3,O3];exact Qn
     clear O3
     (try (have afB:decide (bw.toList=([]:List UInt8) && (bT.toList == ([]:List UInt8) && (!bU)))=true:=by simpa using Gq))
     (try (have afC:(bw.toList == ([]:List UInt8) && (bT.toList == ([]:List UInt8) && (!bU)))=true:=by simpa using Gq))
     clear Gq
     obtain rfl:=Option.some.inj H
     go_enter Tryz.func90,Tryz.ntmps90
     go_wp2_with (first|((with_reducible refine cG (N:=1) rfl ?_);(try (refine dg (by rfl) ?_;dsimp only));refine cj ?hg (N:=1) ?hd (cs:=#[.int .u8 aK,.string bf,.bool false,.slice cO bQ.length cP,.string bw,.string bT,.bool bU,.slice cS bG.length cQ]) (t:=35) ?hr ?_;(case hd=>rfl);(case hg=>rfl);(case hr=>first|(go_simp;done)|(go_simp;rfl));intro eK hg Mb cJ hb;have bD:=ah.mk (ay cw hb);have bN:=ah.mk (cJ);have cz:=ah.mk ((dK:w.heap.size≤eK));have cY:=ah.mk ((dK:w.heap.size≤eK));clear HB;have HB:=bD;have cU:=bN;have G5:=cz;have EI:=cY;clear bD bN cz cY;clear hb cJ hg;have yt:Mb.cell? ⟨eK,0,none⟩=some (.int .u8 aK):=(af cU.out 0).trans rfl;have yu:Mb.cell? ⟨eK,1,none⟩=some (.string bf):=(af cU.out 1).trans rfl;have JG:Mb.cell? ⟨eK,2,none⟩=some (.bool false):=(af cU.out 2).trans rfl;have JH:Mb.cell? ⟨eK,3,none⟩=some (.slice cO bQ.length cP):=(af cU.out 3).trans rfl;have JI:Mb.cell? ⟨eK,4,none⟩=some (.string bw):=(af cU.out 4).trans rfl;have JJ:Mb.cell? ⟨eK,5,none⟩=some (.string bT):=(af cU.out 5).trans rfl;have JK:Mb.cell? ⟨eK,6,none⟩=some (.bool bU):=(af cU.out 6).trans rfl;have JL:Mb.cell? ⟨eK,7,none⟩=some (.slice cS bG.length cQ):=(af cU.out 7).trans rfl;have yw:=aa cU.out 0;have yx:=aa cU.out 1;have JM:=aa cU.out 2;have JN:=aa cU.out 3;have JO:=aa cU.out 4;have JP:=aa cU.out 5;have JQ:=aa cU.out 6;have JR:=aa cU.out 7)|((with_reducible refine aN (f:=135) rfl ?_);refine cr (some 5) rfl rfl Tryz.func135 au rfl #[.int .u8 aK] rfl cV ?_;(with_reducible refine (ez.calls aK false _ A2.out).mono ?_);rintro e w' ⟨rfl,⟨nd,rfl⟩⟩;refine ⟨_,rfl,?_⟩))
     go_ret
     exact ⟨cZ,pI⟩
    ·rw [if_neg Gq] at H
     have Qn:(bw.toList == ([]:List UInt8) && (bT.toList == ([]:List UInt8) && (!bU)))=false:=by simpa using Gq
     have O3:∀ l:List UInt8,l.isEmpty=(l == []):=fun l=>by cases l<;>rfl
     have anW:(bw.toList.isEmpty && (bT.toList.isEmpty && (!bU)))=false:=by rw [O3,O3];exact Qn
     clear O3
     (try (have afB:decide (bw.toList=([]:List UInt8) && (bT.toList == ([]:List UInt8) && (!bU)))=false:=by simpa using Gq))
     (try (have afC:(bw.toList == ([]:List UInt8) && (bT.toList == ([]:List UInt8) && (!bU)))=false:=by simpa using Gq))
     (try (have aqe: ¬ (bw.toList=([]:List UInt8) && (bT.toList == ([]:List UInt8) && (!bU))):=by simpa using Gq))
     clear Gq
     obtain rfl:=Option.some.inj H
     go_enter Tryz.func90,Tryz.ntmps90
     go_wp2_with (first|((with_reducible refine cG (N:=1) rfl ?_);(try (refine dg (by rfl) ?_;dsimp only));refine cj ?hg (N:=1) ?hd (cs:=#[.int .u8 aK,.string bf,.bool false,.slice cO bQ.length cP,.string bw,.string bT,.bool bU,.slice cS bG.length cQ]) (t:=35) ?hr ?_;(case hd=>rfl);(case hg=>rfl);(case hr=>first|(go_simp;done)|(go_simp;rfl));intro eK hg TX cJ hb;have bD:=ah.mk (ay cw hb);have bN:=ah.mk (cJ);have cz:=ah.mk ((dK:w.heap.size≤eK));have cY:=ah.mk ((dK:w.heap.size≤eK));clear HB;have HB:=bD;have cU:=bN;have G5:=cz;have EI:=cY;clear bD bN cz cY;clear hb cJ hg;have DJ:TX.cell? ⟨eK,0,none⟩=some (.int .u8 aK):=(af cU.out 0).trans rfl;have DK:TX.cell? ⟨eK,1,none⟩=some (.string bf):=(af cU.out 1).trans rfl;have DL:TX.cell? ⟨eK,2,none⟩=some (.bool false):=(af cU.out 2).trans rfl;have Qo:TX.cell? ⟨eK,3,none⟩=some (.slice cO bQ.length cP):=(af cU.out 3).trans rfl;have Qp:TX.cell? ⟨eK,4,none⟩=some (.string bw):=(af cU.out 4).trans rfl;have ZB:TX.cell? ⟨eK,5,none⟩=some (.string bT):=(af cU.out 5).trans rfl;have ZC:TX.cell? ⟨eK,6,none⟩=some (.bool bU):=(af cU.out 6).trans rfl;have ZE:TX.cell? ⟨eK,7,none⟩=some (.slice cS bG.length cQ):=(af cU.out 7).trans rfl;have DM:=aa cU.out 0;have DN:=aa cU.out 1;have DR:=aa cU.out 2;have Qq:=aa cU.out 3;have Qr:=aa cU.out 4;have ZF:=aa cU.out 5;have ZG:=aa cU.out 6;have ZH:=aa cU.out 7)|((with_reducible refine aN (f:=135) rfl ?_);refine cr (some 5) rfl rfl Tryz.func135 au rfl #[.int .u8 aK] rfl cV ?_;(with_reducible refine (ez.calls aK false _ A2.out).mono ?_);rintro e w' ⟨rfl,⟨nd,rfl⟩⟩;refine ⟨_,rfl,?_⟩))
     go_ret
     exact ⟨cZ,pI⟩
   ·rw [if_neg c21] at H
    have Qm:((bQ.length:Int) == 0)=false:=beq_eq_false_iff_ne.mpr c21
    have VV:((bQ.length:Int) != 0)=true:=bne_iff_ne.mpr c21
    have Sc: ¬ (bQ= []):=fun h_ =>c21 (by rw [h_];rfl)
    obtain rfl:=Option.some.inj H
    go_enter Tryz.func90,Tryz.ntmps90
    go_wp2_with (first|((with_reducible refine cG (N:=1) rfl ?_);(try (refine dg (by rfl) ?_;dsimp only));refine cj ?hg (N:=1) ?hd (cs:=#[.int .u8 aK,.string bf,.bool false,.slice cO bQ.length cP,.string bw,.string bT,.bool bU,.slice cS bG.length cQ]) (t:=35) ?hr ?_;(case hd=>rfl);(case hg=>rfl);(case hr=>first|(go_simp;done)|(go_simp;rfl));intro eK hg JY cJ hb;have bD:=ah.mk (ay cw hb);have bN:=ah.mk (cJ);have cz:=ah.mk ((dK:w.heap.size≤eK));have cY:=ah.mk ((dK:w.heap.size≤eK));clear HB;have HB:=bD;have cU:=bN;have G5:=cz;have EI:=cY;clear bD bN cz cY;clear hb cJ hg;have Al:JY.cell? ⟨eK,0,none⟩=some (.int .u8 aK):=(af cU.out 0).trans rfl;have Am:JY.cell? ⟨eK,1,none⟩=some (.string bf):=(af cU.out 1).trans rfl;have Ao:JY.cell? ⟨eK,2,none⟩=some (.bool false):=(af cU.out 2).trans rfl;have Ed:JY.cell? ⟨eK,3,none⟩=some (.slice cO bQ.length cP):=(af cU.out 3).trans rfl;have Ee:JY.cell? ⟨eK,4,none⟩=some (.string bw):=(af cU.out 4).trans rfl;have Ef:JY.cell? ⟨eK,5,none⟩=some (.string bT):=(af cU.out 5).trans rfl;have Eg:JY.cell? ⟨eK,6,none⟩=some (.bool bU):=(af cU.out 6).trans rfl;have Eh:JY.cell? ⟨eK,7,none⟩=some (.slice cS bG.length cQ):=(af cU.out 7).trans rfl;have Ap:=aa cU.out 0;have Aq:=aa cU.out 1;have Ar:=aa cU.out 2;have Ei:=aa cU.out 3;have Ej:=aa cU.out 4;have Ek:=aa cU.out 5;have El:=aa cU.out 6;have Em:=aa cU.out 7)|((with_reducible refine aN (f:=135) rfl ?_);refine cr (some 5) rfl rfl Tryz.func135 au rfl #[.int .u8 aK] rfl cV ?_;(with_reducible refine (ez.calls aK false _ A2.out).mono ?_);rintro e w' ⟨rfl,⟨nd,rfl⟩⟩;refine ⟨_,rfl,?_⟩))
    go_ret
    exact ⟨cZ,pI⟩
def eU.f (k:Nat) (aK:Int) (bf:ByteArray) (bg:Bool) (bQ:List ByteArray) (bw:ByteArray) (bT:ByteArray) (bU:Bool) (bG:List (gP)):Option (Bool):=(fG.f k aK bf bg bQ bw bT bU bG).bind fun Tj=>(if Tj=true then ((bY.f k aK bf bg bQ bw bT bU bG).bind fun wE=>((ak.f k wE).bind fun pY=>(if pY.2.2.2.2.2.2.2.2=0 then (if pY.1=aK then (some (pY.2.1.toList == bf.toList)) else (some false)) else (some false)))) else (some false))
set_option maxHeartbeats 8000000 in
set_option maxRecDepth 100000 in
theorem eU.calls (k:Nat) (aK:Int) (bf:ByteArray) (bg:Bool) (cO:Option Addr) (cP:Nat) (bQ:List ByteArray) (bw:ByteArray) (bT:ByteArray) (bU:Bool) (cS:Option Addr) (cQ:Nat) (bG:List (gP)) (r:Bool) (w:World) (qJ:Kd.C Kd.string w cO bQ.length bQ) (qK:bQ.length≤cP) (qM:Kd.C zF w cS bG.length bG) (qN:bG.length≤cQ) (hG:aT w) (h:eU.f k aK bf bg bQ bw bT bU bG=some r):
 Calls Tryz.prog 34 #[.agg #[.int .u8 aK,.string bf,.bool bg,.slice cO bQ.length cP,.string bw,.string bT,.bool bU,.slice cS bG.length cQ]] w fun e w'=>e= .returned (.bool r)∧Below w.heap.size w w':=by
 have LP:=Tryz.underlying35
 have iF:=ah.mk qJ
 have iG:=ah.mk qK
 clear qJ qK
 have iV:=ah.mk qM
 have jw:=ah.mk qN
 clear qM qN
 have HB:=ah.mk (Below.refl w.heap.size w)
 have HG:=ah.mk hG
 clear hG
 have H:((fG.f k aK bf bg bQ bw bT bU bG).bind fun Tj=>(if Tj=true then ((bY.f k aK bf bg bQ bw bT bU bG).bind fun wE=>((ak.f k wE).bind fun pY=>(if pY.2.2.2.2.2.2.2.2=0 then (if pY.1=aK then (some (pY.2.1.toList == bf.toList)) else (some false)) else (some false)))) else (some false)))=some r:=h
 clear h
 replace H:=Option.bind_eq_some_iff.mp H
 obtain ⟨Tj,nK,H⟩:=H
 replace H:(if Tj=true then ((bY.f k aK bf bg bQ bw bT bU bG).bind fun wE=>((ak.f k wE).bind fun pY=>(if pY.2.2.2.2.2.2.2.2=0 then (if pY.1=aK then (some (pY.2.1.toList == bf.toList)) else (some false)) else (some false)))) else (some false))=some r:=H
 have A2:=ah.mk nK
 clear nK
 by_cases c3:Tj=true
 ·subst c3
  have H1:((bY.f k aK bf bg bQ bw bT bU bG).bind fun wE=>((ak.f k wE).bind fun pY=>(if pY.2.2.2.2.2.2.2.2=0 then (if pY.1=aK then (some (pY.2.1.toList == bf.toList)) else (some false)) else (some false))))=some r:=by rw [if_pos rfl] at H;exact H
  clear H
  have H:=H1
  clear H1
  replace H:=Option.bind_eq_some_iff.mp H
  obtain ⟨wE,Cr,H⟩:=H
  replace H:((ak.f k wE).bind fun pY=>(if pY.2.2.2.2.2.2.2.2=0 then (if pY.1=aK then (some (pY.2.1.toList == bf.toList)) else (some false)) else (some false)))=some r:=H
  have A4:=ah.mk Cr
  clear Cr
  replace H:=Option.bind_eq_some_iff.mp H
  obtain ⟨⟨KZ,ZI,ac0,ac1,ac2,ac3,ac4,ac5,K2⟩,LZ,H⟩:=H
  replace H:(if K2=0 then (if KZ=aK then (some (ZI.toList == bf.toList)) else (some false)) else (some false))=some r:=H
  have A5:=ah.mk LZ
  clear LZ
  by_cases c6:K2=0
  ·rw [if_pos c6] at H
   have pF:(K2 == 0)=true:=beq_iff_eq.mpr c6
   have zl:(K2 != 0)=false:=bne_eq_false_iff_eq.mpr c6
   clear c6
   by_cases c7:KZ=aK
   ·rw [if_pos c7] at H
    have Gm:(KZ == aK)=true:=beq_iff_eq.mpr c7
    have Oq:(KZ != aK)=false:=bne_eq_false_iff_eq.mpr c7
    clear c7
    obtain rfl:=Option.some.inj H
    go_enter Tryz.func34,Tryz.ntmps34
    go_wp2_with (first|((with_reducible refine cG (N:=1) rfl ?_);refine cj ?hg (N:=1) ?hd (cs:=#[.int .u8 aK,.string bf,.bool bg,.slice cO bQ.length cP,.string bw,.string bT,.bool bU,.slice cS bG.length cQ]) (t:=35) ?hr ?_;(case hd=>rfl);(case hg=>rfl);(case hr=>first|(go_simp;done)|(go_simp;rfl));intro dY hg w8 cJ hb;have bD:=ah.mk (ay cw hb);have bN:=ah.mk (cJ);have cz:=ah.mk ((dK:w.heap.size≤dY));have cY:=ah.mk ((dK:w.heap.size≤dY));clear HB;have HB:=bD;have cu:=bN;have V7:=cz;have GH:=cY;clear bD bN cz cY;clear hb cJ hg;have qp:w8.cell? ⟨dY,0,none⟩=some (.int .u8 aK):=(af cu.out 0).trans rfl;have qq:w8.cell? ⟨dY,1,none⟩=some (.string bf):=(af cu.out 1).trans rfl;have wY:w8.cell? ⟨dY,2,none⟩=some (.bool bg):=(af cu.out 2).trans rfl;have zm:w8.cell? ⟨dY,3,none⟩=some (.slice cO bQ.length cP):=(af cu.out 3).trans rfl;have zn:w8.cell? ⟨dY,4,none⟩=some (.string bw):=(af cu.out 4).trans rfl;have KM:w8.cell? ⟨dY,5,none⟩=some (.string bT):=(af cu.out 5).trans rfl;have KN:w8.cell? ⟨dY,6,none⟩=some (.bool bU):=(af cu.out 6).trans rfl;have KO:w8.cell? ⟨dY,7,none⟩=some (.slice cS bG.length cQ):=(af cu.out 7).trans rfl;have qu:=aa cu.out 0;have qw:=aa cu.out 1;have wZ:=aa cu.out 2;have zo:=aa cu.out 3;have zq:=aa cu.out 4;have KP:=aa cu.out 5;have KQ:=aa cu.out 6;have KR:=aa cu.out 7)|((with_reducible refine aN (f:=90) rfl ?_);refine cr (some 6) rfl rfl Tryz.func90 au rfl #[.agg #[.int .u8 aK,.string bf,.bool bg,.slice cO bQ.length cP,.string bw,.string bT,.bool bU,.slice cS bG.length cQ]] rfl cV ?_;(with_reducible refine (fG.calls k aK bf bg _ _ bQ bw bT bU _ _ bG true _ ?aX ?bS ?dH ?eI ?fC A2.out).mono ?_);(case aX=>repeat (first|exact (Kd.cI iF.out HB.out)|(with_reducible refine Kd.cK ?_ _)|(with_reducible refine Kd.cL ?_ _)|(with_reducible refine Kd.dG ?_)));(case bS=>exact iG.out);(case dH=>repeat (first|exact (Kd.cI iV.out HB.out)|(with_reducible refine Kd.cK ?_ _)|(with_reducible refine Kd.cL ?_ _)|(with_reducible refine Kd.dG ?_)));(case eI=>exact jw.out);(case fC=>exact aT.below HG.out lf);rintro e sV ⟨rfl,hb⟩;refine ⟨_,rfl,?_⟩;have bD:=ah.mk (aJ (g:=dY) (o:= .cells #[.int .u8 aK,.string bf,.bool bg,.slice cO bQ.length cP,.string bw,.string bT,.bool bU,.slice cS bG.length cQ] 35 (0,0)) qj hb);have bN:=ah.mk (ay lf hb);clear cu;clear HB;have cu:=bD;have HB:=bN;clear bD bN;(try clear hb);(try clear hb2);(try clear hk);(try clear hi);have sX:sV.cell? ⟨dY,0,none⟩=some (.int .u8 aK):=(af cu.out 0).trans rfl;have sY:sV.cell? ⟨dY,1,none⟩=some (.string bf):=(af cu.out 1).trans rfl;have sZ:sV.cell? ⟨dY,2,none⟩=some (.bool bg):=(af cu.out 2).trans rfl;have xS:sV.cell? ⟨dY,3,none⟩=some (.slice cO bQ.length cP):=(af cu.out 3).trans rfl;have xU:sV.cell? ⟨dY,4,none⟩=some (.string bw):=(af cu.out 4).trans rfl;have Aa:sV.cell? ⟨dY,5,none⟩=some (.string bT):=(af cu.out 5).trans rfl;have Ac:sV.cell? ⟨dY,6,none⟩=some (.bool bU):=(af cu.out 6).trans rfl;have Ad:sV.cell? ⟨dY,7,none⟩=some (.slice cS bG.length cQ):=(af cu.out 7).trans rfl;have s7:=aa cu.out 0;have s8:=aa cu.out 1;have s9:=aa cu.out 2;have xV:=aa cu.out 3;have xW:=aa cu.out 4;have Ae:=aa cu.out 5;have Af:=aa cu.out 6;have Ag:=aa cu.out 7)|((with_reducible refine aN (f:=89) rfl ?_);refine cr (some 10) rfl rfl Tryz.func89 au rfl #[.agg #[.int .u8 aK,.string bf,.bool bg,.slice cO bQ.length cP,.string bw,.string bT,.bool bU,.slice cS bG.length cQ]] rfl cV ?_;(with_reducible refine (bY.calls k aK bf bg _ _ bQ bw bT bU _ _ bG wE _ ?aX ?bS ?dH ?eI ?fC A4.out).mono ?_);(case aX=>repeat (first|exact (Kd.cI iF.out HB.out)|(with_reducible refine Kd.cK ?_ _)|(with_reducible refine Kd.cL ?_ _)|(with_reducible refine Kd.dG ?_)));(case bS=>exact iG.out);(case dH=>repeat (first|exact (Kd.cI iV.out HB.out)|(with_reducible refine Kd.cK ?_ _)|(with_reducible refine Kd.cL ?_ _)|(with_reducible refine Kd.dG ?_)));(case eI=>exact jw.out);(case fC=>exact aT.below HG.out lf);rintro e SX ⟨rfl,hb⟩;refine ⟨_,rfl,?_⟩;have bD:=ah.mk (aJ (g:=dY) (o:= .cells #[.int .u8 aK,.string bf,.bool bg,.slice cO bQ.length cP,.string bw,.string bT,.bool bU,.slice cS bG.length cQ] 35 (0,0)) qj hb);have bN:=ah.mk (ay lf hb);clear cu;clear HB;have cu:=bD;have HB:=bN;clear bD bN;(try clear hb);(try clear hb2);(try clear hk);(try clear hi))|((with_reducible refine aN (f:=35) rfl ?_);refine cr (some 11) rfl rfl Tryz.func35 au rfl #[.string wE] rfl cV ?_;(with_reducible refine (ak.calls k wE KZ ZI ac0 ac1 ac2 ac3 ac4 ac5 K2 _ ?aX A5.out).mono ?_);(case aX=>exact aT.below HG.out lf);rintro e nI ⟨afD,afE,rfl,ho0,pG,hb⟩;refine ⟨_,rfl,?_⟩;have bD:=ah.mk (Kd.gL ho0 (eu lf));have bN:=ah.mk (Kd.gL pG (eu lf));have cz:=ah.mk (aJ (g:=dY) (o:= .cells #[.int .u8 aK,.string bf,.bool bg,.slice cO bQ.length cP,.string bw,.string bT,.bool bU,.slice cS bG.length cQ] 35 (0,0)) qj hb);have cY:=ah.mk (ay lf hb);clear cu;clear HB;have wz:=bD;have wA:=bN;have cu:=cz;have HB:=cY;clear bD bN cz cY;(try clear hb);(try clear hb2);(try clear hk);(try clear hi);(try clear ho0);(try clear pG))|((with_reducible refine cG (N:=3) rfl ?_);refine cj ?hg (N:=3) ?hd (cs:=#[.int .u8 0,.string (⟨#[]⟩:ByteArray),.bool false,.slice none 0 0,.string (⟨#[]⟩:ByteArray),.string (⟨#[]⟩:ByteArray),.bool false,.slice none 0 0]) (t:=35) ?hr ?_;(case hd=>rfl);(case hg=>rfl);(case hr=>first|(go_simp;done)|(go_simp;rfl));intro jy hg GU cJ hb;have bD:=ah.mk (Kd.dL Ir hb);have bN:=ah.mk (Kd.dL Iu hb);have cz:=ah.mk (aJ (g:=dY) (o:= .cells #[.int .u8 aK,.string bf,.bool bg,.slice cO bQ.length cP,.string bw,.string bT,.bool bU,.slice cS bG.length cQ] 35 (0,0)) qj hb);have cY:=ah.mk (ay lf hb);have jv:=ah.mk (cJ);have om:=ah.mk ((BD:w.heap.size≤jy));have oZ:=ah.mk ((BD:w.heap.size≤jy));have xg:=ah.mk ((NQ:dY≠jy));have zb:=ah.mk ((NR:jy≠dY));clear wz;clear wA;clear cu;clear HB;have wz:=bD;have wA:=bN;have cu:=cz;have HB:=cY;have gX:=jv;have abd:=om;have Ux:=oZ;have uh:=xg;have uj:=zb;clear bD bN cz cY jv om oZ xg zb;clear hb cJ hg;have aeP:=uj.out;have aeQ:=uh.out;have ni:GU.cell? ⟨jy,0,none⟩=some (.int .u8 0):=(af gX.out 0).trans rfl;have nj:GU.cell? ⟨jy,1,none⟩=some (.string (⟨#[]⟩:ByteArray)):=(af gX.out 1).trans rfl;have pP:GU.cell? ⟨jy,2,none⟩=some (.bool false):=(af gX.out 2).trans rfl;have rI:GU.cell? ⟨jy,3,none⟩=some (.slice none 0 0):=(af gX.out 3).trans rfl;have rJ:GU.cell? ⟨jy,4,none⟩=some (.string (⟨#[]⟩:ByteArray)):=(af gX.out 4).trans rfl;have KS:GU.cell? ⟨jy,5,none⟩=some (.string (⟨#[]⟩:ByteArray)):=(af gX.out 5).trans rfl;have KU:GU.cell? ⟨jy,6,none⟩=some (.bool false):=(af gX.out 6).trans rfl;have KV:GU.cell? ⟨jy,7,none⟩=some (.slice none 0 0):=(af gX.out 7).trans rfl;have nk:=aa gX.out 0;have nr:=aa gX.out 1;have pQ:=aa gX.out 2;have rK:=aa gX.out 3;have rL:=aa gX.out 4;have KW:=aa gX.out 5;have KX:=aa gX.out 6;have KY:=aa gX.out 7;obtain ⟨p8,qa,ab5⟩:=Kd.eG wz.out;subst ab5;obtain ⟨arR,arS,anX⟩:=Kd.eG wA.out;subst anX;have Qc:GU.cell? ⟨dY,0,none⟩=some (.int .u8 aK):=(af cu.out 0).trans rfl;have Qd:GU.cell? ⟨dY,1,none⟩=some (.string bf):=(af cu.out 1).trans rfl;have Qe:GU.cell? ⟨dY,2,none⟩=some (.bool bg):=(af cu.out 2).trans rfl;have Qf:GU.cell? ⟨dY,3,none⟩=some (.slice cO bQ.length cP):=(af cu.out 3).trans rfl;have Qg:GU.cell? ⟨dY,4,none⟩=some (.string bw):=(af cu.out 4).trans rfl;have aiR:GU.cell? ⟨dY,5,none⟩=some (.string bT):=(af cu.out 5).trans rfl;have aiS:GU.cell? ⟨dY,6,none⟩=some (.bool bU):=(af cu.out 6).trans rfl;have aiT:GU.cell? ⟨dY,7,none⟩=some (.slice cS bG.length cQ):=(af cu.out 7).trans rfl;have Qh:=aa cu.out 0;have Qi:=aa cu.out 1;have Qj:=aa cu.out 2;have Qk:=aa cu.out 3;have Ql:=aa cu.out 4;have aiU:=aa cu.out 5;have aiV:=aa cu.out 6;have aiW:=aa cu.out 7))
    go_ret
    exact ⟨cZ,Il⟩
   ·rw [if_neg c7] at H
    have Gm:(KZ == aK)=false:=beq_eq_false_iff_ne.mpr c7
    have Oq:(KZ != aK)=true:=bne_iff_ne.mpr c7
    obtain rfl:=Option.some.inj H
    go_enter Tryz.func34,Tryz.ntmps34
    go_wp2_with (first|((with_reducible refine cG (N:=1) rfl ?_);refine cj ?hg (N:=1) ?hd (cs:=#[.int .u8 aK,.string bf,.bool bg,.slice cO bQ.length cP,.string bw,.string bT,.bool bU,.slice cS bG.length cQ]) (t:=35) ?hr ?_;(case hd=>rfl);(case hg=>rfl);(case hr=>first|(go_simp;done)|(go_simp;rfl));intro dY hg Nz cJ hb;have bD:=ah.mk (ay cw hb);have bN:=ah.mk (cJ);have cz:=ah.mk ((dK:w.heap.size≤dY));have cY:=ah.mk ((dK:w.heap.size≤dY));clear HB;have HB:=bD;have cu:=bN;have V7:=cz;have GH:=cY;clear bD bN cz cY;clear hb cJ hg;have xZ:Nz.cell? ⟨dY,0,none⟩=some (.int .u8 aK):=(af cu.out 0).trans rfl;have ya:Nz.cell? ⟨dY,1,none⟩=some (.string bf):=(af cu.out 1).trans rfl;have yc:Nz.cell? ⟨dY,2,none⟩=some (.bool bg):=(af cu.out 2).trans rfl;have D9:Nz.cell? ⟨dY,3,none⟩=some (.slice cO bQ.length cP):=(af cu.out 3).trans rfl;have Ea:Nz.cell? ⟨dY,4,none⟩=some (.string bw):=(af cu.out 4).trans rfl;have Jw:Nz.cell? ⟨dY,5,none⟩=some (.string bT):=(af cu.out 5).trans rfl;have Jx:Nz.cell? ⟨dY,6,none⟩=some (.bool bU):=(af cu.out 6).trans rfl;have Jy:Nz.cell? ⟨dY,7,none⟩=some (.slice cS bG.length cQ):=(af cu.out 7).trans rfl;have yf:=aa cu.out 0;have yg:=aa cu.out 1;have yh:=aa cu.out 2;have Eb:=aa cu.out 3;have Ec:=aa cu.out 4;have Jz:=aa cu.out 5;have JA:=aa cu.out 6;have JB:=aa cu.out 7)|((with_reducible refine aN (f:=90) rfl ?_);refine cr (some 6) rfl rfl Tryz.func90 au rfl #[.agg #[.int .u8 aK,.string bf,.bool bg,.slice cO bQ.length cP,.string bw,.string bT,.bool bU,.slice cS bG.length cQ]] rfl cV ?_;(with_reducible refine (fG.calls k aK bf bg _ _ bQ bw bT bU _ _ bG true _ ?aX ?bS ?dH ?eI ?fC A2.out).mono ?_);(case aX=>repeat (first|exact (Kd.cI iF.out HB.out)|(with_reducible refine Kd.cK ?_ _)|(with_reducible refine Kd.cL ?_ _)|(with_reducible refine Kd.dG ?_)));(case bS=>exact iG.out);(case dH=>repeat (first|exact (Kd.cI iV.out HB.out)|(with_reducible refine Kd.cK ?_ _)|(with_reducible refine Kd.cL ?_ _)|(with_reducible refine Kd.dG ?_)));(case eI=>exact jw.out);(case fC=>exact aT.below HG.out lf);rintro e Gf ⟨rfl,hb⟩;refine ⟨_,rfl,?_⟩;have bD:=ah.mk (aJ (g:=dY) (o:= .cells #[.int .u8 aK,.string bf,.bool bg,.slice cO bQ.length cP,.string bw,.string bT,.bool bU,.slice cS bG.length cQ] 35 (0,0)) qj hb);have bN:=ah.mk (ay lf hb);clear cu;clear HB;have cu:=bD;have HB:=bN;clear bD bN;(try clear hb);(try clear hb2);(try clear hk);(try clear hi);have AV:Gf.cell? ⟨dY,0,none⟩=some (.int .u8 aK):=(af cu.out 0).trans rfl;have AW:Gf.cell? ⟨dY,1,none⟩=some (.string bf):=(af cu.out 1).trans rfl;have AX:Gf.cell? ⟨dY,2,none⟩=some (.bool bg):=(af cu.out 2).trans rfl;have KD:Gf.cell? ⟨dY,3,none⟩=some (.slice cO bQ.length cP):=(af cu.out 3).trans rfl;have KE:Gf.cell? ⟨dY,4,none⟩=some (.string bw):=(af cu.out 4).trans rfl;have ZJ:Gf.cell? ⟨dY,5,none⟩=some (.string bT):=(af cu.out 5).trans rfl;have ZK:Gf.cell? ⟨dY,6,none⟩=some (.bool bU):=(af cu.out 6).trans rfl;have ZL:Gf.cell? ⟨dY,7,none⟩=some (.slice cS bG.length cQ):=(af cu.out 7).trans rfl;have AY:=aa cu.out 0;have AZ:=aa cu.out 1;have Ba:=aa cu.out 2;have KF:=aa cu.out 3;have KG:=aa cu.out 4;have ZM:=aa cu.out 5;have ZN:=aa cu.out 6;have ZO:=aa cu.out 7)|((with_reducible refine aN (f:=89) rfl ?_);refine cr (some 10) rfl rfl Tryz.func89 au rfl #[.agg #[.int .u8 aK,.string bf,.bool bg,.slice cO bQ.length cP,.string bw,.string bT,.bool bU,.slice cS bG.length cQ]] rfl cV ?_;(with_reducible refine (bY.calls k aK bf bg _ _ bQ bw bT bU _ _ bG wE _ ?aX ?bS ?dH ?eI ?fC A4.out).mono ?_);(case aX=>repeat (first|exact (Kd.cI iF.out HB.out)|(with_reducible refine Kd.cK ?_ _)|(with_reducible refine Kd.cL ?_ _)|(with_reducible refine Kd.dG ?_)));(case bS=>exact iG.out);(case dH=>repeat (first|exact (Kd.cI iV.out HB.out)|(with_reducible refine Kd.cK ?_ _)|(with_reducible refine Kd.cL ?_ _)|(with_reducible refine Kd.dG ?_)));(case eI=>exact jw.out);(case fC=>exact aT.below HG.out lf);rintro e KB ⟨rfl,hb⟩;refine ⟨_,rfl,?_⟩;have bD:=ah.mk (aJ (g:=dY) (o:= .cells #[.int .u8 aK,.string bf,.bool bg,.slice cO bQ.length cP,.string bw,.string bT,.bool bU,.slice cS bG.length cQ] 35 (0,0)) qj hb);have bN:=ah.mk (ay lf hb);clear cu;clear HB;have cu:=bD;have HB:=bN;clear bD bN;(try clear hb);(try clear hb2);(try clear hk);(try clear hi))|((with_reducible refine aN (f:=35) rfl ?_);refine cr (some 11) rfl rfl Tryz.func35 au rfl #[.string wE] rfl cV ?_;(with_reducible refine (ak.calls k wE KZ ZI ac0 ac1 ac2 ac3 ac4 ac5 K2 _ ?aX A5.out).mono ?_);(case aX=>exact aT.below HG.out lf);rintro e TX ⟨afD,afE,rfl,ho0,pG,hb⟩;refine ⟨_,rfl,?_⟩;have bD:=ah.mk (Kd.gL ho0 (eu lf));have bN:=ah.mk (Kd.gL pG (eu lf));have cz:=ah.mk (aJ (g:=dY) (o:= .cells #[.int .u8 aK,.string bf,.bool bg,.slice cO bQ.length cP,.string bw,.string bT,.bool bU,.slice cS bG.length cQ] 35 (0,0)) qj hb);have cY:=ah.mk (ay lf hb);clear cu;clear HB;have wz:=bD;have wA:=bN;have cu:=cz;have HB:=cY;clear bD bN cz cY;(try clear hb);(try clear hb2);(try clear hk);(try clear hi);(try clear ho0);(try clear pG))|((with_reducible refine cG (N:=3) rfl ?_);refine cj ?hg (N:=3) ?hd (cs:=#[.int .u8 0,.string (⟨#[]⟩:ByteArray),.bool false,.slice none 0 0,.string (⟨#[]⟩:ByteArray),.string (⟨#[]⟩:ByteArray),.bool false,.slice none 0 0]) (t:=35) ?hr ?_;(case hd=>rfl);(case hg=>rfl);(case hr=>first|(go_simp;done)|(go_simp;rfl));intro jy hg zG cJ hb;have bD:=ah.mk (Kd.dL Ir hb);have bN:=ah.mk (Kd.dL Iu hb);have cz:=ah.mk (aJ (g:=dY) (o:= .cells #[.int .u8 aK,.string bf,.bool bg,.slice cO bQ.length cP,.string bw,.string bT,.bool bU,.slice cS bG.length cQ] 35 (0,0)) qj hb);have cY:=ah.mk (ay lf hb);have jv:=ah.mk (cJ);have om:=ah.mk ((BD:w.heap.size≤jy));have oZ:=ah.mk ((BD:w.heap.size≤jy));have xg:=ah.mk ((NQ:dY≠jy));have zb:=ah.mk ((NR:jy≠dY));clear wz;clear wA;clear cu;clear HB;have wz:=bD;have wA:=bN;have cu:=cz;have HB:=cY;have gX:=jv;have abd:=om;have Ux:=oZ;have uh:=xg;have uj:=zb;clear bD bN cz cY jv om oZ xg zb;clear hb cJ hg;have aaF:=uj.out;have aaG:=uh.out;have Al:zG.cell? ⟨jy,0,none⟩=some (.int .u8 0):=(af gX.out 0).trans rfl;have Am:zG.cell? ⟨jy,1,none⟩=some (.string (⟨#[]⟩:ByteArray)):=(af gX.out 1).trans rfl;have Ao:zG.cell? ⟨jy,2,none⟩=some (.bool false):=(af gX.out 2).trans rfl;have Ed:zG.cell? ⟨jy,3,none⟩=some (.slice none 0 0):=(af gX.out 3).trans rfl;have Ee:zG.cell? ⟨jy,4,none⟩=some (.string (⟨#[]⟩:ByteArray)):=(af gX.out 4).trans rfl;have Ef:zG.cell? ⟨jy,5,none⟩=some (.string (⟨#[]⟩:ByteArray)):=(af gX.out 5).trans rfl;have Eg:zG.cell? ⟨jy,6,none⟩=some (.bool false):=(af gX.out 6).trans rfl;have Eh:zG.cell? ⟨jy,7,none⟩=some (.slice none 0 0):=(af gX.out 7).trans rfl;have Ap:=aa gX.out 0;have Aq:=aa gX.out 1;have Ar:=aa gX.out 2;have Ei:=aa gX.out 3;have Ej:=aa gX.out 4;have Ek:=aa gX.out 5;have El:=aa gX.out 6;have Em:=aa gX.out 7;obtain ⟨arT,arU,anY⟩:=Kd.eG wz.out;subst anY;obtain ⟨arV,arW,anZ⟩:=Kd.eG wA.out;subst anZ;have yD:zG.cell? ⟨dY,0,none⟩=some (.int .u8 aK):=(af cu.out 0).trans rfl;have yE:zG.cell? ⟨dY,1,none⟩=some (.string bf):=(af cu.out 1).trans rfl;have AR:zG.cell? ⟨dY,2,none⟩=some (.bool bg):=(af cu.out 2).trans rfl;have X5:zG.cell? ⟨dY,3,none⟩=some (.slice cO bQ.length cP):=(af cu.out 3).trans rfl;have X6:zG.cell? ⟨dY,4,none⟩=some (.string bw):=(af cu.out 4).trans rfl;have aiX:zG.cell? ⟨dY,5,none⟩=some (.string bT):=(af cu.out 5).trans rfl;have aiY:zG.cell? ⟨dY,6,none⟩=some (.bool bU):=(af cu.out 6).trans rfl;have aiZ:zG.cell? ⟨dY,7,none⟩=some (.slice cS bG.length cQ):=(af cu.out 7).trans rfl;have yF:=aa cu.out 0;have yG:=aa cu.out 1;have AU:=aa cu.out 2;have X7:=aa cu.out 3;have X8:=aa cu.out 4;have ai0:=aa cu.out 5;have ai1:=aa cu.out 6;have ai2:=aa cu.out 7))
    go_ret
    exact ⟨cZ,Il⟩
  ·rw [if_neg c6] at H
   have pF:(K2 == 0)=false:=beq_eq_false_iff_ne.mpr c6
   have zl:(K2 != 0)=true:=bne_iff_ne.mpr c6
   obtain rfl:=Option.some.inj H
   go_enter Tryz.func34,Tryz.ntmps34
   go_wp2_with (first|((with_reducible refine cG (N:=1) rfl ?_);refine cj ?hg (N:=1) ?hd (cs:=#[.int .u8 aK,.string bf,.bool bg,.slice cO bQ.length cP,.string bw,.string bT,.bool bU,.slice cS bG.length cQ]) (t:=35) ?hr ?_;(case hd=>rfl);(case hg=>rfl);(case hr=>first|(go_simp;done)|(go_simp;rfl));intro dY hg Fl cJ hb;have bD:=ah.mk (ay cw hb);have bN:=ah.mk (cJ);have cz:=ah.mk ((dK:w.heap.size≤dY));have cY:=ah.mk ((dK:w.heap.size≤dY));clear HB;have HB:=bD;have cu:=bN;have V7:=cz;have GH:=cY;clear bD bN cz cY;clear hb cJ hg;have Rg:Fl.cell? ⟨dY,0,none⟩=some (.int .u8 aK):=(af cu.out 0).trans rfl;have Rh:Fl.cell? ⟨dY,1,none⟩=some (.string bf):=(af cu.out 1).trans rfl;have X9:Fl.cell? ⟨dY,2,none⟩=some (.bool bg):=(af cu.out 2).trans rfl;have Ya:Fl.cell? ⟨dY,3,none⟩=some (.slice cO bQ.length cP):=(af cu.out 3).trans rfl;have Yb:Fl.cell? ⟨dY,4,none⟩=some (.string bw):=(af cu.out 4).trans rfl;have ai3:Fl.cell? ⟨dY,5,none⟩=some (.string bT):=(af cu.out 5).trans rfl;have ai4:Fl.cell? ⟨dY,6,none⟩=some (.bool bU):=(af cu.out 6).trans rfl;have ai5:Fl.cell? ⟨dY,7,none⟩=some (.slice cS bG.length cQ):=(af cu.out 7).trans rfl;have Ri:=aa cu.out 0;have Rj:=aa cu.out 1;have Yc:=aa cu.out 2;have Yd:=aa cu.out 3;have Ye:=aa cu.out 4;have ai6:=aa cu.out 5;have ai7:=aa cu.out 6;have ai8:=aa cu.out 7)|((with_reducible refine aN (f:=90) rfl ?_);refine cr (some 6) rfl rfl Tryz.func90 au rfl #[.agg #[.int .u8 aK,.string bf,.bool bg,.slice cO bQ.length cP,.string bw,.string bT,.bool bU,.slice cS bG.length cQ]] rfl cV ?_;(with_reducible refine (fG.calls k aK bf bg _ _ bQ bw bT bU _ _ bG true _ ?aX ?bS ?dH ?eI ?fC A2.out).mono ?_);(case aX=>repeat (first|exact (Kd.cI iF.out HB.out)|(with_reducible refine Kd.cK ?_ _)|(with_reducible refine Kd.cL ?_ _)|(with_reducible refine Kd.dG ?_)));(case bS=>exact iG.out);(case dH=>repeat (first|exact (Kd.cI iV.out HB.out)|(with_reducible refine Kd.cK ?_ _)|(with_reducible refine Kd.cL ?_ _)|(with_reducible refine Kd.dG ?_)));(case eI=>exact jw.out);(case fC=>exact aT.below HG.out lf);rintro e TZ ⟨rfl,hb⟩;refine ⟨_,rfl,?_⟩;have bD:=ah.mk (aJ (g:=dY) (o:= .cells #[.int .u8 aK,.string bf,.bool bg,.slice cO bQ.length cP,.string bw,.string bT,.bool bU,.slice cS bG.length cQ] 35 (0,0)) qj hb);have bN:=ah.mk (ay lf hb);clear cu;clear HB;have cu:=bD;have HB:=bN;clear bD bN;(try clear hb);(try clear hb2);(try clear hk);(try clear hi);have Au:TZ.cell? ⟨dY,0,none⟩=some (.int .u8 aK):=(af cu.out 0).trans rfl;have Av:TZ.cell? ⟨dY,1,none⟩=some (.string bf):=(af cu.out 1).trans rfl;have Aw:TZ.cell? ⟨dY,2,none⟩=some (.bool bg):=(af cu.out 2).trans rfl;have Q3:TZ.cell? ⟨dY,3,none⟩=some (.slice cO bQ.length cP):=(af cu.out 3).trans rfl;have Q4:TZ.cell? ⟨dY,4,none⟩=some (.string bw):=(af cu.out 4).trans rfl;have Xt:TZ.cell? ⟨dY,5,none⟩=some (.string bT):=(af cu.out 5).trans rfl;have Xu:TZ.cell? ⟨dY,6,none⟩=some (.bool bU):=(af cu.out 6).trans rfl;have Xv:TZ.cell? ⟨dY,7,none⟩=some (.slice cS bG.length cQ):=(af cu.out 7).trans rfl;have Ax:=aa cu.out 0;have Ay:=aa cu.out 1;have Az:=aa cu.out 2;have Q5:=aa cu.out 3;have Q6:=aa cu.out 4;have Xw:=aa cu.out 5;have Xx:=aa cu.out 6;have Xy:=aa cu.out 7)|((with_reducible refine aN (f:=89) rfl ?_);refine cr (some 10) rfl rfl Tryz.func89 au rfl #[.agg #[.int .u8 aK,.string bf,.bool bg,.slice cO bQ.length cP,.string bw,.string bT,.bool bU,.slice cS bG.length cQ]] rfl cV ?_;(with_reducible refine (bY.calls k aK bf bg _ _ bQ bw bT bU _ _ bG wE _ ?aX ?bS ?dH ?eI ?fC A4.out).mono ?_);(case aX=>repeat (first|exact (Kd.cI iF.out HB.out)|(with_reducible refine Kd.cK ?_ _)|(with_reducible refine Kd.cL ?_ _)|(with_reducible refine Kd.dG ?_)));(case bS=>exact iG.out);(case dH=>repeat (first|exact (Kd.cI iV.out HB.out)|(with_reducible refine Kd.cK ?_ _)|(with_reducible refine Kd.cL ?_ _)|(with_reducible refine Kd.dG ?_)));(case eI=>exact jw.out);(case fC=>exact aT.below HG.out lf);rintro e w36 ⟨rfl,hb⟩;refine ⟨_,rfl,?_⟩;have bD:=ah.mk (aJ (g:=dY) (o:= .cells #[.int .u8 aK,.string bf,.bool bg,.slice cO bQ.length cP,.string bw,.string bT,.bool bU,.slice cS bG.length cQ] 35 (0,0)) qj hb);have bN:=ah.mk (ay lf hb);clear cu;clear HB;have cu:=bD;have HB:=bN;clear bD bN;(try clear hb);(try clear hb2);(try clear hk);(try clear hi))|((with_reducible refine aN (f:=35) rfl ?_);refine cr (some 11) rfl rfl Tryz.func35 au rfl #[.string wE] rfl cV ?_;(with_reducible refine (ak.calls k wE KZ ZI ac0 ac1 ac2 ac3 ac4 ac5 K2 _ ?aX A5.out).mono ?_);(case aX=>exact aT.below HG.out lf);rintro e Fx ⟨afD,afE,rfl,ho0,pG,hb⟩;refine ⟨_,rfl,?_⟩;have bD:=ah.mk (Kd.gL ho0 (eu lf));have bN:=ah.mk (Kd.gL pG (eu lf));have cz:=ah.mk (aJ (g:=dY) (o:= .cells #[.int .u8 aK,.string bf,.bool bg,.slice cO bQ.length cP,.string bw,.string bT,.bool bU,.slice cS bG.length cQ] 35 (0,0)) qj hb);have cY:=ah.mk (ay lf hb);clear cu;clear HB;have wz:=bD;have wA:=bN;have cu:=cz;have HB:=cY;clear bD bN cz cY;(try clear hb);(try clear hb2);(try clear hk);(try clear hi);(try clear ho0);(try clear pG))|((with_reducible refine cG (N:=3) rfl ?_);refine cj ?hg (N:=3) ?hd (cs:=#[.int .u8 0,.string (⟨#[]⟩:ByteArray),.bool false,.slice none 0 0,.string (⟨#[]⟩:ByteArray),.string (⟨#[]⟩:ByteArray),.bool false,.slice none 0 0]) (t:=35) ?hr ?_;(case hd=>rfl);(case hg=>rfl);(case hr=>first|(go_simp;done)|(go_simp;rfl));intro jy hg TY cJ hb;have bD:=ah.mk (Kd.dL Ir hb);have bN:=ah.mk (Kd.dL Iu hb);have cz:=ah.mk (aJ (g:=dY) (o:= .cells #[.int .u8 aK,.string bf,.bool bg,.slice cO bQ.length cP,.string bw,.string bT,.bool bU,.slice cS bG.length cQ] 35 (0,0)) qj hb);have cY:=ah.mk (ay lf hb);have jv:=ah.mk (cJ);have om:=ah.mk ((BD:w.heap.size≤jy));have oZ:=ah.mk ((BD:w.heap.size≤jy));have xg:=ah.mk ((NQ:dY≠jy));have zb:=ah.mk ((NR:jy≠dY));clear wz;clear wA;clear cu;clear HB;have wz:=bD;have wA:=bN;have cu:=cz;have HB:=cY;have gX:=jv;have abd:=om;have Ux:=oZ;have uh:=xg;have uj:=zb;clear bD bN cz cY jv om oZ xg zb;clear hb cJ hg;have aeW:=uj.out;have aeX:=uh.out;have Rx:TY.cell? ⟨jy,0,none⟩=some (.int .u8 0):=(af gX.out 0).trans rfl;have Ry:TY.cell? ⟨jy,1,none⟩=some (.string (⟨#[]⟩:ByteArray)):=(af gX.out 1).trans rfl;have Rz:TY.cell? ⟨jy,2,none⟩=some (.bool false):=(af gX.out 2).trans rfl;have RA:TY.cell? ⟨jy,3,none⟩=some (.slice none 0 0):=(af gX.out 3).trans rfl;have RB:TY.cell? ⟨jy,4,none⟩=some (.string (⟨#[]⟩:ByteArray)):=(af gX.out 4).trans rfl;have Zn:TY.cell? ⟨jy,5,none⟩=some (.string (⟨#[]⟩:ByteArray)):=(af gX.out 5).trans rfl;have Zo:TY.cell? ⟨jy,6,none⟩=some (.bool false):=(af gX.out 6).trans rfl;have Zp:TY.cell? ⟨jy,7,none⟩=some (.slice none 0 0):=(af gX.out 7).trans rfl;have RD:=aa gX.out 0;have RF:=aa gX.out 1;have RG:=aa gX.out 2;have RH:=aa gX.out 3;have RI:=aa gX.out 4;have Zq:=aa gX.out 5;have Zr:=aa gX.out 6;have Zt:=aa gX.out 7;obtain ⟨Uj,SJ,ac6⟩:=Kd.eG wz.out;subst ac6;obtain ⟨arX,arY,an0⟩:=Kd.eG wA.out;subst an0))
   go_ret
   exact ⟨cZ,Il⟩
 ·replace c3:=Bool.eq_false_iff.mpr c3
  subst c3
  have H1:(some false)=some r:=by rw [if_neg (show ¬ (false=true) by decide)] at H;exact H
  clear H
  have H:=H1
  clear H1
  obtain rfl:=Option.some.inj H
  go_enter Tryz.func34,Tryz.ntmps34
  go_wp2_with (first|((with_reducible refine cG (N:=1) rfl ?_);refine cj ?hg (N:=1) ?hd (cs:=#[.int .u8 aK,.string bf,.bool bg,.slice cO bQ.length cP,.string bw,.string bT,.bool bU,.slice cS bG.length cQ]) (t:=35) ?hr ?_;(case hd=>rfl);(case hg=>rfl);(case hr=>first|(go_simp;done)|(go_simp;rfl));intro dY hg Fp cJ hb;have bD:=ah.mk (ay cw hb);have bN:=ah.mk (cJ);have cz:=ah.mk ((dK:w.heap.size≤dY));have cY:=ah.mk ((dK:w.heap.size≤dY));clear HB;have HB:=bD;have cu:=bN;have V7:=cz;have GH:=cY;clear bD bN cz cY;clear hb cJ hg;have ZP:Fp.cell? ⟨dY,0,none⟩=some (.int .u8 aK):=(af cu.out 0).trans rfl;have ZQ:Fp.cell? ⟨dY,1,none⟩=some (.string bf):=(af cu.out 1).trans rfl;have ZR:Fp.cell? ⟨dY,2,none⟩=some (.bool bg):=(af cu.out 2).trans rfl;have ZT:Fp.cell? ⟨dY,3,none⟩=some (.slice cO bQ.length cP):=(af cu.out 3).trans rfl;have ZU:Fp.cell? ⟨dY,4,none⟩=some (.string bw):=(af cu.out 4).trans rfl;have ZV:Fp.cell? ⟨dY,5,none⟩=some (.string bT):=(af cu.out 5).trans rfl;have ZW:Fp.cell? ⟨dY,6,none⟩=some (.bool bU):=(af cu.out 6).trans rfl;have ZX:Fp.cell? ⟨dY,7,none⟩=some (.slice cS bG.length cQ):=(af cu.out 7).trans rfl;have ZY:=aa cu.out 0;have ZZ:=aa cu.out 1;have Z0:=aa cu.out 2;have Z1:=aa cu.out 3;have Z2:=aa cu.out 4;have Z3:=aa cu.out 5;have Z4:=aa cu.out 6;have Z5:=aa cu.out 7)|((with_reducible refine aN (f:=90) rfl ?_);refine cr (some 6) rfl rfl Tryz.func90 au rfl #[.agg #[.int .u8 aK,.string bf,.bool bg,.slice cO bQ.length cP,.string bw,.string bT,.bool bU,.slice cS bG.length cQ]] rfl cV ?_;(with_reducible refine (fG.calls k aK bf bg _ _ bQ bw bT bU _ _ bG false _ ?aX ?bS ?dH ?eI ?fC A2.out).mono ?_);(case aX=>repeat (first|exact (Kd.cI iF.out HB.out)|(with_reducible refine Kd.cK ?_ _)|(with_reducible refine Kd.cL ?_ _)|(with_reducible refine Kd.dG ?_)));(case bS=>exact iG.out);(case dH=>repeat (first|exact (Kd.cI iV.out HB.out)|(with_reducible refine Kd.cK ?_ _)|(with_reducible refine Kd.cL ?_ _)|(with_reducible refine Kd.dG ?_)));(case eI=>exact jw.out);(case fC=>exact aT.below HG.out lf);rintro e w45 ⟨rfl,hb⟩;refine ⟨_,rfl,?_⟩;have bD:=ah.mk (aJ (g:=dY) (o:= .cells #[.int .u8 aK,.string bf,.bool bg,.slice cO bQ.length cP,.string bw,.string bT,.bool bU,.slice cS bG.length cQ] 35 (0,0)) qj hb);have bN:=ah.mk (ay lf hb);clear cu;clear HB;have cu:=bD;have HB:=bN;clear bD bN;(try clear hb);(try clear hb2);(try clear hk);(try clear hi)))
  go_ret
  exact ⟨cZ,lf⟩
def fT.f (k:Nat) (aK:Int) (bf:ByteArray) (bg:Bool) (bQ:List ByteArray) (bw:ByteArray) (bT:ByteArray) (bU:Bool) (bG:List (gP)):Option (ByteArray×Int):=(eU.f k aK bf bg bQ bw bT bU bG).bind fun Tk=>(if Tk=true then ((bY.f k aK bf bg bQ bw bT bU bG).bind fun GA=>(some (GA,0))) else (some ((⟨#[]⟩:ByteArray),2)))
set_option maxHeartbeats 8000000 in
set_option maxRecDepth 100000 in
theorem fT.calls (k:Nat) (aK:Int) (bf:ByteArray) (bg:Bool) (cO:Option Addr) (cP:Nat) (bQ:List ByteArray) (bw:ByteArray) (bT:ByteArray) (bU:Bool) (cS:Option Addr) (cQ:Nat) (bG:List (gP)) (r1:ByteArray) (r2:Int) (w:World) (qJ:Kd.C Kd.string w cO bQ.length bQ) (qK:bQ.length≤cP) (qM:Kd.C zF w cS bG.length bG) (qN:bG.length≤cQ) (hG:aT w) (h:fT.f k aK bf bg bQ bw bT bU bG=some (r1,r2)):
 Calls Tryz.prog 33 #[.agg #[.int .u8 aK,.string bf,.bool bg,.slice cO bQ.length cP,.string bw,.string bT,.bool bU,.slice cS bG.length cQ]] w fun e w'=>e= .returned (.tuple #[.string r1,.int .i64 r2])∧Below w.heap.size w w':=by
 have LP:=Tryz.underlying35
 have iF:=ah.mk qJ
 have iG:=ah.mk qK
 clear qJ qK
 have iV:=ah.mk qM
 have jw:=ah.mk qN
 clear qM qN
 have HB:=ah.mk (Below.refl w.heap.size w)
 have HG:=ah.mk hG
 clear hG
 have H:((eU.f k aK bf bg bQ bw bT bU bG).bind fun Tk=>(if Tk=true then ((bY.f k aK bf bg bQ bw bT bU bG).bind fun GA=>(some (GA,0))) else (some ((⟨#[]⟩:ByteArray),2))))=some (r1,r2):=h
 clear h
 replace H:=Option.bind_eq_some_iff.mp H
 obtain ⟨Tk,nK,H⟩:=H
 replace H:(if Tk=true then ((bY.f k aK bf bg bQ bw bT bU bG).bind fun GA=>(some (GA,0))) else (some ((⟨#[]⟩:ByteArray),2)))=some (r1,r2):=H
 have A2:=ah.mk nK
 clear nK
 by_cases c3:Tk=true
 ·subst c3
  have H1:((bY.f k aK bf bg bQ bw bT bU bG).bind fun GA=>(some (GA,0)))=some (r1,r2):=by rw [if_pos rfl] at H;exact H
  clear H
  have H:=H1
  clear H1
  replace H:=Option.bind_eq_some_iff.mp H
  obtain ⟨GA,Cr,H⟩:=H
  replace H:(some (GA,0))=some (r1,r2):=H
  have A4:=ah.mk Cr
  clear Cr
  simp only [Option.some.injEq,Prod.mk.injEq] at H
  obtain ⟨rfl,rfl⟩:=H
  go_enter Tryz.func33,Tryz.ntmps33
  go_wp2_with (first|((with_reducible refine cG (N:=1) rfl ?_);refine cj ?hg (N:=1) ?hd (cs:=#[.int .u8 aK,.string bf,.bool bg,.slice cO bQ.length cP,.string bw,.string bT,.bool bU,.slice cS bG.length cQ]) (t:=35) ?hr ?_;(case hd=>rfl);(case hg=>rfl);(case hr=>first|(go_simp;done)|(go_simp;rfl));intro kS hg w5 cJ hb;have bD:=ah.mk (ay cw hb);have bN:=ah.mk (cJ);have cz:=ah.mk ((dK:w.heap.size≤kS));have cY:=ah.mk ((dK:w.heap.size≤kS));clear HB;have HB:=bD;have gy:=bN;have afF:=cz;have aap:=cY;clear bD bN cz cY;clear hb cJ hg;have U7:w5.cell? ⟨kS,0,none⟩=some (.int .u8 aK):=(af gy.out 0).trans rfl;have U8:w5.cell? ⟨kS,1,none⟩=some (.string bf):=(af gy.out 1).trans rfl;have acS:w5.cell? ⟨kS,2,none⟩=some (.bool bg):=(af gy.out 2).trans rfl;have acT:w5.cell? ⟨kS,3,none⟩=some (.slice cO bQ.length cP):=(af gy.out 3).trans rfl;have acU:w5.cell? ⟨kS,4,none⟩=some (.string bw):=(af gy.out 4).trans rfl;have an1:w5.cell? ⟨kS,5,none⟩=some (.string bT):=(af gy.out 5).trans rfl;have an2:w5.cell? ⟨kS,6,none⟩=some (.bool bU):=(af gy.out 6).trans rfl;have an3:w5.cell? ⟨kS,7,none⟩=some (.slice cS bG.length cQ):=(af gy.out 7).trans rfl;have U9:=aa gy.out 0;have Va:=aa gy.out 1;have acV:=aa gy.out 2;have acW:=aa gy.out 3;have acX:=aa gy.out 4;have an4:=aa gy.out 5;have an5:=aa gy.out 6;have an6:=aa gy.out 7)|((with_reducible refine aN (f:=34) rfl ?_);refine cr (some 5) rfl rfl Tryz.func34 au rfl #[.agg #[.int .u8 aK,.string bf,.bool bg,.slice cO bQ.length cP,.string bw,.string bT,.bool bU,.slice cS bG.length cQ]] rfl cV ?_;(with_reducible refine (eU.calls k aK bf bg _ _ bQ bw bT bU _ _ bG true _ ?aX ?bS ?dH ?eI ?fC A2.out).mono ?_);(case aX=>repeat (first|exact (Kd.cI iF.out HB.out)|(with_reducible refine Kd.cK ?_ _)|(with_reducible refine Kd.cL ?_ _)|(with_reducible refine Kd.dG ?_)));(case bS=>exact iG.out);(case dH=>repeat (first|exact (Kd.cI iV.out HB.out)|(with_reducible refine Kd.cK ?_ _)|(with_reducible refine Kd.cL ?_ _)|(with_reducible refine Kd.dG ?_)));(case eI=>exact jw.out);(case fC=>exact aT.below HG.out wJ);rintro e w7 ⟨rfl,hb⟩;refine ⟨_,rfl,?_⟩;have bD:=ah.mk (aJ (g:=kS) (o:= .cells #[.int .u8 aK,.string bf,.bool bg,.slice cO bQ.length cP,.string bw,.string bT,.bool bU,.slice cS bG.length cQ] 35 (0,0)) Ip hb);have bN:=ah.mk (ay wJ hb);clear gy;clear HB;have gy:=bD;have HB:=bN;clear bD bN;(try clear hb);(try clear hb2);(try clear hk);(try clear hi);have wU:w7.cell? ⟨kS,0,none⟩=some (.int .u8 aK):=(af gy.out 0).trans rfl;have wV:w7.cell? ⟨kS,1,none⟩=some (.string bf):=(af gy.out 1).trans rfl;have BO:w7.cell? ⟨kS,2,none⟩=some (.bool bg):=(af gy.out 2).trans rfl;have E7:w7.cell? ⟨kS,3,none⟩=some (.slice cO bQ.length cP):=(af gy.out 3).trans rfl;have E8:w7.cell? ⟨kS,4,none⟩=some (.string bw):=(af gy.out 4).trans rfl;have acF:w7.cell? ⟨kS,5,none⟩=some (.string bT):=(af gy.out 5).trans rfl;have acG:w7.cell? ⟨kS,6,none⟩=some (.bool bU):=(af gy.out 6).trans rfl;have acH:w7.cell? ⟨kS,7,none⟩=some (.slice cS bG.length cQ):=(af gy.out 7).trans rfl;have wW:=aa gy.out 0;have wX:=aa gy.out 1;have BP:=aa gy.out 2;have E9:=aa gy.out 3;have Fa:=aa gy.out 4;have acI:=aa gy.out 5;have acJ:=aa gy.out 6;have acK:=aa gy.out 7)|((with_reducible refine aN (f:=89) rfl ?_);refine cr (some 8) rfl rfl Tryz.func89 au rfl #[.agg #[.int .u8 aK,.string bf,.bool bg,.slice cO bQ.length cP,.string bw,.string bT,.bool bU,.slice cS bG.length cQ]] rfl cV ?_;(with_reducible refine (bY.calls k aK bf bg _ _ bQ bw bT bU _ _ bG GA _ ?aX ?bS ?dH ?eI ?fC A4.out).mono ?_);(case aX=>repeat (first|exact (Kd.cI iF.out HB.out)|(with_reducible refine Kd.cK ?_ _)|(with_reducible refine Kd.cL ?_ _)|(with_reducible refine Kd.dG ?_)));(case bS=>exact iG.out);(case dH=>repeat (first|exact (Kd.cI iV.out HB.out)|(with_reducible refine Kd.cK ?_ _)|(with_reducible refine Kd.cL ?_ _)|(with_reducible refine Kd.dG ?_)));(case eI=>exact jw.out);(case fC=>exact aT.below HG.out wJ);rintro e w9 ⟨rfl,hb⟩;refine ⟨_,rfl,?_⟩;have bD:=ah.mk (aJ (g:=kS) (o:= .cells #[.int .u8 aK,.string bf,.bool bg,.slice cO bQ.length cP,.string bw,.string bT,.bool bU,.slice cS bG.length cQ] 35 (0,0)) Ip hb);have bN:=ah.mk (ay wJ hb);clear gy;clear HB;have gy:=bD;have HB:=bN;clear bD bN;(try clear hb);(try clear hb2);(try clear hk);(try clear hi)))
  go_ret2
  exact ⟨cZ,wJ⟩
 ·replace c3:=Bool.eq_false_iff.mpr c3
  subst c3
  have H1:(some ((⟨#[]⟩:ByteArray),2))=some (r1,r2):=by rw [if_neg (show ¬ (false=true) by decide)] at H;exact H
  clear H
  have H:=H1
  clear H1
  simp only [Option.some.injEq,Prod.mk.injEq] at H
  obtain ⟨rfl,rfl⟩:=H
  go_enter Tryz.func33,Tryz.ntmps33
  go_wp2_with (first|((with_reducible refine cG (N:=1) rfl ?_);refine cj ?hg (N:=1) ?hd (cs:=#[.int .u8 aK,.string bf,.bool bg,.slice cO bQ.length cP,.string bw,.string bT,.bool bU,.slice cS bG.length cQ]) (t:=35) ?hr ?_;(case hd=>rfl);(case hg=>rfl);(case hr=>first|(go_simp;done)|(go_simp;rfl));intro kS hg sV cJ hb;have bD:=ah.mk (ay cw hb);have bN:=ah.mk (cJ);have cz:=ah.mk ((dK:w.heap.size≤kS));have cY:=ah.mk ((dK:w.heap.size≤kS));clear HB;have HB:=bD;have gy:=bN;have afF:=cz;have aap:=cY;clear bD bN cz cY;clear hb cJ hg;have sX:sV.cell? ⟨kS,0,none⟩=some (.int .u8 aK):=(af gy.out 0).trans rfl;have sY:sV.cell? ⟨kS,1,none⟩=some (.string bf):=(af gy.out 1).trans rfl;have sZ:sV.cell? ⟨kS,2,none⟩=some (.bool bg):=(af gy.out 2).trans rfl;have xS:sV.cell? ⟨kS,3,none⟩=some (.slice cO bQ.length cP):=(af gy.out 3).trans rfl;have xU:sV.cell? ⟨kS,4,none⟩=some (.string bw):=(af gy.out 4).trans rfl;have Aa:sV.cell? ⟨kS,5,none⟩=some (.string bT):=(af gy.out 5).trans rfl;have Ac:sV.cell? ⟨kS,6,none⟩=some (.bool bU):=(af gy.out 6).trans rfl;have Ad:sV.cell? ⟨kS,7,none⟩=some (.slice cS bG.length cQ):=(af gy.out 7).trans rfl;have s7:=aa gy.out 0;have s8:=aa gy.out 1;have s9:=aa gy.out 2;have xV:=aa gy.out 3;have xW:=aa gy.out 4;have Ae:=aa gy.out 5;have Af:=aa gy.out 6;have Ag:=aa gy.out 7)|((with_reducible refine aN (f:=34) rfl ?_);refine cr (some 5) rfl rfl Tryz.func34 au rfl #[.agg #[.int .u8 aK,.string bf,.bool bg,.slice cO bQ.length cP,.string bw,.string bT,.bool bU,.slice cS bG.length cQ]] rfl cV ?_;(with_reducible refine (eU.calls k aK bf bg _ _ bQ bw bT bU _ _ bG false _ ?aX ?bS ?dH ?eI ?fC A2.out).mono ?_);(case aX=>repeat (first|exact (Kd.cI iF.out HB.out)|(with_reducible refine Kd.cK ?_ _)|(with_reducible refine Kd.cL ?_ _)|(with_reducible refine Kd.dG ?_)));(case bS=>exact iG.out);(case dH=>repeat (first|exact (Kd.cI iV.out HB.out)|(with_reducible refine Kd.cK ?_ _)|(with_reducible refine Kd.cL ?_ _)|(with_reducible refine Kd.dG ?_)));(case eI=>exact jw.out);(case fC=>exact aT.below HG.out wJ);rintro e SX ⟨rfl,hb⟩;refine ⟨_,rfl,?_⟩;have bD:=ah.mk (aJ (g:=kS) (o:= .cells #[.int .u8 aK,.string bf,.bool bg,.slice cO bQ.length cP,.string bw,.string bT,.bool bU,.slice cS bG.length cQ] 35 (0,0)) Ip hb);have bN:=ah.mk (ay wJ hb);clear gy;clear HB;have gy:=bD;have HB:=bN;clear bD bN;(try clear hb);(try clear hb2);(try clear hk);(try clear hi)))
  go_ret2
  exact ⟨cZ,wJ⟩
end Go.Proofs.YtokpnfljjjjikaaGreatDoor.nX
