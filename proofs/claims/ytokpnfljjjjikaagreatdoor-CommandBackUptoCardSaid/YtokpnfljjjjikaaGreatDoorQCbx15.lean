import Derived.Test.YtokpnfljjjjikaaGreatDoorZo
import Derived.Test.YtokpnfljjjjikaaGreatDoorQCbx0
import Derived.Test.YtokpnfljjjjikaaGreatDoorQCbx1
import Derived.Test.YtokpnfljjjjikaaGreatDoorQCbx13
import Derived.Test.YtokpnfljjjjikaaGreatDoorQCbx14
namespace Go.Proofs.YtokpnfljjjjikaaGreatDoor.nX
open Go.RowKit Go.Proofs.aj.bW Go.Proofs.aj.fW Go.Proofs.aj.dz
attribute [local go_sem] jg jh kO kP iK iL ji jk
set_option linter.unusedVariables false
set_option linter.unusedSimpArgs false
attribute [local go_sem high] UU
def kQ.f (k:Nat) (a0:ByteArray):Option (Bool):=(kG.f k a0).bind fun S7=>(some (!S7))
set_option maxHeartbeats 8000000 in
set_option maxRecDepth 100000 in
theorem kQ.calls (k:Nat) (a0:ByteArray) (r:Bool) (w:World) (hG:aT w) (h:kQ.f k a0=some r):
 Calls Tryz.prog 64 #[.string a0] w fun e w'=>e= .returned (.bool r)∧Below w.heap.size w w':=by
 have HB:=ah.mk (Below.refl w.heap.size w)
 have HG:=ah.mk hG
 clear hG
 have H:((kG.f k a0).bind fun S7=>(some (!S7)))=some r:=h
 clear h
 replace H:=Option.bind_eq_some_iff.mp H
 obtain ⟨S7,nK,H⟩:=H
 replace H:(some (!S7))=some r:=H
 have A2:=ah.mk nK
 clear nK
 obtain rfl:=Option.some.inj H
 go_enter Tryz.func64,Tryz.ntmps64
 go_wp2_with (first|((with_reducible refine aN (f:=65) rfl ?_);refine cr (some 4) rfl rfl Tryz.func65 au rfl #[.string a0] rfl cV ?_;(with_reducible refine (kG.calls k a0 S7 _ ?aX A2.out).mono ?_);(case aX=>exact aT.below HG.out cw);rintro e w3 ⟨rfl,hb⟩;refine ⟨_,rfl,?_⟩;have bD:=ah.mk (ay cw hb);clear HB;have HB:=bD;clear bD;(try clear hb);(try clear hb2);(try clear hk);(try clear hi)))
 go_ret
 exact ⟨cZ,cw⟩
def bJ.l0:Nat→List ByteArray→Int→Int→Option (Int)
 | 0,_,_,_ =>none
 |k + 1,x0,x7,x8=>if x8 < x7 then (if 0≤x8 then (if x8 < (x0.length:Int) then ((kQ.f k (kC ByteArray.empty x0 x8)).bind fun YX=>(if YX=true then (some x8) else (bJ.l0 k x0 x7 (wrap64 (x8 + 1))))) else (none)) else (none)) else (some (-1))
def bJ.f (k:Nat) (l0:List ByteArray):Option (Int):=bJ.l0 k l0 (l0.length:Int) 0
set_option maxHeartbeats 8000000 in
set_option maxRecDepth 100000 in
theorem bJ.calls (k:Nat) (A0:Option Addr) (c0:Nat) (l0:List ByteArray) (r:Int) (w:World) (zk:Kd.C Kd.string w A0 l0.length l0) (hc0:l0.length≤c0) (hG:aT w) (h:bJ.f k l0=some r):
 Calls Tryz.prog 117 #[.slice A0 l0.length c0,.func (.func 64) #[] #[]] w fun e w'=>e= .returned (.int .i64 r)∧Below w.heap.size w w':=by
 have xO:=ah.mk zk
 have P9:=ah.mk hc0
 clear zk hc0
 have HB:=ah.mk (Below.refl w.heap.size w)
 have HG:=ah.mk hG
 clear hG
 have H:(bJ.l0 k l0 (l0.length:Int) 0)=some r:=h
 clear h
 have H':=ah.mk H
 clear H
 go_enter Tryz.func117,Tryz.ntmps117
 go_wp2
 go_loopg [8] k (fun kq v8 w'=>∃ (eV:Int),v8= .int .i64 eV∧ah (bJ.l0 kq l0 (l0.length:Int) eV=some r)∧ah (kq≤k)∧ah (Below w.heap.size w w'))
 case atStart=>exact ⟨(0),ey,H',⟨Nat.le_refl _⟩,⟨cw⟩⟩
 case round=>
  clear H'
  try clear c1
  try clear p2
  obtain ⟨eV,rfl,HA,uC,HB⟩:=hrel
  cases gk with
  |zero=>exact absurd HA.out (by simp [bJ.l0])
  |succ k1=>
   have H:=HA.out
   clear HA
   simp only [bJ.l0] at H
   by_cases c3:eV < (l0.length:Int)
   ·rw [if_pos c3] at H
    have qm:decide (eV < (l0.length:Int))=true:=decide_eq_true c3
    clear c3
    by_cases c4: 0≤eV
    ·rw [if_pos c4] at H
     have oL:decide (0≤eV)=true:=decide_eq_true c4
     clear c4
     by_cases c5:eV < (l0.length:Int)
     ·rw [if_pos c5] at H
      have tR:decide (eV < (l0.length:Int))=true:=decide_eq_true c5
      clear c5
      replace H:=Option.bind_eq_some_iff.mp H
      obtain ⟨YX,wR,H⟩:=H
      replace H:(if YX=true then (some eV) else (bJ.l0 k1 l0 (l0.length:Int) (wrap64 (eV + 1))))=some r:=H
      have A6:=ah.mk wR
      clear wR
      by_cases c7:YX=true
      ·subst c7
       have H1:(some eV)=some r:=by rw [if_pos rfl] at H;exact H
       clear H
       have H:=H1
       clear H1
       obtain rfl:=Option.some.inj H
       have OJ: 0≤(eV:Int):=of_decide_eq_true cX
       have OL:eV < (l0.length:Int):=of_decide_eq_true cX
       obtain ⟨afe,acO,vR⟩:=Kd.ju xO.out eV OJ OL
       cases acO
       replace vR:=(HB.out.cell (World.block_lt_of_cell? w _ vR)).trans vR
       replace OJ:=eq_true OJ
       replace OL:=eq_true OL
       go_wp2_with (first|(go_at_call 64;(with_reducible refine (kQ.calls k1 (kC ByteArray.empty l0 eV) true _ ?aX A6.out).mono ?_);(case aX=>exact aT.below HG.out cw);rintro e w8 ⟨rfl,hb⟩;have bD:=ah.mk (ay cw hb);clear HB;have HB:=bD;clear bD;(try clear hb);(try clear hb2);(try clear hk);(try clear hi)))
       go_ret
       exact ⟨cZ,cw⟩
      ·replace c7:=Bool.eq_false_iff.mpr c7
       subst c7
       have H1:(bJ.l0 k1 l0 (l0.length:Int) (wrap64 (eV + 1)))=some r:=by rw [if_neg (show ¬ (false=true) by decide)] at H;exact H
       clear H
       have H:=H1
       clear H1
       have H':=ah.mk H
       clear H
       have OJ: 0≤(eV:Int):=of_decide_eq_true cX
       have OL:eV < (l0.length:Int):=of_decide_eq_true cX
       obtain ⟨afe,acO,vR⟩:=Kd.ju xO.out eV OJ OL
       cases acO
       replace vR:=(HB.out.cell (World.block_lt_of_cell? w _ vR)).trans vR
       replace OJ:=eq_true OJ
       replace OL:=eq_true OL
       go_wp2_with (first|(go_at_call 64;(with_reducible refine (kQ.calls k1 (kC ByteArray.empty l0 eV) false _ ?aX A6.out).mono ?_);(case aX=>exact aT.below HG.out cw);rintro e w9 ⟨rfl,hb⟩;have bD:=ah.mk (ay cw hb);clear HB;have HB:=bD;clear bD;(try clear hb);(try clear hb2);(try clear hk);(try clear hi)))
       go_roundg k1
       case measure=>have:=uC.out;omega
       case rel=>exact ⟨(wrap64 (eV + 1)),ey,H',⟨j6⟩,⟨cw⟩⟩
     ·rw [if_neg c5] at H
      exact absurd H bn
    ·rw [if_neg c4] at H
     exact absurd H bn
   ·rw [if_neg c3] at H
    have qm:decide (eV < (l0.length:Int))=false:=decide_eq_false c3
    clear c3
    obtain rfl:=Option.some.inj H
    go_wp2
    go_ret
    exact ⟨cZ,cw⟩
def b9.f (k:Nat) (l0:List ByteArray):Option (Bool):=(bJ.f k l0).bind fun S8=>(some (decide (S8≥0)))
set_option maxHeartbeats 8000000 in
set_option maxRecDepth 100000 in
theorem b9.calls (k:Nat) (A0:Option Addr) (c0:Nat) (l0:List ByteArray) (r:Bool) (w:World) (zk:Kd.C Kd.string w A0 l0.length l0) (hc0:l0.length≤c0) (hG:aT w) (h:b9.f k l0=some r):
 Calls Tryz.prog 59 #[.slice A0 l0.length c0,.func (.func 64) #[] #[]] w fun e w'=>e= .returned (.bool r)∧Below w.heap.size w w':=by
 have xO:=ah.mk zk
 have P9:=ah.mk hc0
 clear zk hc0
 have HB:=ah.mk (Below.refl w.heap.size w)
 have HG:=ah.mk hG
 clear hG
 have H:((bJ.f k l0).bind fun S8=>(some (decide (S8≥0))))=some r:=h
 clear h
 replace H:=Option.bind_eq_some_iff.mp H
 obtain ⟨S8,wQ,H⟩:=H
 replace H:(some (decide (S8≥0)))=some r:=H
 have A3:=ah.mk wQ
 clear wQ
 obtain rfl:=Option.some.inj H
 go_enter Tryz.func59,Tryz.ntmps59
 go_wp2_with (first|((with_reducible refine aN (f:=117) rfl ?_);refine cr (some 7) rfl rfl Tryz.func117 au rfl #[.slice A0 l0.length c0,.func (.func 64) #[] #[]] rfl cV ?_;(with_reducible refine (bJ.calls k _ _ l0 S8 _ ?aX ?bS ?dH A3.out).mono ?_);(case aX=>repeat (first|exact xO.out|(with_reducible refine Kd.cK ?_ _)|(with_reducible refine Kd.cL ?_ _)|(with_reducible refine Kd.dG ?_)));(case bS=>exact P9.out);(case dH=>exact aT.below HG.out cw);rintro e w4 ⟨rfl,hb⟩;refine ⟨_,rfl,?_⟩;have bD:=ah.mk (ay cw hb);clear HB;have HB:=bD;clear bD;(try clear hb);(try clear hb2);(try clear hk);(try clear hi)))
 go_ret
 exact ⟨cZ,cw⟩
def fI.f (k:Nat) (aK:Bool) (dR:List ByteArray) (bg:ByteArray) (eD:ByteArray) (bw:Bool):Option (Bool):=if aK=true then (if (dR.length:Int)=0 then (some (bg.toList == ([]:List UInt8) && (eD.toList == ([]:List UInt8) && (!bw)))) else (some false)) else (if (bg.toList == ([112,111,115,116,109,97,115,116,101,114]:List UInt8) && (eD.toList == ([]:List UInt8) && (!bw)))=true then (some ((dR.length:Int) == 0)) else ((dZ.f k bg eD bw).bind fun Mr=>(if Mr=true then (if (dR.length:Int)≤20 then ((b9.f k dR).bind fun Dj=>(some (!Dj))) else (some false)) else (some false))))
set_option maxHeartbeats 8000000 in
set_option maxRecDepth 100000 in
theorem fI.calls (k:Nat) (aK:Bool) (iA:Option Addr) (iB:Nat) (dR:List ByteArray) (bg:ByteArray) (eD:ByteArray) (bw:Bool) (r:Bool) (w:World) (Cu:Kd.C Kd.string w iA dR.length dR) (Cv:dR.length≤iB) (hG:aT w) (h:fI.f k aK dR bg eD bw=some r):
 Calls Tryz.prog 20 #[.agg #[.bool aK,.slice iA dR.length iB,.string bg,.string eD,.bool bw]] w fun e w'=>e= .returned (.bool r)∧Below w.heap.size w w':=by
 have Oi:=Tryz.underlying32
 have LI:=Tryz.underlying30
 have wT:=ah.mk Cu
 have zY:=ah.mk Cv
 clear Cu Cv
 have HB:=ah.mk (Below.refl w.heap.size w)
 have HG:=ah.mk hG
 clear hG
 have H:(if aK=true then (if (dR.length:Int)=0 then (some (bg.toList == ([]:List UInt8) && (eD.toList == ([]:List UInt8) && (!bw)))) else (some false)) else (if (bg.toList == ([112,111,115,116,109,97,115,116,101,114]:List UInt8) && (eD.toList == ([]:List UInt8) && (!bw)))=true then (some ((dR.length:Int) == 0)) else ((dZ.f k bg eD bw).bind fun Mr=>(if Mr=true then (if (dR.length:Int)≤20 then ((b9.f k dR).bind fun Dj=>(some (!Dj))) else (some false)) else (some false)))))=some r:=h
 clear h
 by_cases c2:aK=true
 ·subst c2
  have H1:(if (dR.length:Int)=0 then (some (bg.toList == ([]:List UInt8) && (eD.toList == ([]:List UInt8) && (!bw)))) else (some false))=some r:=by rw [if_pos rfl] at H;exact H
  clear H
  have H:=H1
  clear H1
  by_cases c3:(dR.length:Int)=0
  ·rw [if_pos c3] at H
   have qm:((dR.length:Int) == 0)=true:=beq_iff_eq.mpr c3
   have LD:((dR.length:Int) != 0)=false:=bne_eq_false_iff_eq.mpr c3
   clear c3
   obtain rfl:=Option.some.inj H
   go_enter Tryz.func20,Tryz.ntmps20
   go_wp2_with (first|((with_reducible refine cG (N:=1) rfl ?_);(try (refine dg (by rfl) ?_;dsimp only));refine cj ?hg (N:=1) ?hd (cs:=#[.bool true,.slice iA dR.length iB,.string bg,.string eD,.bool bw]) (t:=32) ?hr ?_;(case hd=>rfl);(case hg=>rfl);(case hr=>first|(go_simp;done)|(go_simp;rfl));intro gf hg w4 cJ hb;have bD:=ah.mk (ay cw hb);have bN:=ah.mk (cJ);have cz:=ah.mk ((dK:w.heap.size≤gf));have cY:=ah.mk ((dK:w.heap.size≤gf));clear HB;have HB:=bD;have eA:=bN;have Ms:=cz;have GJ:=cY;clear bD bN cz cY;clear hb cJ hg;have JU:w4.cell? ⟨gf,0,none⟩=some (.bool true):=(af eA.out 0).trans rfl;have JV:w4.cell? ⟨gf,1,none⟩=some (.slice iA dR.length iB):=(af eA.out 1).trans rfl;have OC:w4.cell? ⟨gf,2,none⟩=some (.string bg):=(af eA.out 2).trans rfl;have Vz:w4.cell? ⟨gf,3,none⟩=some (.string eD):=(af eA.out 3).trans rfl;have VA:w4.cell? ⟨gf,4,none⟩=some (.bool bw):=(af eA.out 4).trans rfl;have JW:=aa eA.out 0;have JX:=aa eA.out 1;have OD:=aa eA.out 2;have VB:=aa eA.out 3;have VC:=aa eA.out 4))
   go_ret
   exact ⟨cZ,pH⟩
  ·rw [if_neg c3] at H
   have qm:((dR.length:Int) == 0)=false:=beq_eq_false_iff_ne.mpr c3
   have LD:((dR.length:Int) != 0)=true:=bne_iff_ne.mpr c3
   have arB: ¬ (dR= []):=fun h_ =>c3 (by rw [h_];rfl)
   obtain rfl:=Option.some.inj H
   go_enter Tryz.func20,Tryz.ntmps20
   go_wp2_with (first|((with_reducible refine cG (N:=1) rfl ?_);(try (refine dg (by rfl) ?_;dsimp only));refine cj ?hg (N:=1) ?hd (cs:=#[.bool true,.slice iA dR.length iB,.string bg,.string eD,.bool bw]) (t:=32) ?hr ?_;(case hd=>rfl);(case hg=>rfl);(case hr=>first|(go_simp;done)|(go_simp;rfl));intro gf hg w6 cJ hb;have bD:=ah.mk (ay cw hb);have bN:=ah.mk (cJ);have cz:=ah.mk ((dK:w.heap.size≤gf));have cY:=ah.mk ((dK:w.heap.size≤gf));clear HB;have HB:=bD;have eA:=bN;have Ms:=cz;have GJ:=cY;clear bD bN cz cY;clear hb cJ hg;have Fe:w6.cell? ⟨gf,0,none⟩=some (.bool true):=(af eA.out 0).trans rfl;have Ff:w6.cell? ⟨gf,1,none⟩=some (.slice iA dR.length iB):=(af eA.out 1).trans rfl;have OM:w6.cell? ⟨gf,2,none⟩=some (.string bg):=(af eA.out 2).trans rfl;have OO:w6.cell? ⟨gf,3,none⟩=some (.string eD):=(af eA.out 3).trans rfl;have OP:w6.cell? ⟨gf,4,none⟩=some (.bool bw):=(af eA.out 4).trans rfl;have Fg:=aa eA.out 0;have Fh:=aa eA.out 1;have OQ:=aa eA.out 2;have OS:=aa eA.out 3;have OT:=aa eA.out 4))
   go_ret
   exact ⟨cZ,pH⟩
 ·replace c2:=Bool.eq_false_iff.mpr c2
  subst c2
  have H1:(if (bg.toList == ([112,111,115,116,109,97,115,116,101,114]:List UInt8) && (eD.toList == ([]:List UInt8) && (!bw)))=true then (some ((dR.length:Int) == 0)) else ((dZ.f k bg eD bw).bind fun Mr=>(if Mr=true then (if (dR.length:Int)≤20 then ((b9.f k dR).bind fun Dj=>(some (!Dj))) else (some false)) else (some false))))=some r:=by rw [if_neg (show ¬ (false=true) by decide)] at H;exact H
  clear H
  have H:=H1
  clear H1
  by_cases c8:(bg.toList == ([112,111,115,116,109,97,115,116,101,114]:List UInt8) && (eD.toList == ([]:List UInt8) && (!bw)))=true
  ·rw [if_pos c8] at H
   have IM:(bg.toList == ([112,111,115,116,109,97,115,116,101,114]:List UInt8) && (eD.toList == ([]:List UInt8) && (!bw)))=true:=c8
   have c8e:(bg.toList == ([112,111,115,116,109,97,115,116,101,114]:List UInt8))=true∧eD.toList.isEmpty=true∧(!bw)=true:=by {have c_ :=c8;simp only [Bool.and_eq_true] at c_;obtain ⟨h1_,h2_,h3_⟩:=c_;exact ⟨h1_,by rw [beq_iff_eq] at h2_;rw [h2_];rfl,h3_⟩}
   obtain ⟨c8f,c8g,c8h⟩:=c8e
   (try (have ab1:decide (bg.toList=([112,111,115,116,109,97,115,116,101,114]:List UInt8) && (eD.toList == ([]:List UInt8) && (!bw)))=true:=by simpa using c8))
   (try (have anG:(bg.toList == ([112,111,115,116,109,97,115,116,101,114]:List UInt8) && (eD.toList == ([]:List UInt8) && (!bw)))=true:=by simpa using c8))
   clear c8
   obtain rfl:=Option.some.inj H
   go_enter Tryz.func20,Tryz.ntmps20
   go_wp2_with (first|((with_reducible refine cG (N:=1) rfl ?_);(try (refine dg (by rfl) ?_;dsimp only));refine cj ?hg (N:=1) ?hd (cs:=#[.bool false,.slice iA dR.length iB,.string bg,.string eD,.bool bw]) (t:=32) ?hr ?_;(case hd=>rfl);(case hg=>rfl);(case hr=>first|(go_simp;done)|(go_simp;rfl));intro gf hg w9 cJ hb;have bD:=ah.mk (ay cw hb);have bN:=ah.mk (cJ);have cz:=ah.mk ((dK:w.heap.size≤gf));have cY:=ah.mk ((dK:w.heap.size≤gf));clear HB;have HB:=bD;have eA:=bN;have Ms:=cz;have GJ:=cY;clear bD bN cz cY;clear hb cJ hg;have J2:w9.cell? ⟨gf,0,none⟩=some (.bool false):=(af eA.out 0).trans rfl;have J3:w9.cell? ⟨gf,1,none⟩=some (.slice iA dR.length iB):=(af eA.out 1).trans rfl;have J4:w9.cell? ⟨gf,2,none⟩=some (.string bg):=(af eA.out 2).trans rfl;have YP:w9.cell? ⟨gf,3,none⟩=some (.string eD):=(af eA.out 3).trans rfl;have YQ:w9.cell? ⟨gf,4,none⟩=some (.bool bw):=(af eA.out 4).trans rfl;have J5:=aa eA.out 0;have J6:=aa eA.out 1;have J7:=aa eA.out 2;have YR:=aa eA.out 3;have YS:=aa eA.out 4))
   go_ret
   exact ⟨cZ,pH⟩
  ·rw [if_neg c8] at H
   have c8e:((bg.toList == ([112,111,115,116,109,97,115,116,101,114]:List UInt8))=true∧eD.toList.isEmpty=true∧(!bw)=true)=False:=eq_false (fun ⟨h1_,h2_,h3_⟩=>c8 (by rw [h1_,show (eD.toList == ([]:List UInt8))=true from by rw [beq_iff_eq];exact List.isEmpty_iff.mp h2_,h3_];rfl))
   have IM:(bg.toList == ([112,111,115,116,109,97,115,116,101,114]:List UInt8) && (eD.toList == ([]:List UInt8) && (!bw)))=false:=by simpa using c8
   (try (have ab1:decide (bg.toList=([112,111,115,116,109,97,115,116,101,114]:List UInt8) && (eD.toList == ([]:List UInt8) && (!bw)))=false:=by simpa using c8))
   (try (have anG:(bg.toList == ([112,111,115,116,109,97,115,116,101,114]:List UInt8) && (eD.toList == ([]:List UInt8) && (!bw)))=false:=by simpa using c8))
   (try (have arC: ¬ (bg.toList=([112,111,115,116,109,97,115,116,101,114]:List UInt8) && (eD.toList == ([]:List UInt8) && (!bw))):=by simpa using c8))
   clear c8
   replace H:=Option.bind_eq_some_iff.mp H
   obtain ⟨Mr,Mt,H⟩:=H
   replace H:(if Mr=true then (if (dR.length:Int)≤20 then ((b9.f k dR).bind fun Dj=>(some (!Dj))) else (some false)) else (some false))=some r:=H
   have A11:=ah.mk Mt
   clear Mt
   by_cases c12:Mr=true
   ·subst c12
    have H1:(if (dR.length:Int)≤20 then ((b9.f k dR).bind fun Dj=>(some (!Dj))) else (some false))=some r:=by rw [if_pos rfl] at H;exact H
    clear H
    have H:=H1
    clear H1
    by_cases c13:(dR.length:Int)≤20
    ·rw [if_pos c13] at H
     have E6:decide ((dR.length:Int)≤20)=true:=decide_eq_true c13
     have LF:decide (dR.length≤20)=true:=decide_eq_true aq
     clear c13
     replace H:=Option.bind_eq_some_iff.mp H
     obtain ⟨Dj,wS,H⟩:=H
     replace H:(some (!Dj))=some r:=H
     have SZ:=ah.mk wS
     clear wS
     obtain rfl:=Option.some.inj H
     go_enter Tryz.func20,Tryz.ntmps20
     go_wp2_with (first|((with_reducible refine cG (N:=1) rfl ?_);(try (refine dg (by rfl) ?_;dsimp only));refine cj ?hg (N:=1) ?hd (cs:=#[.bool false,.slice iA dR.length iB,.string bg,.string eD,.bool bw]) (t:=32) ?hr ?_;(case hd=>rfl);(case hg=>rfl);(case hr=>first|(go_simp;done)|(go_simp;rfl));intro gf hg zV cJ hb;have bD:=ah.mk (ay cw hb);have bN:=ah.mk (cJ);have cz:=ah.mk ((dK:w.heap.size≤gf));have cY:=ah.mk ((dK:w.heap.size≤gf));clear HB;have HB:=bD;have eA:=bN;have Ms:=cz;have GJ:=cY;clear bD bN cz cY;clear hb cJ hg;have ni:zV.cell? ⟨gf,0,none⟩=some (.bool false):=(af eA.out 0).trans rfl;have nj:zV.cell? ⟨gf,1,none⟩=some (.slice iA dR.length iB):=(af eA.out 1).trans rfl;have pP:zV.cell? ⟨gf,2,none⟩=some (.string bg):=(af eA.out 2).trans rfl;have rI:zV.cell? ⟨gf,3,none⟩=some (.string eD):=(af eA.out 3).trans rfl;have rJ:zV.cell? ⟨gf,4,none⟩=some (.bool bw):=(af eA.out 4).trans rfl;have nk:=aa eA.out 0;have nr:=aa eA.out 1;have pQ:=aa eA.out 2;have rK:=aa eA.out 3;have rL:=aa eA.out 4)|((with_reducible refine aN (f:=63) rfl ?_);refine cr (some 25) rfl rfl Tryz.func63 au rfl #[.agg #[.string bg,.string eD,.bool bw]] rfl cV ?_;(with_reducible refine (dZ.calls k bg eD bw true _ ?aX A11.out).mono ?_);(case aX=>exact aT.below HG.out pH);rintro e Oe ⟨rfl,hb⟩;refine ⟨_,rfl,?_⟩;have bD:=ah.mk (aJ (g:=gf) (o:= .cells #[.bool false,.slice iA dR.length iB,.string bg,.string eD,.bool bw] 32 (0,0)) Dt hb);have bN:=ah.mk (ay pH hb);clear eA;clear HB;have eA:=bD;have HB:=bN;clear bD bN;(try clear hb);(try clear hb2);(try clear hk);(try clear hi);have vF:Oe.cell? ⟨gf,0,none⟩=some (.bool false):=(af eA.out 0).trans rfl;have vG:Oe.cell? ⟨gf,1,none⟩=some (.slice iA dR.length iB):=(af eA.out 1).trans rfl;have xX:Oe.cell? ⟨gf,2,none⟩=some (.string bg):=(af eA.out 2).trans rfl;have D5:Oe.cell? ⟨gf,3,none⟩=some (.string eD):=(af eA.out 3).trans rfl;have D6:Oe.cell? ⟨gf,4,none⟩=some (.bool bw):=(af eA.out 4).trans rfl;have vH:=aa eA.out 0;have vI:=aa eA.out 1;have xY:=aa eA.out 2;have D7:=aa eA.out 3;have D8:=aa eA.out 4)|(go_at_call 59;(with_reducible refine (b9.calls k _ _ dR Dj _ ?aX ?bS ?dH SZ.out).mono ?_);(case aX=>repeat (first|exact (Kd.cI wT.out HB.out)|(with_reducible refine Kd.cK ?_ _)|(with_reducible refine Kd.cL ?_ _)|(with_reducible refine Kd.dG ?_)));(case bS=>exact zY.out);(case dH=>exact aT.below HG.out pH);rintro e LQ ⟨rfl,hb⟩;have bD:=ah.mk (aJ (g:=gf) (o:= .cells #[.bool false,.slice iA dR.length iB,.string bg,.string eD,.bool bw] 32 (0,0)) Dt hb);have bN:=ah.mk (ay pH hb);clear eA;clear HB;have eA:=bD;have HB:=bN;clear bD bN;(try clear hb);(try clear hb2);(try clear hk);(try clear hi)))
     try any_goals (exact (c8e.mp (by assumption)).elim)
     go_ret
     exact ⟨cZ,pH⟩
    ·rw [if_neg c13] at H
     have E6:decide ((dR.length:Int)≤20)=false:=decide_eq_false c13
     have LF:decide (dR.length≤20)=false:=decide_eq_false aq
     clear c13
     obtain rfl:=Option.some.inj H
     go_enter Tryz.func20,Tryz.ntmps20
     go_wp2_with (first|((with_reducible refine cG (N:=1) rfl ?_);(try (refine dg (by rfl) ?_;dsimp only));refine cj ?hg (N:=1) ?hd (cs:=#[.bool false,.slice iA dR.length iB,.string bg,.string eD,.bool bw]) (t:=32) ?hr ?_;(case hd=>rfl);(case hg=>rfl);(case hr=>first|(go_simp;done)|(go_simp;rfl));intro gf hg Nz cJ hb;have bD:=ah.mk (ay cw hb);have bN:=ah.mk (cJ);have cz:=ah.mk ((dK:w.heap.size≤gf));have cY:=ah.mk ((dK:w.heap.size≤gf));clear HB;have HB:=bD;have eA:=bN;have Ms:=cz;have GJ:=cY;clear bD bN cz cY;clear hb cJ hg;have xZ:Nz.cell? ⟨gf,0,none⟩=some (.bool false):=(af eA.out 0).trans rfl;have ya:Nz.cell? ⟨gf,1,none⟩=some (.slice iA dR.length iB):=(af eA.out 1).trans rfl;have yc:Nz.cell? ⟨gf,2,none⟩=some (.string bg):=(af eA.out 2).trans rfl;have D9:Nz.cell? ⟨gf,3,none⟩=some (.string eD):=(af eA.out 3).trans rfl;have Ea:Nz.cell? ⟨gf,4,none⟩=some (.bool bw):=(af eA.out 4).trans rfl;have yf:=aa eA.out 0;have yg:=aa eA.out 1;have yh:=aa eA.out 2;have Eb:=aa eA.out 3;have Ec:=aa eA.out 4)|((with_reducible refine aN (f:=63) rfl ?_);refine cr (some 25) rfl rfl Tryz.func63 au rfl #[.agg #[.string bg,.string eD,.bool bw]] rfl cV ?_;(with_reducible refine (dZ.calls k bg eD bw true _ ?aX A11.out).mono ?_);(case aX=>exact aT.below HG.out pH);rintro e Gf ⟨rfl,hb⟩;refine ⟨_,rfl,?_⟩;have bD:=ah.mk (aJ (g:=gf) (o:= .cells #[.bool false,.slice iA dR.length iB,.string bg,.string eD,.bool bw] 32 (0,0)) Dt hb);have bN:=ah.mk (ay pH hb);clear eA;clear HB;have eA:=bD;have HB:=bN;clear bD bN;(try clear hb);(try clear hb2);(try clear hk);(try clear hi);have AV:Gf.cell? ⟨gf,0,none⟩=some (.bool false):=(af eA.out 0).trans rfl;have AW:Gf.cell? ⟨gf,1,none⟩=some (.slice iA dR.length iB):=(af eA.out 1).trans rfl;have AX:Gf.cell? ⟨gf,2,none⟩=some (.string bg):=(af eA.out 2).trans rfl;have KD:Gf.cell? ⟨gf,3,none⟩=some (.string eD):=(af eA.out 3).trans rfl;have KE:Gf.cell? ⟨gf,4,none⟩=some (.bool bw):=(af eA.out 4).trans rfl;have AY:=aa eA.out 0;have AZ:=aa eA.out 1;have Ba:=aa eA.out 2;have KF:=aa eA.out 3;have KG:=aa eA.out 4))
     try any_goals (exact (c8e.mp (by assumption)).elim)
     go_ret
     exact ⟨cZ,pH⟩
   ·replace c12:=Bool.eq_false_iff.mpr c12
    subst c12
    have H1:(some false)=some r:=by rw [if_neg (show ¬ (false=true) by decide)] at H;exact H
    clear H
    have H:=H1
    clear H1
    obtain rfl:=Option.some.inj H
    go_enter Tryz.func20,Tryz.ntmps20
    go_wp2_with (first|((with_reducible refine cG (N:=1) rfl ?_);(try (refine dg (by rfl) ?_;dsimp only));refine cj ?hg (N:=1) ?hd (cs:=#[.bool false,.slice iA dR.length iB,.string bg,.string eD,.bool bw]) (t:=32) ?hr ?_;(case hd=>rfl);(case hg=>rfl);(case hr=>first|(go_simp;done)|(go_simp;rfl));intro gf hg KB cJ hb;have bD:=ah.mk (ay cw hb);have bN:=ah.mk (cJ);have cz:=ah.mk ((dK:w.heap.size≤gf));have cY:=ah.mk ((dK:w.heap.size≤gf));clear HB;have HB:=bD;have eA:=bN;have Ms:=cz;have GJ:=cY;clear bD bN cz cY;clear hb cJ hg;have tD:KB.cell? ⟨gf,0,none⟩=some (.bool false):=(af eA.out 0).trans rfl;have tE:KB.cell? ⟨gf,1,none⟩=some (.slice iA dR.length iB):=(af eA.out 1).trans rfl;have tF:KB.cell? ⟨gf,2,none⟩=some (.string bg):=(af eA.out 2).trans rfl;have yz:KB.cell? ⟨gf,3,none⟩=some (.string eD):=(af eA.out 3).trans rfl;have yA:KB.cell? ⟨gf,4,none⟩=some (.bool bw):=(af eA.out 4).trans rfl;have tG:=aa eA.out 0;have tH:=aa eA.out 1;have tI:=aa eA.out 2;have yB:=aa eA.out 3;have yC:=aa eA.out 4)|((with_reducible refine aN (f:=63) rfl ?_);refine cr (some 25) rfl rfl Tryz.func63 au rfl #[.agg #[.string bg,.string eD,.bool bw]] rfl cV ?_;(with_reducible refine (dZ.calls k bg eD bw false _ ?aX A11.out).mono ?_);(case aX=>exact aT.below HG.out pH);rintro e zG ⟨rfl,hb⟩;refine ⟨_,rfl,?_⟩;have bD:=ah.mk (aJ (g:=gf) (o:= .cells #[.bool false,.slice iA dR.length iB,.string bg,.string eD,.bool bw] 32 (0,0)) Dt hb);have bN:=ah.mk (ay pH hb);clear eA;clear HB;have eA:=bD;have HB:=bN;clear bD bN;(try clear hb);(try clear hb2);(try clear hk);(try clear hi)))
    try any_goals (exact (c8e.mp (by assumption)).elim)
    go_ret
    exact ⟨cZ,pH⟩
end Go.Proofs.YtokpnfljjjjikaaGreatDoor.nX
