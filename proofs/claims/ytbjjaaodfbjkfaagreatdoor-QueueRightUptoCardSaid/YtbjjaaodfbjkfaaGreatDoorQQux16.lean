import Derived.Test.YtbjjaaodfbjkfaaGreatDoorQQux15
set_option maxHeartbeats 8000000
set_option maxRecDepth 100000
namespace Go.Proofs.YtbjjaaodfbjkfaaGreatDoor.mN
open Go.RowKit Go.Proofs.YtbjjaaodfbjkfaaGreatDoor.xV Go.Proofs.ak.bQ Go.Proofs.ak.dA Go.Proofs.ak.cX
attribute [local go_sem] jc jd j4 j5 gU gV je jf
set_option linter.unusedVariables false
set_option linter.unusedSimpArgs false
attribute [local go_sem high] Nj
def bO.l0:Nat→List Int→List Int→Int→Int→Option (Bool)
 | 0,_,_,_,_ =>none
 |k + 1,x0,x1,xA,o9=>if o9 < xA then (if 0≤o9 then (if o9 < (x0.length:Int) then (if o9 < (x1.length:Int) then (if (rd x0 o9)=(rd x1 o9) then (bO.l0 k x0 x1 xA (wrap64 (o9 + 1))) else (some false)) else (none)) else (none)) else (none)) else (some true)
def bO.f (k:Nat) (l0:List Int) (l1:List Int):Option (Bool):=if (l0.length:Int)=(l1.length:Int) then (bO.l0 k l0 l1 (l0.length:Int) 0) else (some false)
theorem bO.ey:∀ k,(∀ y0 y1 y2 y3,eY (bO.l0 k y0 y1 y2 y3) (bO.l0 (k + 1) y0 y1 y2 y3))
 | 0=>fun _ _ _ _ r h=>by simp [bO.l0] at h
 |k + 1=>by
  have mC:=bO.ey k
  ·intro y0 y1 y2 y3
   unfold bO.l0
   repeat' (with_reducible first|exact mC _ _ _ _|exact eY.refl _|refine eY.ite ?_ ?_)
theorem bO.mono:∀ a0 a1 k,eY (bO.f k a0 a1) (bO.f (k + 1) a0 a1):=by
 intro a0 a1 k
 have mC:=bO.ey k
 unfold bO.f
 repeat' (with_reducible first|exact mC _ _ _ _|exact eY.refl _|refine eY.ite ?_ ?_)
theorem bO.calls (k:Nat) (A0:Option Addr) (c0:Nat) (l0:List Int) (A1:Option Addr) (c1:Nat) (l1:List Int) (r:Bool) (w:World) (nE:Kd.C (Kd.int .u8) w A0 l0.length l0) (hc0:l0.length≤c0) (hr1:Kd.C (Kd.int .u8) w A1 l1.length l1) (hc1:l1.length≤c1) (h:bO.f k l0 l1=some r):
 Calls Tryz.prog 116 #[.slice A0 l0.length c0,.slice A1 l1.length c1] w fun e w'=>e= .returned (.bool r)∧ij w w':=by
 have qZ:=ah.mk nE
 have E7:=ah.mk hc0
 clear nE hc0
 have Fh:=ah.mk hr1
 have ym:=ah.mk hc1
 clear hr1 hc1
 have H:(if (l0.length:Int)=(l1.length:Int) then (bO.l0 k l0 l1 (l0.length:Int) 0) else (some false))=some r:=h
 clear h
 by_cases c3:(l0.length:Int)=(l1.length:Int)
 ·rw [if_pos c3] at H
  have nr:=beq_iff_eq.mpr c3
  have xk:=bne_eq_false_iff_eq.mpr c3
  have QE:(l0.length == l1.length)=true:=by (simp at c3 ⊢;omega)
  clear c3
  have H':=ah.mk H
  clear H
  go_enter Tryz.func116,Tryz.ntmps116
  go_wp2
  repeat (go_quiet (fail);skip)
  go_loopg [13] k (fun kq v13 w'=>∃ (bz:Int),v13= .int .i64 bz∧ah (bO.l0 kq l0 l1 (l0.length:Int) bz=some r)∧ah (kq≤k)∧ij w w')
  case atStart=>exact ⟨(0),(by rfl),H',⟨Nat.le_refl _⟩,mj⟩
  case round=>
   clear H'
   obtain ⟨bz,rfl,HA,qi,⟨m1,rfl⟩⟩:=hrel
   cases gk with
   |zero=>exact absurd HA.out (by simp [bO.l0])
   |succ k1=>
    have H:=HA.out
    clear HA
    simp only [bO.l0] at H
    by_cases c4:bz < (l0.length:Int)
    ·rw [if_pos c4] at H
     have mo:=decide_eq_true c4
     clear c4
     obtain ⟨c5,H⟩:=lJ H
     have pG:=decide_eq_true c5
     clear c5
     obtain ⟨c6,H⟩:=lJ H
     have xW:=decide_eq_true c6
     clear c6
     obtain ⟨c7,H⟩:=lJ H
     have JZ:=decide_eq_true c7
     clear c7
     by_cases c8:(rd l0 bz)=(rd l1 bz)
     ·rw [if_pos c8] at H
      have BF:=beq_iff_eq.mpr c8
      have Lp:=bne_eq_false_iff_eq.mpr c8
      clear c8
      have H':=ah.mk H
      clear H
      have Mx: 0≤(bz:Int):=of_decide_eq_true cu
      have My:bz < (l0.length:Int):=of_decide_eq_true cu
      obtain ⟨ajD,e287,Zx⟩:=Kd.ud qZ.out bz Mx My
      cases e287
      replace Mx:=eq_true Mx
      replace My:=eq_true My
      have Mz: 0≤(bz:Int):=of_decide_eq_true cu
      have MA:bz < (l1.length:Int):=of_decide_eq_true cu
      obtain ⟨ajE,ac8,Zy⟩:=Kd.ud Fh.out bz Mz MA
      cases ac8
      replace Mz:=eq_true Mz
      replace MA:=eq_true MA
      go_wp2
      repeat (go_quiet (fail);try go_wp2)
      go_roundg k1
      case measure=>have:=qi.out;omega
      case rel=>exact ⟨(wrap64 (bz + 1)),(by rfl),H',⟨lI⟩,kI⟩
     ·rw [if_neg c8] at H
      have BF:=beq_eq_false_iff_ne.mpr c8
      have Lp:=bne_iff_ne.mpr c8
      obtain rfl:=Option.some.inj H
      have Mx: 0≤(bz:Int):=of_decide_eq_true cu
      have My:bz < (l0.length:Int):=of_decide_eq_true cu
      obtain ⟨ajD,e287,Zx⟩:=Kd.ud qZ.out bz Mx My
      cases e287
      replace Mx:=eq_true Mx
      replace My:=eq_true My
      have Mz: 0≤(bz:Int):=of_decide_eq_true cu
      have MA:bz < (l1.length:Int):=of_decide_eq_true cu
      obtain ⟨ajE,ac8,Zy⟩:=Kd.ud Fh.out bz Mz MA
      cases ac8
      replace Mz:=eq_true Mz
      replace MA:=eq_true MA
      go_wp2
      repeat (go_quiet (fail);try go_wp2)
      go_ret
      exact ⟨by rfl,kI⟩
    ·rw [if_neg c4] at H
     have mo:=decide_eq_false c4
     clear c4
     obtain rfl:=Option.some.inj H
     go_wp2
     repeat (go_quiet (fail);skip)
     go_ret
     exact ⟨by rfl,kI⟩
 ·rw [if_neg c3] at H
  have nr:=beq_eq_false_iff_ne.mpr c3
  have xk:=bne_iff_ne.mpr c3
  have QE:(l0.length == l1.length)=false:=by (simp at c3 ⊢;omega)
  obtain rfl:=Option.some.inj H
  go_enter Tryz.func116,Tryz.ntmps116
  go_wp2
  repeat (go_quiet (fail);skip)
  go_ret
  exact ⟨by rfl,mj⟩
def gw.f (k:Nat) (bf:Int) (bP:Bool) (cH:List ByteArray) (bE:ByteArray) (bK:ByteArray) (bU:Bool) (bN:List (jz)) (cM:List Int) (bX:Int) (iL:Int) (jh:Bool) (kM:List ByteArray) (iU:ByteArray) (iM:ByteArray) (iN:Bool) (iI:List (jz)) (lD:List Int) (jA:Int):Option (Bool):=if bf=iL then (if bX=jA then (if (bP == jh)=true then (if (bE.toList == iU.toList && (bK.toList == iM.toList && (bU == iN)))=true then ((bu.f k cH kM).bind fun t291=>(if t291=true then ((bn.f k bN iI).bind fun t292=>(if t292=true then ((bO.f k cM lD).bind fun t293=>(some t293)) else (some false))) else (some false))) else (some false)) else (some false)) else (some false)) else (some false)
theorem gw.mono:∀ a0 a1 a2 a3 a4 a5 a6 a7 a8 a9 TK TL a12 a13 a14 a15 a16 a17 k,eY (gw.f k a0 a1 a2 a3 a4 a5 a6 a7 a8 a9 TK TL a12 a13 a14 a15 a16 a17) (gw.f (k + 1) a0 a1 a2 a3 a4 a5 a6 a7 a8 a9 TK TL a12 a13 a14 a15 a16 a17):=by
 intro a0 a1 a2 a3 a4 a5 a6 a7 a8 a9 TK TL a12 a13 a14 a15 a16 a17 k
 unfold gw.f
 repeat' (with_reducible first|exact bn.mono _ _ _|exact bO.mono _ _ _|exact bu.mono _ _ _|exact eY.refl _|refine eY.ite ?_ ?_|refine eY.bind ?_ (fun _ =>?_))
theorem gw.calls (k:Nat) (bf:Int) (bP:Bool) (dR:Option Addr) (dS:Nat) (cH:List ByteArray) (bE:ByteArray) (bK:ByteArray) (bU:Bool) (cU:Option Addr) (cT:Nat) (bN:List (jz)) (dU:Option Addr) (dV:Nat) (cM:List Int) (bX:Int) (iL:Int) (jh:Bool) (n7:Option Addr) (n9:Nat) (kM:List ByteArray) (iU:ByteArray) (iM:ByteArray) (iN:Bool) (lO:Option Addr) (lQ:Nat) (iI:List (jz)) (oa:Option Addr) (oc:Nat) (lD:List Int) (jA:Int) (r:Bool) (w:World) (qp:Kd.C Kd.string w dR cH.length cH) (qq:cH.length≤dS) (mH:Kd.C tq w cU bN.length bN) (mQ:bN.length≤cT) (qu:Kd.C (Kd.int .u8) w dU cM.length cM) (qw:cM.length≤dV) (Kn:Kd.C Kd.string w n7 kM.length kM) (Ko:kM.length≤n9) (zB:Kd.C tq w lO iI.length iI) (zC:iI.length≤lQ) (Kp:Kd.C (Kd.int .u8) w oa lD.length lD) (Kq:lD.length≤oc) (h:gw.f k bf bP cH bE bK bU bN cM bX iL jh kM iU iM iN iI lD jA=some r):
 Calls Tryz.prog 70 #[.agg #[.int .i64 bf,.bool bP,.slice dR cH.length dS,.string bE,.string bK,.bool bU,.slice cU bN.length cT,.slice dU cM.length dV,.int .i64 bX],.agg #[.int .i64 iL,.bool jh,.slice n7 kM.length n9,.string iU,.string iM,.bool iN,.slice lO iI.length lQ,.slice oa lD.length oc,.int .i64 jA]] w fun e w'=>e= .returned (.bool r)∧Below w.heap.size w w':=by
 have BD:=Tryz.underlying34
 have JW:=Tryz.underlying29
 have mI:=ah.mk qp
 have mJ:=ah.mk qq
 clear qp qq
 have lH:=ah.mk mH
 have mA:=ah.mk mQ
 clear mH mQ
 have vW:=ah.mk qu
 have vX:=ah.mk qw
 clear qu qw
 have OQ:=ah.mk Kn
 have OS:=ah.mk Ko
 clear Kn Ko
 have TE:=ah.mk zB
 have TF:=ah.mk zC
 clear zB zC
 have aaD:=ah.mk Kp
 have aaE:=ah.mk Kq
 clear Kp Kq
 have HB:=ah.mk (Below.refl w.heap.size w)
 have H:(if bf=iL then (if bX=jA then (if (bP == jh)=true then (if (bE.toList == iU.toList && (bK.toList == iM.toList && (bU == iN)))=true then ((bu.f k cH kM).bind fun t291=>(if t291=true then ((bn.f k bN iI).bind fun t292=>(if t292=true then ((bO.f k cM lD).bind fun t293=>(some t293)) else (some false))) else (some false))) else (some false)) else (some false)) else (some false)) else (some false))=some r:=h
 clear h
 by_cases c3:bf=iL
 ·rw [if_pos c3] at H
  have nr:=beq_iff_eq.mpr c3
  have xk:=bne_eq_false_iff_eq.mpr c3
  clear c3
  by_cases c4:bX=jA
  ·rw [if_pos c4] at H
   have mo:=beq_iff_eq.mpr c4
   have Aj:=bne_eq_false_iff_eq.mpr c4
   clear c4
   by_cases c5:(bP == jh)=true
   ·rw [if_pos c5] at H
    have pG:(bP == jh)=true:=c5
    (try (have Lx:decide (bP=jh)=true:=by simpa using c5))
    (try (have axT:(bP == jh)=true:=by simpa using c5))
    clear c5
    by_cases c6:(bE.toList == iU.toList && (bK.toList == iM.toList && (bU == iN)))=true
    ·rw [if_pos c6] at H
     have xW:(bE.toList == iU.toList && (bK.toList == iM.toList && (bU == iN)))=true:=c6
     (try (have SR:decide (bE.toList=iU.toList && (bK.toList == iM.toList && (bU == iN)))=true:=by simpa using c6))
     (try (have axU:(bE.toList == iU.toList && (bK.toList == iM.toList && (bU == iN)))=true:=by simpa using c6))
     clear c6
     obtain ⟨t291,A7,H⟩:=bd_ H
     by_cases c8:t291=true
     ·subst c8
      rw [if_pos rfl] at H
      obtain ⟨t292,A9,H⟩:=bd_ H
      by_cases c10:t292=true
      ·subst c10
       rw [if_pos rfl] at H
       obtain ⟨t293,A11,H⟩:=bd_ H
       obtain rfl:=Option.some.inj H
       go_enter Tryz.func70,Tryz.ntmps70
       go_wp2_with (first|((with_reducible refine bq (N:=2) rfl ?_);refine br ?hg (N:=2) ?hd (cs:=#[.int .i64 bf,.bool bP,.slice dR cH.length dS,.string bE,.string bK,.bool bU,.slice cU bN.length cT,.slice dU cM.length dV,.int .i64 bX]) (t:=34) ?hr ?_;(case hd=>rfl);(case hg=>rfl);(case hr=>(go_simp;done));intro dm hg Cx bJ hb;have cr:=ah.mk (bJ);have Fx:=ah.mk ((bI:w.heap.size≤dm));have Fy:=ah.mk ((bI:w.heap.size≤dm));replace HB:=ah.mk (ay aJ hb);clear hb bJ hg)|((with_reducible refine bq (N:=3) rfl ?_);refine br ?hg (N:=3) ?hd (cs:=#[.int .i64 iL,.bool jh,.slice n7 kM.length n9,.string iU,.string iM,.bool iN,.slice lO iI.length lQ,.slice oa lD.length oc,.int .i64 jA]) (t:=34) ?hr ?_;(case hd=>rfl);(case hg=>rfl);(case hr=>(go_simp;done));intro dn hg ko bJ hb;have cA:=ah.mk (bJ);have Fz:=ah.mk ((bI:w.heap.size≤dn));have FA:=ah.mk ((bI:w.heap.size≤dn));replace HB:=ah.mk (ay aJ hb);have jR:=ah.mk ((xI:dm≠dn));have jS:=ah.mk ((xJ:dn≠dm));replace cr:=ah.mk (az xL hb);clear hb bJ hg;have ajF:=jR.out;have ajG:=jS.out;have Ix:ko.cell? ⟨dm,0,none⟩=some (.int .i64 bf):=(af cr.out 0).trans rfl;have Iy:ko.cell? ⟨dm,1,none⟩=some (.bool bP):=(af cr.out 1).trans rfl;have O8:ko.cell? ⟨dm,2,none⟩=some (.slice dR cH.length dS):=(af cr.out 2).trans rfl;have O9:ko.cell? ⟨dm,3,none⟩=some (.string bE):=(af cr.out 3).trans rfl;have Pb:ko.cell? ⟨dm,4,none⟩=some (.string bK):=(af cr.out 4).trans rfl;have Pc:ko.cell? ⟨dm,5,none⟩=some (.bool bU):=(af cr.out 5).trans rfl;have Pd:ko.cell? ⟨dm,6,none⟩=some (.slice cU bN.length cT):=(af cr.out 6).trans rfl;have Pe:ko.cell? ⟨dm,7,none⟩=some (.slice dU cM.length dV):=(af cr.out 7).trans rfl;have Pf:ko.cell? ⟨dm,8,none⟩=some (.int .i64 bX):=(af cr.out 8).trans rfl;have Iz:=aa cr.out 0;have IA:=aa cr.out 1;have Pg:=aa cr.out 2;have Ph:=aa cr.out 3;have Pj:=aa cr.out 4;have Pk:=aa cr.out 5;have Pm:=aa cr.out 6;have Pn:=aa cr.out 7;have Po:=aa cr.out 8;have za:ko.cell? ⟨dn,0,none⟩=some (.int .i64 iL):=(af cA.out 0).trans rfl;have zb:ko.cell? ⟨dn,1,none⟩=some (.bool jh):=(af cA.out 1).trans rfl;have ze:ko.cell? ⟨dn,2,none⟩=some (.slice n7 kM.length n9):=(af cA.out 2).trans rfl;have zf:ko.cell? ⟨dn,3,none⟩=some (.string iU):=(af cA.out 3).trans rfl;have zg:ko.cell? ⟨dn,4,none⟩=some (.string iM):=(af cA.out 4).trans rfl;have Ck:ko.cell? ⟨dn,5,none⟩=some (.bool iN):=(af cA.out 5).trans rfl;have Gq:ko.cell? ⟨dn,6,none⟩=some (.slice lO iI.length lQ):=(af cA.out 6).trans rfl;have Gr:ko.cell? ⟨dn,7,none⟩=some (.slice oa lD.length oc):=(af cA.out 7).trans rfl;have Gs:ko.cell? ⟨dn,8,none⟩=some (.int .i64 jA):=(af cA.out 8).trans rfl;have zh:=aa cA.out 0;have zi:=aa cA.out 1;have zj:=aa cA.out 2;have zk:=aa cA.out 3;have zl:=aa cA.out 4;have Cl:=aa cA.out 5;have Gt:=aa cA.out 6;have Gu:=aa cA.out 7;have Gv:=aa cA.out 8)|(go_at_call 114;(with_reducible refine (bu.calls k _ _ cH _ _ kM true _ ?bk ?bM ?cQ ?fk A7.out).mono ?_);(case bk=>repeat (exact (Kd.bD mI.out HB.out)));(case bM=>exact mJ.out);(case cQ=>repeat (exact (Kd.bD OQ.out HB.out)));(case fk=>exact OS.out);rintro e w' ⟨rfl,⟨nd,rfl⟩⟩)|(go_at_call 115;(with_reducible refine (bn.calls k _ _ bN _ _ iI true _ ?bk ?bM ?cQ ?fk A9.out).mono ?_);(case bk=>repeat (exact (Kd.bD lH.out dY)));(case bM=>exact mA.out);(case cQ=>repeat (exact (Kd.bD TE.out dY)));(case fk=>exact TF.out);rintro e w' ⟨rfl,⟨nd,rfl⟩⟩)|(go_at_call 116;(with_reducible refine (bO.calls k _ _ cM _ _ lD t293 _ ?bk ?bM ?cQ ?fk A11.out).mono ?_);(case bk=>repeat (exact (Kd.bD vW.out dY)));(case bM=>exact vX.out);(case cQ=>repeat (exact (Kd.bD aaD.out dY)));(case fk=>exact aaE.out);rintro e w' ⟨rfl,⟨nd,rfl⟩⟩))
       go_ret
       exact ⟨by rfl,dY⟩
      ·replace c10:=Bool.eq_false_iff.mpr c10
       subst c10
       rw [if_neg (show ¬ (false=true) by decide)] at H
       obtain rfl:=Option.some.inj H
       go_enter Tryz.func70,Tryz.ntmps70
       go_wp2_with (first|((with_reducible refine bq (N:=2) rfl ?_);refine br ?hg (N:=2) ?hd (cs:=#[.int .i64 bf,.bool bP,.slice dR cH.length dS,.string bE,.string bK,.bool bU,.slice cU bN.length cT,.slice dU cM.length dV,.int .i64 bX]) (t:=34) ?hr ?_;(case hd=>rfl);(case hg=>rfl);(case hr=>(go_simp;done));intro dm hg sL bJ hb;have cr:=ah.mk (bJ);have Fx:=ah.mk ((bI:w.heap.size≤dm));have Fy:=ah.mk ((bI:w.heap.size≤dm));replace HB:=ah.mk (ay aJ hb);clear hb bJ hg)|((with_reducible refine bq (N:=3) rfl ?_);refine br ?hg (N:=3) ?hd (cs:=#[.int .i64 iL,.bool jh,.slice n7 kM.length n9,.string iU,.string iM,.bool iN,.slice lO iI.length lQ,.slice oa lD.length oc,.int .i64 jA]) (t:=34) ?hr ?_;(case hd=>rfl);(case hg=>rfl);(case hr=>(go_simp;done));intro dn hg tK bJ hb;have cA:=ah.mk (bJ);have Fz:=ah.mk ((bI:w.heap.size≤dn));have FA:=ah.mk ((bI:w.heap.size≤dn));replace HB:=ah.mk (ay aJ hb);have jR:=ah.mk ((xI:dm≠dn));have jS:=ah.mk ((xJ:dn≠dm));replace cr:=ah.mk (az xL hb);clear hb bJ hg;have aav:=jR.out;have aaw:=jS.out;have Cz:tK.cell? ⟨dm,0,none⟩=some (.int .i64 bf):=(af cr.out 0).trans rfl;have CA:tK.cell? ⟨dm,1,none⟩=some (.bool bP):=(af cr.out 1).trans rfl;have CB:tK.cell? ⟨dm,2,none⟩=some (.slice dR cH.length dS):=(af cr.out 2).trans rfl;have Ih:tK.cell? ⟨dm,3,none⟩=some (.string bE):=(af cr.out 3).trans rfl;have Ii:tK.cell? ⟨dm,4,none⟩=some (.string bK):=(af cr.out 4).trans rfl;have Ij:tK.cell? ⟨dm,5,none⟩=some (.bool bU):=(af cr.out 5).trans rfl;have OE:tK.cell? ⟨dm,6,none⟩=some (.slice cU bN.length cT):=(af cr.out 6).trans rfl;have OG:tK.cell? ⟨dm,7,none⟩=some (.slice dU cM.length dV):=(af cr.out 7).trans rfl;have OH:tK.cell? ⟨dm,8,none⟩=some (.int .i64 bX):=(af cr.out 8).trans rfl;have CC:=aa cr.out 0;have CD:=aa cr.out 1;have CE:=aa cr.out 2;have Ik:=aa cr.out 3;have Il:=aa cr.out 4;have Im:=aa cr.out 5;have OI:=aa cr.out 6;have OJ:=aa cr.out 7;have OL:=aa cr.out 8;have VB:tK.cell? ⟨dn,0,none⟩=some (.int .i64 iL):=(af cA.out 0).trans rfl;have VC:tK.cell? ⟨dn,1,none⟩=some (.bool jh):=(af cA.out 1).trans rfl;have VD:tK.cell? ⟨dn,2,none⟩=some (.slice n7 kM.length n9):=(af cA.out 2).trans rfl;have VE:tK.cell? ⟨dn,3,none⟩=some (.string iU):=(af cA.out 3).trans rfl;have VF:tK.cell? ⟨dn,4,none⟩=some (.string iM):=(af cA.out 4).trans rfl;have ate:tK.cell? ⟨dn,5,none⟩=some (.bool iN):=(af cA.out 5).trans rfl;have atf:tK.cell? ⟨dn,6,none⟩=some (.slice lO iI.length lQ):=(af cA.out 6).trans rfl;have atg:tK.cell? ⟨dn,7,none⟩=some (.slice oa lD.length oc):=(af cA.out 7).trans rfl;have ath:tK.cell? ⟨dn,8,none⟩=some (.int .i64 jA):=(af cA.out 8).trans rfl;have VG:=aa cA.out 0;have VH:=aa cA.out 1;have VI:=aa cA.out 2;have VJ:=aa cA.out 3;have VK:=aa cA.out 4;have ati:=aa cA.out 5;have atj:=aa cA.out 6;have atk:=aa cA.out 7;have atl:=aa cA.out 8)|(go_at_call 114;(with_reducible refine (bu.calls k _ _ cH _ _ kM true _ ?bk ?bM ?cQ ?fk A7.out).mono ?_);(case bk=>repeat (exact (Kd.bD mI.out HB.out)));(case bM=>exact mJ.out);(case cQ=>repeat (exact (Kd.bD OQ.out HB.out)));(case fk=>exact OS.out);rintro e w' ⟨rfl,⟨nd,rfl⟩⟩)|(go_at_call 115;(with_reducible refine (bn.calls k _ _ bN _ _ iI false _ ?bk ?bM ?cQ ?fk A9.out).mono ?_);(case bk=>repeat (exact (Kd.bD lH.out dY)));(case bM=>exact mA.out);(case cQ=>repeat (exact (Kd.bD TE.out dY)));(case fk=>exact TF.out);rintro e w' ⟨rfl,⟨nd,rfl⟩⟩))
       go_ret
       exact ⟨by rfl,dY⟩
     ·replace c8:=Bool.eq_false_iff.mpr c8
      subst c8
      rw [if_neg (show ¬ (false=true) by decide)] at H
      obtain rfl:=Option.some.inj H
      go_enter Tryz.func70,Tryz.ntmps70
      go_wp2_with (first|((with_reducible refine bq (N:=2) rfl ?_);refine br ?hg (N:=2) ?hd (cs:=#[.int .i64 bf,.bool bP,.slice dR cH.length dS,.string bE,.string bK,.bool bU,.slice cU bN.length cT,.slice dU cM.length dV,.int .i64 bX]) (t:=34) ?hr ?_;(case hd=>rfl);(case hg=>rfl);(case hr=>(go_simp;done));intro dm hg UC bJ hb;have cr:=ah.mk (bJ);have Fx:=ah.mk ((bI:w.heap.size≤dm));have Fy:=ah.mk ((bI:w.heap.size≤dm));replace HB:=ah.mk (ay aJ hb);clear hb bJ hg)|((with_reducible refine bq (N:=3) rfl ?_);refine br ?hg (N:=3) ?hd (cs:=#[.int .i64 iL,.bool jh,.slice n7 kM.length n9,.string iU,.string iM,.bool iN,.slice lO iI.length lQ,.slice oa lD.length oc,.int .i64 jA]) (t:=34) ?hr ?_;(case hd=>rfl);(case hg=>rfl);(case hr=>(go_simp;done));intro dn hg rG bJ hb;have cA:=ah.mk (bJ);have Fz:=ah.mk ((bI:w.heap.size≤dn));have FA:=ah.mk ((bI:w.heap.size≤dn));replace HB:=ah.mk (ay aJ hb);have jR:=ah.mk ((xI:dm≠dn));have jS:=ah.mk ((xJ:dn≠dm));replace cr:=ah.mk (az xL hb);clear hb bJ hg;have ai3:=jR.out;have ai4:=jS.out;have CF:rG.cell? ⟨dm,0,none⟩=some (.int .i64 bf):=(af cr.out 0).trans rfl;have CG:rG.cell? ⟨dm,1,none⟩=some (.bool bP):=(af cr.out 1).trans rfl;have CH:rG.cell? ⟨dm,2,none⟩=some (.slice dR cH.length dS):=(af cr.out 2).trans rfl;have GN:rG.cell? ⟨dm,3,none⟩=some (.string bE):=(af cr.out 3).trans rfl;have GP:rG.cell? ⟨dm,4,none⟩=some (.string bK):=(af cr.out 4).trans rfl;have Pp:rG.cell? ⟨dm,5,none⟩=some (.bool bU):=(af cr.out 5).trans rfl;have Pq:rG.cell? ⟨dm,6,none⟩=some (.slice cU bN.length cT):=(af cr.out 6).trans rfl;have Pr:rG.cell? ⟨dm,7,none⟩=some (.slice dU cM.length dV):=(af cr.out 7).trans rfl;have Pv:rG.cell? ⟨dm,8,none⟩=some (.int .i64 bX):=(af cr.out 8).trans rfl;have CI:=aa cr.out 0;have CJ:=aa cr.out 1;have CK:=aa cr.out 2;have GQ:=aa cr.out 3;have GR:=aa cr.out 4;have Pw:=aa cr.out 5;have Px:=aa cr.out 6;have Py:=aa cr.out 7;have Pz:=aa cr.out 8;have NM:rG.cell? ⟨dn,0,none⟩=some (.int .i64 iL):=(af cA.out 0).trans rfl;have NN:rG.cell? ⟨dn,1,none⟩=some (.bool jh):=(af cA.out 1).trans rfl;have VW:rG.cell? ⟨dn,2,none⟩=some (.slice n7 kM.length n9):=(af cA.out 2).trans rfl;have VX:rG.cell? ⟨dn,3,none⟩=some (.string iU):=(af cA.out 3).trans rfl;have VY:rG.cell? ⟨dn,4,none⟩=some (.string iM):=(af cA.out 4).trans rfl;have VZ:rG.cell? ⟨dn,5,none⟩=some (.bool iN):=(af cA.out 5).trans rfl;have V2:rG.cell? ⟨dn,6,none⟩=some (.slice lO iI.length lQ):=(af cA.out 6).trans rfl;have V3:rG.cell? ⟨dn,7,none⟩=some (.slice oa lD.length oc):=(af cA.out 7).trans rfl;have V4:rG.cell? ⟨dn,8,none⟩=some (.int .i64 jA):=(af cA.out 8).trans rfl;have NP:=aa cA.out 0;have NQ:=aa cA.out 1;have V5:=aa cA.out 2;have V6:=aa cA.out 3;have V7:=aa cA.out 4;have V8:=aa cA.out 5;have V9:=aa cA.out 6;have Wa:=aa cA.out 7;have Wb:=aa cA.out 8)|(go_at_call 114;(with_reducible refine (bu.calls k _ _ cH _ _ kM false _ ?bk ?bM ?cQ ?fk A7.out).mono ?_);(case bk=>repeat (exact (Kd.bD mI.out HB.out)));(case bM=>exact mJ.out);(case cQ=>repeat (exact (Kd.bD OQ.out HB.out)));(case fk=>exact OS.out);rintro e w' ⟨rfl,⟨nd,rfl⟩⟩))
      go_ret
      exact ⟨by rfl,dY⟩
    ·rw [if_neg c6] at H
     have xW:(bE.toList == iU.toList && (bK.toList == iM.toList && (bU == iN)))=false:=by simpa using c6
     (try (have SR:decide (bE.toList=iU.toList && (bK.toList == iM.toList && (bU == iN)))=false:=by simpa using c6))
     (try (have axU:(bE.toList == iU.toList && (bK.toList == iM.toList && (bU == iN)))=false:=by simpa using c6))
     (try (have aDz: ¬ (bE.toList=iU.toList && (bK.toList == iM.toList && (bU == iN))):=by simpa using c6))
     clear c6
     obtain rfl:=Option.some.inj H
     go_enter Tryz.func70,Tryz.ntmps70
     go_wp2_with (first|((with_reducible refine bq (N:=2) rfl ?_);refine br ?hg (N:=2) ?hd (cs:=#[.int .i64 bf,.bool bP,.slice dR cH.length dS,.string bE,.string bK,.bool bU,.slice cU bN.length cT,.slice dU cM.length dV,.int .i64 bX]) (t:=34) ?hr ?_;(case hd=>rfl);(case hg=>rfl);(case hr=>(go_simp;done));intro dm hg QD bJ hb;have cr:=ah.mk (bJ);have Fx:=ah.mk ((bI:w.heap.size≤dm));have Fy:=ah.mk ((bI:w.heap.size≤dm));replace HB:=ah.mk (ay aJ hb);clear hb bJ hg)|((with_reducible refine bq (N:=3) rfl ?_);refine br ?hg (N:=3) ?hd (cs:=#[.int .i64 iL,.bool jh,.slice n7 kM.length n9,.string iU,.string iM,.bool iN,.slice lO iI.length lQ,.slice oa lD.length oc,.int .i64 jA]) (t:=34) ?hr ?_;(case hd=>rfl);(case hg=>rfl);(case hr=>(go_simp;done));intro dn hg Ak bJ hb;have cA:=ah.mk (bJ);have Fz:=ah.mk ((bI:w.heap.size≤dn));have FA:=ah.mk ((bI:w.heap.size≤dn));replace HB:=ah.mk (ay aJ hb);have jR:=ah.mk ((xI:dm≠dn));have jS:=ah.mk ((xJ:dn≠dm));replace cr:=ah.mk (az xL hb);clear hb bJ hg;have ajH:=jR.out;have ajI:=jS.out;have atm:Ak.cell? ⟨dm,0,none⟩=some (.int .i64 bf):=(af cr.out 0).trans rfl;have atn:Ak.cell? ⟨dm,1,none⟩=some (.bool bP):=(af cr.out 1).trans rfl;have ato:Ak.cell? ⟨dm,2,none⟩=some (.slice dR cH.length dS):=(af cr.out 2).trans rfl;have atp:Ak.cell? ⟨dm,3,none⟩=some (.string bE):=(af cr.out 3).trans rfl;have atq:Ak.cell? ⟨dm,4,none⟩=some (.string bK):=(af cr.out 4).trans rfl;have atr:Ak.cell? ⟨dm,5,none⟩=some (.bool bU):=(af cr.out 5).trans rfl;have att:Ak.cell? ⟨dm,6,none⟩=some (.slice cU bN.length cT):=(af cr.out 6).trans rfl;have atu:Ak.cell? ⟨dm,7,none⟩=some (.slice dU cM.length dV):=(af cr.out 7).trans rfl;have atv:Ak.cell? ⟨dm,8,none⟩=some (.int .i64 bX):=(af cr.out 8).trans rfl;have atw:=aa cr.out 0;have atx:=aa cr.out 1;have aty:=aa cr.out 2;have atz:=aa cr.out 3;have atA:=aa cr.out 4;have atB:=aa cr.out 5;have atC:=aa cr.out 6;have atD:=aa cr.out 7;have atE:=aa cr.out 8;have PN:Ak.cell? ⟨dn,0,none⟩=some (.int .i64 iL):=(af cA.out 0).trans rfl;have PO:Ak.cell? ⟨dn,1,none⟩=some (.bool jh):=(af cA.out 1).trans rfl;have PR:Ak.cell? ⟨dn,2,none⟩=some (.slice n7 kM.length n9):=(af cA.out 2).trans rfl;have PS:Ak.cell? ⟨dn,3,none⟩=some (.string iU):=(af cA.out 3).trans rfl;have PT:Ak.cell? ⟨dn,4,none⟩=some (.string iM):=(af cA.out 4).trans rfl;have PU:Ak.cell? ⟨dn,5,none⟩=some (.bool iN):=(af cA.out 5).trans rfl;have YS:Ak.cell? ⟨dn,6,none⟩=some (.slice lO iI.length lQ):=(af cA.out 6).trans rfl;have YT:Ak.cell? ⟨dn,7,none⟩=some (.slice oa lD.length oc):=(af cA.out 7).trans rfl;have YU:Ak.cell? ⟨dn,8,none⟩=some (.int .i64 jA):=(af cA.out 8).trans rfl;have PV:=aa cA.out 0;have PW:=aa cA.out 1;have PX:=aa cA.out 2;have PY:=aa cA.out 3;have PZ:=aa cA.out 4;have P4:=aa cA.out 5;have YV:=aa cA.out 6;have YW:=aa cA.out 7;have YX:=aa cA.out 8))
     go_ret
     exact ⟨by rfl,aJ⟩
   ·rw [if_neg c5] at H
    have pG:(bP == jh)=false:=by simpa using c5
    (try (have Lx:decide (bP=jh)=false:=by simpa using c5))
    (try (have axT:(bP == jh)=false:=by simpa using c5))
    (try (have aDA: ¬ (bP=jh):=by simpa using c5))
    clear c5
    obtain rfl:=Option.some.inj H
    go_enter Tryz.func70,Tryz.ntmps70
    go_wp2_with (first|((with_reducible refine bq (N:=2) rfl ?_);refine br ?hg (N:=2) ?hd (cs:=#[.int .i64 bf,.bool bP,.slice dR cH.length dS,.string bE,.string bK,.bool bU,.slice cU bN.length cT,.slice dU cM.length dV,.int .i64 bX]) (t:=34) ?hr ?_;(case hd=>rfl);(case hg=>rfl);(case hr=>(go_simp;done));intro dm hg wW bJ hb;have cr:=ah.mk (bJ);have Fx:=ah.mk ((bI:w.heap.size≤dm));have Fy:=ah.mk ((bI:w.heap.size≤dm));replace HB:=ah.mk (ay aJ hb);clear hb bJ hg)|((with_reducible refine bq (N:=3) rfl ?_);refine br ?hg (N:=3) ?hd (cs:=#[.int .i64 iL,.bool jh,.slice n7 kM.length n9,.string iU,.string iM,.bool iN,.slice lO iI.length lQ,.slice oa lD.length oc,.int .i64 jA]) (t:=34) ?hr ?_;(case hd=>rfl);(case hg=>rfl);(case hr=>(go_simp;done));intro dn hg JE bJ hb;have cA:=ah.mk (bJ);have Fz:=ah.mk ((bI:w.heap.size≤dn));have FA:=ah.mk ((bI:w.heap.size≤dn));replace HB:=ah.mk (ay aJ hb);have jR:=ah.mk ((xI:dm≠dn));have jS:=ah.mk ((xJ:dn≠dm));replace cr:=ah.mk (az xL hb);clear hb bJ hg;have aAL:=jR.out;have aAM:=jS.out;have Vu:JE.cell? ⟨dm,0,none⟩=some (.int .i64 bf):=(af cr.out 0).trans rfl;have Vv:JE.cell? ⟨dm,1,none⟩=some (.bool bP):=(af cr.out 1).trans rfl;have Vw:JE.cell? ⟨dm,2,none⟩=some (.slice dR cH.length dS):=(af cr.out 2).trans rfl;have atF:JE.cell? ⟨dm,3,none⟩=some (.string bE):=(af cr.out 3).trans rfl;have atG:JE.cell? ⟨dm,4,none⟩=some (.string bK):=(af cr.out 4).trans rfl;have atH:JE.cell? ⟨dm,5,none⟩=some (.bool bU):=(af cr.out 5).trans rfl;have atI:JE.cell? ⟨dm,6,none⟩=some (.slice cU bN.length cT):=(af cr.out 6).trans rfl;have atJ:JE.cell? ⟨dm,7,none⟩=some (.slice dU cM.length dV):=(af cr.out 7).trans rfl;have atK:JE.cell? ⟨dm,8,none⟩=some (.int .i64 bX):=(af cr.out 8).trans rfl;have Vx:=aa cr.out 0;have Vy:=aa cr.out 1;have Vz:=aa cr.out 2;have atL:=aa cr.out 3;have atM:=aa cr.out 4;have atN:=aa cr.out 5;have atO:=aa cr.out 6;have atP:=aa cr.out 7;have atQ:=aa cr.out 8;have YY:JE.cell? ⟨dn,0,none⟩=some (.int .i64 iL):=(af cA.out 0).trans rfl;have YZ:JE.cell? ⟨dn,1,none⟩=some (.bool jh):=(af cA.out 1).trans rfl;have Y0:JE.cell? ⟨dn,2,none⟩=some (.slice n7 kM.length n9):=(af cA.out 2).trans rfl;have Y1:JE.cell? ⟨dn,3,none⟩=some (.string iU):=(af cA.out 3).trans rfl;have Y2:JE.cell? ⟨dn,4,none⟩=some (.string iM):=(af cA.out 4).trans rfl;have Y3:JE.cell? ⟨dn,5,none⟩=some (.bool iN):=(af cA.out 5).trans rfl;have Y4:JE.cell? ⟨dn,6,none⟩=some (.slice lO iI.length lQ):=(af cA.out 6).trans rfl;have Y5:JE.cell? ⟨dn,7,none⟩=some (.slice oa lD.length oc):=(af cA.out 7).trans rfl;have Y6:JE.cell? ⟨dn,8,none⟩=some (.int .i64 jA):=(af cA.out 8).trans rfl;have Y7:=aa cA.out 0;have Y8:=aa cA.out 1;have Y9:=aa cA.out 2;have Za:=aa cA.out 3;have Zb:=aa cA.out 4;have Zc:=aa cA.out 5;have Zd:=aa cA.out 6;have Ze:=aa cA.out 7;have Zf:=aa cA.out 8))
    go_ret
    exact ⟨by rfl,aJ⟩
  ·rw [if_neg c4] at H
   have mo:=beq_eq_false_iff_ne.mpr c4
   have Aj:=bne_iff_ne.mpr c4
   obtain rfl:=Option.some.inj H
   go_enter Tryz.func70,Tryz.ntmps70
   go_wp2_with (first|((with_reducible refine bq (N:=2) rfl ?_);refine br ?hg (N:=2) ?hd (cs:=#[.int .i64 bf,.bool bP,.slice dR cH.length dS,.string bE,.string bK,.bool bU,.slice cU bN.length cT,.slice dU cM.length dV,.int .i64 bX]) (t:=34) ?hr ?_;(case hd=>rfl);(case hg=>rfl);(case hr=>(go_simp;done));intro dm hg w37 bJ hb;have cr:=ah.mk (bJ);have Fx:=ah.mk ((bI:w.heap.size≤dm));have Fy:=ah.mk ((bI:w.heap.size≤dm));replace HB:=ah.mk (ay aJ hb);clear hb bJ hg)|((with_reducible refine bq (N:=3) rfl ?_);refine br ?hg (N:=3) ?hd (cs:=#[.int .i64 iL,.bool jh,.slice n7 kM.length n9,.string iU,.string iM,.bool iN,.slice lO iI.length lQ,.slice oa lD.length oc,.int .i64 jA]) (t:=34) ?hr ?_;(case hd=>rfl);(case hg=>rfl);(case hr=>(go_simp;done));intro dn hg sN bJ hb;have cA:=ah.mk (bJ);have Fz:=ah.mk ((bI:w.heap.size≤dn));have FA:=ah.mk ((bI:w.heap.size≤dn));replace HB:=ah.mk (ay aJ hb);have jR:=ah.mk ((xI:dm≠dn));have jS:=ah.mk ((xJ:dn≠dm));replace cr:=ah.mk (az xL hb);clear hb bJ hg;have aAN:=jR.out;have aAO:=jS.out;have atS:sN.cell? ⟨dm,0,none⟩=some (.int .i64 bf):=(af cr.out 0).trans rfl;have atT:sN.cell? ⟨dm,1,none⟩=some (.bool bP):=(af cr.out 1).trans rfl;have atU:sN.cell? ⟨dm,2,none⟩=some (.slice dR cH.length dS):=(af cr.out 2).trans rfl;have atV:sN.cell? ⟨dm,3,none⟩=some (.string bE):=(af cr.out 3).trans rfl;have atW:sN.cell? ⟨dm,4,none⟩=some (.string bK):=(af cr.out 4).trans rfl;have atX:sN.cell? ⟨dm,5,none⟩=some (.bool bU):=(af cr.out 5).trans rfl;have atY:sN.cell? ⟨dm,6,none⟩=some (.slice cU bN.length cT):=(af cr.out 6).trans rfl;have atZ:sN.cell? ⟨dm,7,none⟩=some (.slice dU cM.length dV):=(af cr.out 7).trans rfl;have at0:sN.cell? ⟨dm,8,none⟩=some (.int .i64 bX):=(af cr.out 8).trans rfl;have at1:=aa cr.out 0;have at2:=aa cr.out 1;have at3:=aa cr.out 2;have at4:=aa cr.out 3;have at5:=aa cr.out 4;have at6:=aa cr.out 5;have at7:=aa cr.out 6;have aua:=aa cr.out 7;have aub:=aa cr.out 8;have Zz:sN.cell? ⟨dn,0,none⟩=some (.int .i64 iL):=(af cA.out 0).trans rfl;have ZA:sN.cell? ⟨dn,1,none⟩=some (.bool jh):=(af cA.out 1).trans rfl;have auc:sN.cell? ⟨dn,2,none⟩=some (.slice n7 kM.length n9):=(af cA.out 2).trans rfl;have aud:sN.cell? ⟨dn,3,none⟩=some (.string iU):=(af cA.out 3).trans rfl;have aue:sN.cell? ⟨dn,4,none⟩=some (.string iM):=(af cA.out 4).trans rfl;have auf:sN.cell? ⟨dn,5,none⟩=some (.bool iN):=(af cA.out 5).trans rfl;have aug:sN.cell? ⟨dn,6,none⟩=some (.slice lO iI.length lQ):=(af cA.out 6).trans rfl;have auh:sN.cell? ⟨dn,7,none⟩=some (.slice oa lD.length oc):=(af cA.out 7).trans rfl;have aui:sN.cell? ⟨dn,8,none⟩=some (.int .i64 jA):=(af cA.out 8).trans rfl;have ZB:=aa cA.out 0;have ZC:=aa cA.out 1;have auj:=aa cA.out 2;have auk:=aa cA.out 3;have aul:=aa cA.out 4;have aum:=aa cA.out 5;have aun:=aa cA.out 6;have auo:=aa cA.out 7;have aup:=aa cA.out 8))
   go_ret
   exact ⟨by rfl,aJ⟩
 ·rw [if_neg c3] at H
  have nr:=beq_eq_false_iff_ne.mpr c3
  have xk:=bne_iff_ne.mpr c3
  obtain rfl:=Option.some.inj H
  go_enter Tryz.func70,Tryz.ntmps70
  go_wp2_with (first|((with_reducible refine bq (N:=2) rfl ?_);refine br ?hg (N:=2) ?hd (cs:=#[.int .i64 bf,.bool bP,.slice dR cH.length dS,.string bE,.string bK,.bool bU,.slice cU bN.length cT,.slice dU cM.length dV,.int .i64 bX]) (t:=34) ?hr ?_;(case hd=>rfl);(case hg=>rfl);(case hr=>(go_simp;done));intro dm hg w42 bJ hb;have cr:=ah.mk (bJ);have Fx:=ah.mk ((bI:w.heap.size≤dm));have Fy:=ah.mk ((bI:w.heap.size≤dm));replace HB:=ah.mk (ay aJ hb);clear hb bJ hg)|((with_reducible refine bq (N:=3) rfl ?_);refine br ?hg (N:=3) ?hd (cs:=#[.int .i64 iL,.bool jh,.slice n7 kM.length n9,.string iU,.string iM,.bool iN,.slice lO iI.length lQ,.slice oa lD.length oc,.int .i64 jA]) (t:=34) ?hr ?_;(case hd=>rfl);(case hg=>rfl);(case hr=>(go_simp;done));intro dn hg ry bJ hb;have cA:=ah.mk (bJ);have Fz:=ah.mk ((bI:w.heap.size≤dn));have FA:=ah.mk ((bI:w.heap.size≤dn));replace HB:=ah.mk (ay aJ hb);have jR:=ah.mk ((xI:dm≠dn));have jS:=ah.mk ((xJ:dn≠dm));replace cr:=ah.mk (az xL hb);clear hb bJ hg;have aAP:=jR.out;have aAQ:=jS.out;have auq:ry.cell? ⟨dm,0,none⟩=some (.int .i64 bf):=(af cr.out 0).trans rfl;have aur:ry.cell? ⟨dm,1,none⟩=some (.bool bP):=(af cr.out 1).trans rfl;have aus:ry.cell? ⟨dm,2,none⟩=some (.slice dR cH.length dS):=(af cr.out 2).trans rfl;have aut:ry.cell? ⟨dm,3,none⟩=some (.string bE):=(af cr.out 3).trans rfl;have auu:ry.cell? ⟨dm,4,none⟩=some (.string bK):=(af cr.out 4).trans rfl;have auv:ry.cell? ⟨dm,5,none⟩=some (.bool bU):=(af cr.out 5).trans rfl;have auw:ry.cell? ⟨dm,6,none⟩=some (.slice cU bN.length cT):=(af cr.out 6).trans rfl;have auy:ry.cell? ⟨dm,7,none⟩=some (.slice dU cM.length dV):=(af cr.out 7).trans rfl;have auz:ry.cell? ⟨dm,8,none⟩=some (.int .i64 bX):=(af cr.out 8).trans rfl;have auA:=aa cr.out 0;have auB:=aa cr.out 1;have auC:=aa cr.out 2;have auD:=aa cr.out 3;have auE:=aa cr.out 4;have auF:=aa cr.out 5;have auG:=aa cr.out 6;have auH:=aa cr.out 7;have auI:=aa cr.out 8;have N4:ry.cell? ⟨dn,0,none⟩=some (.int .i64 iL):=(af cA.out 0).trans rfl;have N5:ry.cell? ⟨dn,1,none⟩=some (.bool jh):=(af cA.out 1).trans rfl;have N6:ry.cell? ⟨dn,2,none⟩=some (.slice n7 kM.length n9):=(af cA.out 2).trans rfl;have N7:ry.cell? ⟨dn,3,none⟩=some (.string iU):=(af cA.out 3).trans rfl;have N8:ry.cell? ⟨dn,4,none⟩=some (.string iM):=(af cA.out 4).trans rfl;have N9:ry.cell? ⟨dn,5,none⟩=some (.bool iN):=(af cA.out 5).trans rfl;have Oa:ry.cell? ⟨dn,6,none⟩=some (.slice lO iI.length lQ):=(af cA.out 6).trans rfl;have Ob:ry.cell? ⟨dn,7,none⟩=some (.slice oa lD.length oc):=(af cA.out 7).trans rfl;have Oc:ry.cell? ⟨dn,8,none⟩=some (.int .i64 jA):=(af cA.out 8).trans rfl;have Od:=aa cA.out 0;have Oe:=aa cA.out 1;have Og:=aa cA.out 2;have Oh:=aa cA.out 3;have Oi:=aa cA.out 4;have Oj:=aa cA.out 5;have Ol:=aa cA.out 6;have Om:=aa cA.out 7;have Oo:=aa cA.out 8))
  go_ret
  exact ⟨by rfl,aJ⟩
def au.l0:Nat→List (o8)→List (o8)→Int→Int→Option (Bool)
 | 0,_,_,_,_ =>none
 |k + 1,x1,Ul,x16,Em=>if Em < x16 then (if 0≤Em then (if Em < (Ul.length:Int) then (if Em < (x1.length:Int) then ((gw.f k ((aj Ul Em).f0) ((aj Ul Em).f1.f0) ((aj Ul Em).f1.f1) ((aj Ul Em).f1.f2.f0) ((aj Ul Em).f1.f2.f1) ((aj Ul Em).f1.f2.f2) ((aj Ul Em).f2) ((aj Ul Em).f3) ((aj Ul Em).f4) ((aj x1 Em).f0) ((aj x1 Em).f1.f0) ((aj x1 Em).f1.f1) ((aj x1 Em).f1.f2.f0) ((aj x1 Em).f1.f2.f1) ((aj x1 Em).f1.f2.f2) ((aj x1 Em).f2) ((aj x1 Em).f3) ((aj x1 Em).f4)).bind fun t298=>(if t298=true then (au.l0 k x1 Ul x16 (wrap64 (Em + 1))) else (some false))) else (none)) else (none)) else (none)) else (some true)
def au.f (k:Nat) (l0:List (o8)) (l1:List (o8)):Option (Bool):=if (l0.length:Int)=(l1.length:Int) then (au.l0 k l1 l0 (l0.length:Int) 0) else (some false)
theorem au.ey:∀ k,(∀ y0 y1 y2 y3,eY (au.l0 k y0 y1 y2 y3) (au.l0 (k + 1) y0 y1 y2 y3))
 | 0=>fun _ _ _ _ r h=>by simp [au.l0] at h
 |k + 1=>by
  have mC:=au.ey k
  ·intro y0 y1 y2 y3
   unfold au.l0
   repeat' (with_reducible first|exact mC _ _ _ _|exact gw.mono _ _ _ _ _ _ _ _ _ _ _ _ _ _ _ _ _ _ _|exact eY.refl _|refine eY.ite ?_ ?_|refine eY.bind ?_ (fun _ =>?_))
theorem au.mono:∀ a0 a1 k,eY (au.f k a0 a1) (au.f (k + 1) a0 a1):=by
 intro a0 a1 k
 have mC:=au.ey k
 unfold au.f
 repeat' (with_reducible first|exact mC _ _ _ _|exact eY.refl _|refine eY.ite ?_ ?_)
theorem au.calls (k:Nat) (A0:Option Addr) (c0:Nat) (l0:List (o8)) (A1:Option Addr) (c1:Nat) (l1:List (o8)) (r:Bool) (w:World) (nE:Kd.C E4 w A0 l0.length l0) (hc0:l0.length≤c0) (hr1:Kd.C E4 w A1 l1.length l1) (hc1:l1.length≤c1) (h:au.f k l0 l1=some r):
 Calls Tryz.prog 69 #[.slice A0 l0.length c0,.slice A1 l1.length c1,.func (.func 70) #[] #[]] w fun e w'=>e= .returned (.bool r)∧Below w.heap.size w w':=by
 have BD:=Tryz.underlying34
 have qZ:=ah.mk nE
 have E7:=ah.mk hc0
 clear nE hc0
 have Fh:=ah.mk hr1
 have ym:=ah.mk hc1
 clear hr1 hc1
 have HB:=ah.mk (Below.refl w.heap.size w)
 have H:(if (l0.length:Int)=(l1.length:Int) then (au.l0 k l1 l0 (l0.length:Int) 0) else (some false))=some r:=h
 clear h
 by_cases c4:(l0.length:Int)=(l1.length:Int)
 ·rw [if_pos c4] at H
  have mo:=beq_iff_eq.mpr c4
  have Aj:=bne_eq_false_iff_eq.mpr c4
  have axV:(l0.length == l1.length)=true:=by (simp at c4 ⊢;omega)
  clear c4
  have H':=ah.mk H
  clear H
  go_enter Tryz.func69,Tryz.ntmps69
  go_wp2
  go_loopg [17] k (fun kq v17 w'=>∃ (aH:Int),v17= .int .i64 aH∧ah (au.l0 kq l1 l0 (l0.length:Int) aH=some r)∧ah (kq≤k)∧ah (Below w.heap.size w w'))
  case atStart=>exact ⟨(0),(by rfl),H',⟨Nat.le_refl _⟩,⟨aJ⟩⟩
  case round=>
   clear H'
   obtain ⟨aH,rfl,HA,qi,HB⟩:=hrel
   cases gk with
   |zero=>exact absurd HA.out (by simp [au.l0])
   |succ k1=>
    have H:=HA.out
    clear HA
    simp only [au.l0] at H
    by_cases c5:aH < (l0.length:Int)
    ·rw [if_pos c5] at H
     have pG:=decide_eq_true c5
     clear c5
     obtain ⟨c6,H⟩:=lJ H
     have xW:=decide_eq_true c6
     clear c6
     obtain ⟨c7,H⟩:=lJ H
     have JZ:=decide_eq_true c7
     clear c7
     obtain ⟨c8,H⟩:=lJ H
     have BF:=decide_eq_true c8
     clear c8
     obtain ⟨t298,A9,H⟩:=bd_ H
     by_cases c10:t298=true
     ·subst c10
      rw [if_pos rfl] at H
      have H':=ah.mk H
      clear H
      have MB: 0≤(aH:Int):=of_decide_eq_true cu
      have MC:aH < (l0.length:Int):=of_decide_eq_true cu
      obtain ⟨ajJ,fL,fM,gP,gQ,iG,iH,ac9,u6,u7,u9,vk,vo,vp,vq,vr,vv,zN,zO,zP,zQ,zR,zS⟩:=qm qZ.out aH MB MC
      cases ac9
      replace u6:=(HB.out.cell (World.block_lt_of_cell? w _ u6)).trans u6
      replace u7:=(HB.out.cell (World.block_lt_of_cell? w _ u7)).trans u7
      replace u9:=(HB.out.cell (World.block_lt_of_cell? w _ u9)).trans u9
      replace vk:=(HB.out.cell (World.block_lt_of_cell? w _ vk)).trans vk
      replace vo:=(HB.out.cell (World.block_lt_of_cell? w _ vo)).trans vo
      replace vp:=(HB.out.cell (World.block_lt_of_cell? w _ vp)).trans vp
      replace vq:=(HB.out.cell (World.block_lt_of_cell? w _ vq)).trans vq
      replace vr:=(HB.out.cell (World.block_lt_of_cell? w _ vr)).trans vr
      replace vv:=(HB.out.cell (World.block_lt_of_cell? w _ vv)).trans vv
      have I0:=ah.mk zO
      have I1:=ah.mk zN
      clear zO zN
      have I2:=ah.mk zQ
      have I3:=ah.mk zP
      clear zQ zP
      have I4:=ah.mk zS
      have I5:=ah.mk zR
      clear zS zR
      replace MB:=eq_true MB
      replace MC:=eq_true MC
      go_wp2_with (first|((with_reducible refine bq (N:=8) rfl ?_);refine br ?hg (N:=8) ?hd (cs:=#[.int .i64 0,.bool false,.slice none 0 0,.string (⟨#[]⟩:ByteArray),.string (⟨#[]⟩:ByteArray),.bool false,.slice none 0 0,.slice none 0 0,.int .i64 0]) (t:=34) ?hr ?_;(case hd=>rfl);(case hg=>rfl);(case hr=>(go_simp;done));intro bC hg vK bJ hb;have dN:=ah.mk (bJ);have oO:=ah.mk ((bI:w.heap.size≤bC));have RX:=ah.mk ((bI:w.heap.size≤bC));replace HB:=ah.mk (ay aJ hb);clear hb bJ hg;have ue:vK.cell? ⟨bC,0,none⟩=some (.int .i64 0):=(af dN.out 0).trans rfl;have uf:vK.cell? ⟨bC,1,none⟩=some (.bool false):=(af dN.out 1).trans rfl;have wP:vK.cell? ⟨bC,2,none⟩=some (.slice none 0 0):=(af dN.out 2).trans rfl;have yF:vK.cell? ⟨bC,3,none⟩=some (.string (⟨#[]⟩:ByteArray)):=(af dN.out 3).trans rfl;have yG:vK.cell? ⟨bC,4,none⟩=some (.string (⟨#[]⟩:ByteArray)):=(af dN.out 4).trans rfl;have yH:vK.cell? ⟨bC,5,none⟩=some (.bool false):=(af dN.out 5).trans rfl;have yI:vK.cell? ⟨bC,6,none⟩=some (.slice none 0 0):=(af dN.out 6).trans rfl;have yJ:vK.cell? ⟨bC,7,none⟩=some (.slice none 0 0):=(af dN.out 7).trans rfl;have yK:vK.cell? ⟨bC,8,none⟩=some (.int .i64 0):=(af dN.out 8).trans rfl;have ug:=aa dN.out 0;have uh:=aa dN.out 1;have wQ:=aa dN.out 2;have yL:=aa dN.out 3;have yM:=aa dN.out 4;have yN:=aa dN.out 5;have yO:=aa dN.out 6;have yP:=aa dN.out 7;have yQ:=aa dN.out 8;have MD: 0≤(aH:Int):=of_decide_eq_true cu;have ME:aH < (l1.length:Int):=of_decide_eq_true cu;obtain ⟨oP,tO,tP,Da,Db,FE,FH,ada,ez,eF,eG,eH,eI,eJ,eK,eN,eO,zT,zU,zV,zW,zX,zY⟩:=qm Fh.out aH MD ME;cases ada;have BG:oP.block≠bC:=Nat.ne_of_lt (Nat.lt_of_lt_of_le lV oO.out);have BH:oP.block≠bC:=Nat.ne_of_lt (Nat.lt_of_lt_of_le lV oO.out);have BI:oP.block≠bC:=Nat.ne_of_lt (Nat.lt_of_lt_of_le lV oO.out);have BJ:oP.block≠bC:=Nat.ne_of_lt (Nat.lt_of_lt_of_le lV oO.out);have BK:oP.block≠bC:=Nat.ne_of_lt (Nat.lt_of_lt_of_le lV oO.out);have BL:oP.block≠bC:=Nat.ne_of_lt (Nat.lt_of_lt_of_le lV oO.out);have BM:oP.block≠bC:=Nat.ne_of_lt (Nat.lt_of_lt_of_le lV oO.out);have BN:oP.block≠bC:=Nat.ne_of_lt (Nat.lt_of_lt_of_le lV oO.out);have BO:oP.block≠bC:=Nat.ne_of_lt (Nat.lt_of_lt_of_le lV oO.out);replace ez:=(HB.out.cell (World.block_lt_of_cell? w _ ez)).trans ez;replace eF:=(HB.out.cell (World.block_lt_of_cell? w _ eF)).trans eF;replace eG:=(HB.out.cell (World.block_lt_of_cell? w _ eG)).trans eG;replace eH:=(HB.out.cell (World.block_lt_of_cell? w _ eH)).trans eH;replace eI:=(HB.out.cell (World.block_lt_of_cell? w _ eI)).trans eI;replace eJ:=(HB.out.cell (World.block_lt_of_cell? w _ eJ)).trans eJ;replace eK:=(HB.out.cell (World.block_lt_of_cell? w _ eK)).trans eK;replace eN:=(HB.out.cell (World.block_lt_of_cell? w _ eN)).trans eN;replace eO:=(HB.out.cell (World.block_lt_of_cell? w _ eO)).trans eO;have I6:=ah.mk zU;have I7:=ah.mk zT;clear zU zT;have I8:=ah.mk zW;have I9:=ah.mk zV;clear zW zV;have Ja:=ah.mk zY;have Jb:=ah.mk zX;clear zY zX;replace ez:=(cell_far (p:=⟨bC,0,none⟩) lW (.int .i64 ((aj l0 aH).f0))).trans ez;replace eF:=(cell_far (p:=⟨bC,0,none⟩) lW (.int .i64 ((aj l0 aH).f0))).trans eF;replace eG:=(cell_far (p:=⟨bC,0,none⟩) lW (.int .i64 ((aj l0 aH).f0))).trans eG;replace eH:=(cell_far (p:=⟨bC,0,none⟩) lW (.int .i64 ((aj l0 aH).f0))).trans eH;replace eI:=(cell_far (p:=⟨bC,0,none⟩) lW (.int .i64 ((aj l0 aH).f0))).trans eI;replace eJ:=(cell_far (p:=⟨bC,0,none⟩) lW (.int .i64 ((aj l0 aH).f0))).trans eJ;replace eK:=(cell_far (p:=⟨bC,0,none⟩) lW (.int .i64 ((aj l0 aH).f0))).trans eK;replace eN:=(cell_far (p:=⟨bC,0,none⟩) lW (.int .i64 ((aj l0 aH).f0))).trans eN;replace eO:=(cell_far (p:=⟨bC,0,none⟩) lW (.int .i64 ((aj l0 aH).f0))).trans eO;replace ez:=(cell_far (p:=⟨bC,1,none⟩) lX (.bool ((aj l0 aH).f1.f0))).trans ez;replace eF:=(cell_far (p:=⟨bC,1,none⟩) lX (.bool ((aj l0 aH).f1.f0))).trans eF;replace eG:=(cell_far (p:=⟨bC,1,none⟩) lX (.bool ((aj l0 aH).f1.f0))).trans eG;replace eH:=(cell_far (p:=⟨bC,1,none⟩) lX (.bool ((aj l0 aH).f1.f0))).trans eH;replace eI:=(cell_far (p:=⟨bC,1,none⟩) lX (.bool ((aj l0 aH).f1.f0))).trans eI;replace eJ:=(cell_far (p:=⟨bC,1,none⟩) lX (.bool ((aj l0 aH).f1.f0))).trans eJ;replace eK:=(cell_far (p:=⟨bC,1,none⟩) lX (.bool ((aj l0 aH).f1.f0))).trans eK;replace eN:=(cell_far (p:=⟨bC,1,none⟩) lX (.bool ((aj l0 aH).f1.f0))).trans eN;replace eO:=(cell_far (p:=⟨bC,1,none⟩) lX (.bool ((aj l0 aH).f1.f0))).trans eO;replace ez:=(cell_far (p:=⟨bC,2,none⟩) lY (.slice fL ((aj l0 aH).f1.f1).length fM)).trans ez;replace eF:=(cell_far (p:=⟨bC,2,none⟩) lY (.slice fL ((aj l0 aH).f1.f1).length fM)).trans eF;replace eG:=(cell_far (p:=⟨bC,2,none⟩) lY (.slice fL ((aj l0 aH).f1.f1).length fM)).trans eG;replace eH:=(cell_far (p:=⟨bC,2,none⟩) lY (.slice fL ((aj l0 aH).f1.f1).length fM)).trans eH;replace eI:=(cell_far (p:=⟨bC,2,none⟩) lY (.slice fL ((aj l0 aH).f1.f1).length fM)).trans eI;replace eJ:=(cell_far (p:=⟨bC,2,none⟩) lY (.slice fL ((aj l0 aH).f1.f1).length fM)).trans eJ;replace eK:=(cell_far (p:=⟨bC,2,none⟩) lY (.slice fL ((aj l0 aH).f1.f1).length fM)).trans eK;replace eN:=(cell_far (p:=⟨bC,2,none⟩) lY (.slice fL ((aj l0 aH).f1.f1).length fM)).trans eN;replace eO:=(cell_far (p:=⟨bC,2,none⟩) lY (.slice fL ((aj l0 aH).f1.f1).length fM)).trans eO;replace ez:=(cell_far (p:=⟨bC,3,none⟩) lZ (.string ((aj l0 aH).f1.f2.f0))).trans ez;replace eF:=(cell_far (p:=⟨bC,3,none⟩) lZ (.string ((aj l0 aH).f1.f2.f0))).trans eF;replace eG:=(cell_far (p:=⟨bC,3,none⟩) lZ (.string ((aj l0 aH).f1.f2.f0))).trans eG;replace eH:=(cell_far (p:=⟨bC,3,none⟩) lZ (.string ((aj l0 aH).f1.f2.f0))).trans eH;replace eI:=(cell_far (p:=⟨bC,3,none⟩) lZ (.string ((aj l0 aH).f1.f2.f0))).trans eI;replace eJ:=(cell_far (p:=⟨bC,3,none⟩) lZ (.string ((aj l0 aH).f1.f2.f0))).trans eJ;replace eK:=(cell_far (p:=⟨bC,3,none⟩) lZ (.string ((aj l0 aH).f1.f2.f0))).trans eK;replace eN:=(cell_far (p:=⟨bC,3,none⟩) lZ (.string ((aj l0 aH).f1.f2.f0))).trans eN;replace eO:=(cell_far (p:=⟨bC,3,none⟩) lZ (.string ((aj l0 aH).f1.f2.f0))).trans eO;replace ez:=(cell_far (p:=⟨bC,4,none⟩) l5 (.string ((aj l0 aH).f1.f2.f1))).trans ez;replace eF:=(cell_far (p:=⟨bC,4,none⟩) l5 (.string ((aj l0 aH).f1.f2.f1))).trans eF;replace eG:=(cell_far (p:=⟨bC,4,none⟩) l5 (.string ((aj l0 aH).f1.f2.f1))).trans eG;replace eH:=(cell_far (p:=⟨bC,4,none⟩) l5 (.string ((aj l0 aH).f1.f2.f1))).trans eH;replace eI:=(cell_far (p:=⟨bC,4,none⟩) l5 (.string ((aj l0 aH).f1.f2.f1))).trans eI;replace eJ:=(cell_far (p:=⟨bC,4,none⟩) l5 (.string ((aj l0 aH).f1.f2.f1))).trans eJ;replace eK:=(cell_far (p:=⟨bC,4,none⟩) l5 (.string ((aj l0 aH).f1.f2.f1))).trans eK;replace eN:=(cell_far (p:=⟨bC,4,none⟩) l5 (.string ((aj l0 aH).f1.f2.f1))).trans eN;replace eO:=(cell_far (p:=⟨bC,4,none⟩) l5 (.string ((aj l0 aH).f1.f2.f1))).trans eO;replace ez:=(cell_far (p:=⟨bC,5,none⟩) l8 (.bool ((aj l0 aH).f1.f2.f2))).trans ez;replace eF:=(cell_far (p:=⟨bC,5,none⟩) l8 (.bool ((aj l0 aH).f1.f2.f2))).trans eF;replace eG:=(cell_far (p:=⟨bC,5,none⟩) l8 (.bool ((aj l0 aH).f1.f2.f2))).trans eG;replace eH:=(cell_far (p:=⟨bC,5,none⟩) l8 (.bool ((aj l0 aH).f1.f2.f2))).trans eH;replace eI:=(cell_far (p:=⟨bC,5,none⟩) l8 (.bool ((aj l0 aH).f1.f2.f2))).trans eI;replace eJ:=(cell_far (p:=⟨bC,5,none⟩) l8 (.bool ((aj l0 aH).f1.f2.f2))).trans eJ;replace eK:=(cell_far (p:=⟨bC,5,none⟩) l8 (.bool ((aj l0 aH).f1.f2.f2))).trans eK;replace eN:=(cell_far (p:=⟨bC,5,none⟩) l8 (.bool ((aj l0 aH).f1.f2.f2))).trans eN;replace eO:=(cell_far (p:=⟨bC,5,none⟩) l8 (.bool ((aj l0 aH).f1.f2.f2))).trans eO;replace ez:=(cell_far (p:=⟨bC,6,none⟩) l9 (.slice gP ((aj l0 aH).f2).length gQ)).trans ez;replace eF:=(cell_far (p:=⟨bC,6,none⟩) l9 (.slice gP ((aj l0 aH).f2).length gQ)).trans eF;replace eG:=(cell_far (p:=⟨bC,6,none⟩) l9 (.slice gP ((aj l0 aH).f2).length gQ)).trans eG;replace eH:=(cell_far (p:=⟨bC,6,none⟩) l9 (.slice gP ((aj l0 aH).f2).length gQ)).trans eH;replace eI:=(cell_far (p:=⟨bC,6,none⟩) l9 (.slice gP ((aj l0 aH).f2).length gQ)).trans eI;replace eJ:=(cell_far (p:=⟨bC,6,none⟩) l9 (.slice gP ((aj l0 aH).f2).length gQ)).trans eJ;replace eK:=(cell_far (p:=⟨bC,6,none⟩) l9 (.slice gP ((aj l0 aH).f2).length gQ)).trans eK;replace eN:=(cell_far (p:=⟨bC,6,none⟩) l9 (.slice gP ((aj l0 aH).f2).length gQ)).trans eN;replace eO:=(cell_far (p:=⟨bC,6,none⟩) l9 (.slice gP ((aj l0 aH).f2).length gQ)).trans eO;replace ez:=(cell_far (p:=⟨bC,7,none⟩) mg (.slice iG ((aj l0 aH).f3).length iH)).trans ez;replace eF:=(cell_far (p:=⟨bC,7,none⟩) mg (.slice iG ((aj l0 aH).f3).length iH)).trans eF;replace eG:=(cell_far (p:=⟨bC,7,none⟩) mg (.slice iG ((aj l0 aH).f3).length iH)).trans eG;replace eH:=(cell_far (p:=⟨bC,7,none⟩) mg (.slice iG ((aj l0 aH).f3).length iH)).trans eH;replace eI:=(cell_far (p:=⟨bC,7,none⟩) mg (.slice iG ((aj l0 aH).f3).length iH)).trans eI;replace eJ:=(cell_far (p:=⟨bC,7,none⟩) mg (.slice iG ((aj l0 aH).f3).length iH)).trans eJ;replace eK:=(cell_far (p:=⟨bC,7,none⟩) mg (.slice iG ((aj l0 aH).f3).length iH)).trans eK;replace eN:=(cell_far (p:=⟨bC,7,none⟩) mg (.slice iG ((aj l0 aH).f3).length iH)).trans eN;replace eO:=(cell_far (p:=⟨bC,7,none⟩) mg (.slice iG ((aj l0 aH).f3).length iH)).trans eO;replace ez:=(cell_far (p:=⟨bC,8,none⟩) mh (.int .i64 ((aj l0 aH).f4))).trans ez;replace eF:=(cell_far (p:=⟨bC,8,none⟩) mh (.int .i64 ((aj l0 aH).f4))).trans eF;replace eG:=(cell_far (p:=⟨bC,8,none⟩) mh (.int .i64 ((aj l0 aH).f4))).trans eG;replace eH:=(cell_far (p:=⟨bC,8,none⟩) mh (.int .i64 ((aj l0 aH).f4))).trans eH;replace eI:=(cell_far (p:=⟨bC,8,none⟩) mh (.int .i64 ((aj l0 aH).f4))).trans eI;replace eJ:=(cell_far (p:=⟨bC,8,none⟩) mh (.int .i64 ((aj l0 aH).f4))).trans eJ;replace eK:=(cell_far (p:=⟨bC,8,none⟩) mh (.int .i64 ((aj l0 aH).f4))).trans eK;replace eN:=(cell_far (p:=⟨bC,8,none⟩) mh (.int .i64 ((aj l0 aH).f4))).trans eN;replace eO:=(cell_far (p:=⟨bC,8,none⟩) mh (.int .i64 ((aj l0 aH).f4))).trans eO;clear BG;clear BH;clear BI;clear BJ;clear BK;clear BL;clear BM;clear BN;clear BO;replace MD:=eq_true MD;replace ME:=eq_true ME)|((with_reducible refine bq (N:=9) rfl ?_);refine br ?hg (N:=9) ?hd (cs:=#[.int .i64 0,.bool false,.slice none 0 0,.string (⟨#[]⟩:ByteArray),.string (⟨#[]⟩:ByteArray),.bool false,.slice none 0 0,.slice none 0 0,.int .i64 0]) (t:=34) ?hr ?_;(case hd=>rfl);(case hg=>rfl);(case hr=>(go_simp;done));intro kF hg ko bJ hb;have iJ:=ah.mk (bJ);have ajK:=ah.mk ((FI:w.heap.size≤kF));have ZY:=ah.mk ((FI:w.heap.size≤kF));replace HB:=ah.mk (ay RV hb);have ku:=ah.mk ((ZX:bC≠kF));have AH:=ah.mk ((RP:kF≠bC));replace dN:=ah.mk (az (g:=bC) (o:= .cells #[.int .i64 ((aj l0 aH).f0),.bool ((aj l0 aH).f1.f0),.slice fL ((aj l0 aH).f1.f1).length fM,.string ((aj l0 aH).f1.f2.f0),.string ((aj l0 aH).f1.f2.f1),.bool ((aj l0 aH).f1.f2.f2),.slice gP ((aj l0 aH).f2).length gQ,.slice iG ((aj l0 aH).f3).length iH,.int .i64 ((aj l0 aH).f4)] 34 (0,0)) ZW hb);clear hb bJ hg;have ajF:=AH.out;have ajG:=ku.out;have Ix:ko.cell? ⟨kF,0,none⟩=some (.int .i64 0):=(af iJ.out 0).trans rfl;have Iy:ko.cell? ⟨kF,1,none⟩=some (.bool false):=(af iJ.out 1).trans rfl;have O8:ko.cell? ⟨kF,2,none⟩=some (.slice none 0 0):=(af iJ.out 2).trans rfl;have O9:ko.cell? ⟨kF,3,none⟩=some (.string (⟨#[]⟩:ByteArray)):=(af iJ.out 3).trans rfl;have Pb:ko.cell? ⟨kF,4,none⟩=some (.string (⟨#[]⟩:ByteArray)):=(af iJ.out 4).trans rfl;have Pc:ko.cell? ⟨kF,5,none⟩=some (.bool false):=(af iJ.out 5).trans rfl;have Pd:ko.cell? ⟨kF,6,none⟩=some (.slice none 0 0):=(af iJ.out 6).trans rfl;have Pe:ko.cell? ⟨kF,7,none⟩=some (.slice none 0 0):=(af iJ.out 7).trans rfl;have Pf:ko.cell? ⟨kF,8,none⟩=some (.int .i64 0):=(af iJ.out 8).trans rfl;have Iz:=aa iJ.out 0;have IA:=aa iJ.out 1;have Pg:=aa iJ.out 2;have Ph:=aa iJ.out 3;have Pj:=aa iJ.out 4;have Pk:=aa iJ.out 5;have Pm:=aa iJ.out 6;have Pn:=aa iJ.out 7;have Po:=aa iJ.out 8;have za:ko.cell? ⟨bC,0,none⟩=some (.int .i64 ((aj l0 aH).f0)):=(af dN.out 0).trans rfl;have zb:ko.cell? ⟨bC,1,none⟩=some (.bool ((aj l0 aH).f1.f0)):=(af dN.out 1).trans rfl;have ze:ko.cell? ⟨bC,2,none⟩=some (.slice fL ((aj l0 aH).f1.f1).length fM):=(af dN.out 2).trans rfl;have zf:ko.cell? ⟨bC,3,none⟩=some (.string ((aj l0 aH).f1.f2.f0)):=(af dN.out 3).trans rfl;have zg:ko.cell? ⟨bC,4,none⟩=some (.string ((aj l0 aH).f1.f2.f1)):=(af dN.out 4).trans rfl;have Ck:ko.cell? ⟨bC,5,none⟩=some (.bool ((aj l0 aH).f1.f2.f2)):=(af dN.out 5).trans rfl;have Gq:ko.cell? ⟨bC,6,none⟩=some (.slice gP ((aj l0 aH).f2).length gQ):=(af dN.out 6).trans rfl;have Gr:ko.cell? ⟨bC,7,none⟩=some (.slice iG ((aj l0 aH).f3).length iH):=(af dN.out 7).trans rfl;have Gs:ko.cell? ⟨bC,8,none⟩=some (.int .i64 ((aj l0 aH).f4)):=(af dN.out 8).trans rfl;have zh:=aa dN.out 0;have zi:=aa dN.out 1;have zj:=aa dN.out 2;have zk:=aa dN.out 3;have zl:=aa dN.out 4;have Cl:=aa dN.out 5;have Gt:=aa dN.out 6;have Gu:=aa dN.out 7;have Gv:=aa dN.out 8)|(go_at_call 70;(with_reducible refine (gw.calls k1 ((aj l0 aH).f0) ((aj l0 aH).f1.f0) _ _ ((aj l0 aH).f1.f1) ((aj l0 aH).f1.f2.f0) ((aj l0 aH).f1.f2.f1) ((aj l0 aH).f1.f2.f2) _ _ ((aj l0 aH).f2) _ _ ((aj l0 aH).f3) ((aj l0 aH).f4) ((aj l1 aH).f0) ((aj l1 aH).f1.f0) _ _ ((aj l1 aH).f1.f1) ((aj l1 aH).f1.f2.f0) ((aj l1 aH).f1.f2.f1) ((aj l1 aH).f1.f2.f2) _ _ ((aj l1 aH).f2) _ _ ((aj l1 aH).f3) ((aj l1 aH).f4) true _ ?bk ?bM ?cQ ?fk ?gf ?gh ?lq ?tE ?tF ?MF ?MG ?MH A9.out).mono ?_);(case bk=>exact Kd.bD I0.out ot);(case bM=>exact I1.out);(case cQ=>exact Kd.bD I2.out ot);(case fk=>exact I3.out);(case gf=>exact Kd.bD I4.out ot);(case gh=>exact I5.out);(case lq=>exact Kd.bD I6.out ot);(case tE=>exact I7.out);(case tF=>exact Kd.bD I8.out ot);(case MF=>exact I9.out);(case MG=>exact Kd.bD Ja.out ot);(case MH=>exact Jb.out);rintro e sL ⟨rfl,hb⟩;replace dN:=ah.mk (az (g:=bC) (o:= .cells #[.int .i64 ((aj l0 aH).f0),.bool ((aj l0 aH).f1.f0),.slice fL ((aj l0 aH).f1.f1).length fM,.string ((aj l0 aH).f1.f2.f0),.string ((aj l0 aH).f1.f2.f1),.bool ((aj l0 aH).f1.f2.f2),.slice gP ((aj l0 aH).f2).length gQ,.slice iG ((aj l0 aH).f3).length iH,.int .i64 ((aj l0 aH).f4)] 34 (0,0)) RZ hb);replace iJ:=ah.mk (az (g:=kF) (o:= .cells #[.int .i64 ((aj l1 aH).f0),.bool ((aj l1 aH).f1.f0),.slice tO ((aj l1 aH).f1.f1).length tP,.string ((aj l1 aH).f1.f2.f0),.string ((aj l1 aH).f1.f2.f1),.bool ((aj l1 aH).f1.f2.f2),.slice Da ((aj l1 aH).f2).length Db,.slice FE ((aj l1 aH).f3).length FH,.int .i64 ((aj l1 aH).f4)] 34 (0,0)) RR hb);replace HB:=ah.mk (ay ot hb);(try clear hb)))
      go_roundg k1
      case measure=>have:=qi.out;omega
      case rel=>exact ⟨(wrap64 (aH + 1)),(by rfl),H',⟨lI⟩,⟨aJ⟩⟩
     ·replace c10:=Bool.eq_false_iff.mpr c10
      subst c10
      rw [if_neg (show ¬ (false=true) by decide)] at H
      obtain rfl:=Option.some.inj H
      have MB: 0≤(aH:Int):=of_decide_eq_true cu
      have MC:aH < (l0.length:Int):=of_decide_eq_true cu
      obtain ⟨ajJ,fL,fM,gP,gQ,iG,iH,ac9,u6,u7,u9,vk,vo,vp,vq,vr,vv,zN,zO,zP,zQ,zR,zS⟩:=qm qZ.out aH MB MC
      cases ac9
      replace u6:=(HB.out.cell (World.block_lt_of_cell? w _ u6)).trans u6
      replace u7:=(HB.out.cell (World.block_lt_of_cell? w _ u7)).trans u7
      replace u9:=(HB.out.cell (World.block_lt_of_cell? w _ u9)).trans u9
      replace vk:=(HB.out.cell (World.block_lt_of_cell? w _ vk)).trans vk
      replace vo:=(HB.out.cell (World.block_lt_of_cell? w _ vo)).trans vo
      replace vp:=(HB.out.cell (World.block_lt_of_cell? w _ vp)).trans vp
      replace vq:=(HB.out.cell (World.block_lt_of_cell? w _ vq)).trans vq
      replace vr:=(HB.out.cell (World.block_lt_of_cell? w _ vr)).trans vr
      replace vv:=(HB.out.cell (World.block_lt_of_cell? w _ vv)).trans vv
      have I0:=ah.mk zO
      have I1:=ah.mk zN
      clear zO zN
      have I2:=ah.mk zQ
      have I3:=ah.mk zP
      clear zQ zP
      have I4:=ah.mk zS
      have I5:=ah.mk zR
      clear zS zR
      replace MB:=eq_true MB
      replace MC:=eq_true MC
      go_wp2_with (first|((with_reducible refine bq (N:=8) rfl ?_);refine br ?hg (N:=8) ?hd (cs:=#[.int .i64 0,.bool false,.slice none 0 0,.string (⟨#[]⟩:ByteArray),.string (⟨#[]⟩:ByteArray),.bool false,.slice none 0 0,.slice none 0 0,.int .i64 0]) (t:=34) ?hr ?_;(case hd=>rfl);(case hg=>rfl);(case hr=>(go_simp;done));intro bC hg tK bJ hb;have dN:=ah.mk (bJ);have oO:=ah.mk ((bI:w.heap.size≤bC));have RX:=ah.mk ((bI:w.heap.size≤bC));replace HB:=ah.mk (ay aJ hb);clear hb bJ hg;have CM:tK.cell? ⟨bC,0,none⟩=some (.int .i64 0):=(af dN.out 0).trans rfl;have CN:tK.cell? ⟨bC,1,none⟩=some (.bool false):=(af dN.out 1).trans rfl;have CO:tK.cell? ⟨bC,2,none⟩=some (.slice none 0 0):=(af dN.out 2).trans rfl;have CP:tK.cell? ⟨bC,3,none⟩=some (.string (⟨#[]⟩:ByteArray)):=(af dN.out 3).trans rfl;have CQ:tK.cell? ⟨bC,4,none⟩=some (.string (⟨#[]⟩:ByteArray)):=(af dN.out 4).trans rfl;have CR:tK.cell? ⟨bC,5,none⟩=some (.bool false):=(af dN.out 5).trans rfl;have CS:tK.cell? ⟨bC,6,none⟩=some (.slice none 0 0):=(af dN.out 6).trans rfl;have CT:tK.cell? ⟨bC,7,none⟩=some (.slice none 0 0):=(af dN.out 7).trans rfl;have CU:tK.cell? ⟨bC,8,none⟩=some (.int .i64 0):=(af dN.out 8).trans rfl;have CV:=aa dN.out 0;have CX:=aa dN.out 1;have CY:=aa dN.out 2;have CZ:=aa dN.out 3;have C0:=aa dN.out 4;have C2:=aa dN.out 5;have C3:=aa dN.out 6;have C4:=aa dN.out 7;have C5:=aa dN.out 8;have MD: 0≤(aH:Int):=of_decide_eq_true cu;have ME:aH < (l1.length:Int):=of_decide_eq_true cu;obtain ⟨oP,tO,tP,Da,Db,FE,FH,ada,ez,eF,eG,eH,eI,eJ,eK,eN,eO,zT,zU,zV,zW,zX,zY⟩:=qm Fh.out aH MD ME;cases ada;have BG:oP.block≠bC:=Nat.ne_of_lt (Nat.lt_of_lt_of_le lV oO.out);have BH:oP.block≠bC:=Nat.ne_of_lt (Nat.lt_of_lt_of_le lV oO.out);have BI:oP.block≠bC:=Nat.ne_of_lt (Nat.lt_of_lt_of_le lV oO.out);have BJ:oP.block≠bC:=Nat.ne_of_lt (Nat.lt_of_lt_of_le lV oO.out);have BK:oP.block≠bC:=Nat.ne_of_lt (Nat.lt_of_lt_of_le lV oO.out);have BL:oP.block≠bC:=Nat.ne_of_lt (Nat.lt_of_lt_of_le lV oO.out);have BM:oP.block≠bC:=Nat.ne_of_lt (Nat.lt_of_lt_of_le lV oO.out);have BN:oP.block≠bC:=Nat.ne_of_lt (Nat.lt_of_lt_of_le lV oO.out);have BO:oP.block≠bC:=Nat.ne_of_lt (Nat.lt_of_lt_of_le lV oO.out);replace ez:=(HB.out.cell (World.block_lt_of_cell? w _ ez)).trans ez;replace eF:=(HB.out.cell (World.block_lt_of_cell? w _ eF)).trans eF;replace eG:=(HB.out.cell (World.block_lt_of_cell? w _ eG)).trans eG;replace eH:=(HB.out.cell (World.block_lt_of_cell? w _ eH)).trans eH;replace eI:=(HB.out.cell (World.block_lt_of_cell? w _ eI)).trans eI;replace eJ:=(HB.out.cell (World.block_lt_of_cell? w _ eJ)).trans eJ;replace eK:=(HB.out.cell (World.block_lt_of_cell? w _ eK)).trans eK;replace eN:=(HB.out.cell (World.block_lt_of_cell? w _ eN)).trans eN;replace eO:=(HB.out.cell (World.block_lt_of_cell? w _ eO)).trans eO;have I6:=ah.mk zU;have I7:=ah.mk zT;clear zU zT;have I8:=ah.mk zW;have I9:=ah.mk zV;clear zW zV;have Ja:=ah.mk zY;have Jb:=ah.mk zX;clear zY zX;replace ez:=(cell_far (p:=⟨bC,0,none⟩) lW (.int .i64 ((aj l0 aH).f0))).trans ez;replace eF:=(cell_far (p:=⟨bC,0,none⟩) lW (.int .i64 ((aj l0 aH).f0))).trans eF;replace eG:=(cell_far (p:=⟨bC,0,none⟩) lW (.int .i64 ((aj l0 aH).f0))).trans eG;replace eH:=(cell_far (p:=⟨bC,0,none⟩) lW (.int .i64 ((aj l0 aH).f0))).trans eH;replace eI:=(cell_far (p:=⟨bC,0,none⟩) lW (.int .i64 ((aj l0 aH).f0))).trans eI;replace eJ:=(cell_far (p:=⟨bC,0,none⟩) lW (.int .i64 ((aj l0 aH).f0))).trans eJ;replace eK:=(cell_far (p:=⟨bC,0,none⟩) lW (.int .i64 ((aj l0 aH).f0))).trans eK;replace eN:=(cell_far (p:=⟨bC,0,none⟩) lW (.int .i64 ((aj l0 aH).f0))).trans eN;replace eO:=(cell_far (p:=⟨bC,0,none⟩) lW (.int .i64 ((aj l0 aH).f0))).trans eO;replace ez:=(cell_far (p:=⟨bC,1,none⟩) lX (.bool ((aj l0 aH).f1.f0))).trans ez;replace eF:=(cell_far (p:=⟨bC,1,none⟩) lX (.bool ((aj l0 aH).f1.f0))).trans eF;replace eG:=(cell_far (p:=⟨bC,1,none⟩) lX (.bool ((aj l0 aH).f1.f0))).trans eG;replace eH:=(cell_far (p:=⟨bC,1,none⟩) lX (.bool ((aj l0 aH).f1.f0))).trans eH;replace eI:=(cell_far (p:=⟨bC,1,none⟩) lX (.bool ((aj l0 aH).f1.f0))).trans eI;replace eJ:=(cell_far (p:=⟨bC,1,none⟩) lX (.bool ((aj l0 aH).f1.f0))).trans eJ;replace eK:=(cell_far (p:=⟨bC,1,none⟩) lX (.bool ((aj l0 aH).f1.f0))).trans eK;replace eN:=(cell_far (p:=⟨bC,1,none⟩) lX (.bool ((aj l0 aH).f1.f0))).trans eN;replace eO:=(cell_far (p:=⟨bC,1,none⟩) lX (.bool ((aj l0 aH).f1.f0))).trans eO;replace ez:=(cell_far (p:=⟨bC,2,none⟩) lY (.slice fL ((aj l0 aH).f1.f1).length fM)).trans ez;replace eF:=(cell_far (p:=⟨bC,2,none⟩) lY (.slice fL ((aj l0 aH).f1.f1).length fM)).trans eF;replace eG:=(cell_far (p:=⟨bC,2,none⟩) lY (.slice fL ((aj l0 aH).f1.f1).length fM)).trans eG;replace eH:=(cell_far (p:=⟨bC,2,none⟩) lY (.slice fL ((aj l0 aH).f1.f1).length fM)).trans eH;replace eI:=(cell_far (p:=⟨bC,2,none⟩) lY (.slice fL ((aj l0 aH).f1.f1).length fM)).trans eI;replace eJ:=(cell_far (p:=⟨bC,2,none⟩) lY (.slice fL ((aj l0 aH).f1.f1).length fM)).trans eJ;replace eK:=(cell_far (p:=⟨bC,2,none⟩) lY (.slice fL ((aj l0 aH).f1.f1).length fM)).trans eK;replace eN:=(cell_far (p:=⟨bC,2,none⟩) lY (.slice fL ((aj l0 aH).f1.f1).length fM)).trans eN;replace eO:=(cell_far (p:=⟨bC,2,none⟩) lY (.slice fL ((aj l0 aH).f1.f1).length fM)).trans eO;replace ez:=(cell_far (p:=⟨bC,3,none⟩) lZ (.string ((aj l0 aH).f1.f2.f0))).trans ez;replace eF:=(cell_far (p:=⟨bC,3,none⟩) lZ (.string ((aj l0 aH).f1.f2.f0))).trans eF;replace eG:=(cell_far (p:=⟨bC,3,none⟩) lZ (.string ((aj l0 aH).f1.f2.f0))).trans eG;replace eH:=(cell_far (p:=⟨bC,3,none⟩) lZ (.string ((aj l0 aH).f1.f2.f0))).trans eH;replace eI:=(cell_far (p:=⟨bC,3,none⟩) lZ (.string ((aj l0 aH).f1.f2.f0))).trans eI;replace eJ:=(cell_far (p:=⟨bC,3,none⟩) lZ (.string ((aj l0 aH).f1.f2.f0))).trans eJ;replace eK:=(cell_far (p:=⟨bC,3,none⟩) lZ (.string ((aj l0 aH).f1.f2.f0))).trans eK;replace eN:=(cell_far (p:=⟨bC,3,none⟩) lZ (.string ((aj l0 aH).f1.f2.f0))).trans eN;replace eO:=(cell_far (p:=⟨bC,3,none⟩) lZ (.string ((aj l0 aH).f1.f2.f0))).trans eO;replace ez:=(cell_far (p:=⟨bC,4,none⟩) l5 (.string ((aj l0 aH).f1.f2.f1))).trans ez;replace eF:=(cell_far (p:=⟨bC,4,none⟩) l5 (.string ((aj l0 aH).f1.f2.f1))).trans eF;replace eG:=(cell_far (p:=⟨bC,4,none⟩) l5 (.string ((aj l0 aH).f1.f2.f1))).trans eG;replace eH:=(cell_far (p:=⟨bC,4,none⟩) l5 (.string ((aj l0 aH).f1.f2.f1))).trans eH;replace eI:=(cell_far (p:=⟨bC,4,none⟩) l5 (.string ((aj l0 aH).f1.f2.f1))).trans eI;replace eJ:=(cell_far (p:=⟨bC,4,none⟩) l5 (.string ((aj l0 aH).f1.f2.f1))).trans eJ;replace eK:=(cell_far (p:=⟨bC,4,none⟩) l5 (.string ((aj l0 aH).f1.f2.f1))).trans eK;replace eN:=(cell_far (p:=⟨bC,4,none⟩) l5 (.string ((aj l0 aH).f1.f2.f1))).trans eN;replace eO:=(cell_far (p:=⟨bC,4,none⟩) l5 (.string ((aj l0 aH).f1.f2.f1))).trans eO;replace ez:=(cell_far (p:=⟨bC,5,none⟩) l8 (.bool ((aj l0 aH).f1.f2.f2))).trans ez;replace eF:=(cell_far (p:=⟨bC,5,none⟩) l8 (.bool ((aj l0 aH).f1.f2.f2))).trans eF;replace eG:=(cell_far (p:=⟨bC,5,none⟩) l8 (.bool ((aj l0 aH).f1.f2.f2))).trans eG;replace eH:=(cell_far (p:=⟨bC,5,none⟩) l8 (.bool ((aj l0 aH).f1.f2.f2))).trans eH;replace eI:=(cell_far (p:=⟨bC,5,none⟩) l8 (.bool ((aj l0 aH).f1.f2.f2))).trans eI;replace eJ:=(cell_far (p:=⟨bC,5,none⟩) l8 (.bool ((aj l0 aH).f1.f2.f2))).trans eJ;replace eK:=(cell_far (p:=⟨bC,5,none⟩) l8 (.bool ((aj l0 aH).f1.f2.f2))).trans eK;replace eN:=(cell_far (p:=⟨bC,5,none⟩) l8 (.bool ((aj l0 aH).f1.f2.f2))).trans eN;replace eO:=(cell_far (p:=⟨bC,5,none⟩) l8 (.bool ((aj l0 aH).f1.f2.f2))).trans eO;replace ez:=(cell_far (p:=⟨bC,6,none⟩) l9 (.slice gP ((aj l0 aH).f2).length gQ)).trans ez;replace eF:=(cell_far (p:=⟨bC,6,none⟩) l9 (.slice gP ((aj l0 aH).f2).length gQ)).trans eF;replace eG:=(cell_far (p:=⟨bC,6,none⟩) l9 (.slice gP ((aj l0 aH).f2).length gQ)).trans eG;replace eH:=(cell_far (p:=⟨bC,6,none⟩) l9 (.slice gP ((aj l0 aH).f2).length gQ)).trans eH;replace eI:=(cell_far (p:=⟨bC,6,none⟩) l9 (.slice gP ((aj l0 aH).f2).length gQ)).trans eI;replace eJ:=(cell_far (p:=⟨bC,6,none⟩) l9 (.slice gP ((aj l0 aH).f2).length gQ)).trans eJ;replace eK:=(cell_far (p:=⟨bC,6,none⟩) l9 (.slice gP ((aj l0 aH).f2).length gQ)).trans eK;replace eN:=(cell_far (p:=⟨bC,6,none⟩) l9 (.slice gP ((aj l0 aH).f2).length gQ)).trans eN;replace eO:=(cell_far (p:=⟨bC,6,none⟩) l9 (.slice gP ((aj l0 aH).f2).length gQ)).trans eO;replace ez:=(cell_far (p:=⟨bC,7,none⟩) mg (.slice iG ((aj l0 aH).f3).length iH)).trans ez;replace eF:=(cell_far (p:=⟨bC,7,none⟩) mg (.slice iG ((aj l0 aH).f3).length iH)).trans eF;replace eG:=(cell_far (p:=⟨bC,7,none⟩) mg (.slice iG ((aj l0 aH).f3).length iH)).trans eG;replace eH:=(cell_far (p:=⟨bC,7,none⟩) mg (.slice iG ((aj l0 aH).f3).length iH)).trans eH;replace eI:=(cell_far (p:=⟨bC,7,none⟩) mg (.slice iG ((aj l0 aH).f3).length iH)).trans eI;replace eJ:=(cell_far (p:=⟨bC,7,none⟩) mg (.slice iG ((aj l0 aH).f3).length iH)).trans eJ;replace eK:=(cell_far (p:=⟨bC,7,none⟩) mg (.slice iG ((aj l0 aH).f3).length iH)).trans eK;replace eN:=(cell_far (p:=⟨bC,7,none⟩) mg (.slice iG ((aj l0 aH).f3).length iH)).trans eN;replace eO:=(cell_far (p:=⟨bC,7,none⟩) mg (.slice iG ((aj l0 aH).f3).length iH)).trans eO;replace ez:=(cell_far (p:=⟨bC,8,none⟩) mh (.int .i64 ((aj l0 aH).f4))).trans ez;replace eF:=(cell_far (p:=⟨bC,8,none⟩) mh (.int .i64 ((aj l0 aH).f4))).trans eF;replace eG:=(cell_far (p:=⟨bC,8,none⟩) mh (.int .i64 ((aj l0 aH).f4))).trans eG;replace eH:=(cell_far (p:=⟨bC,8,none⟩) mh (.int .i64 ((aj l0 aH).f4))).trans eH;replace eI:=(cell_far (p:=⟨bC,8,none⟩) mh (.int .i64 ((aj l0 aH).f4))).trans eI;replace eJ:=(cell_far (p:=⟨bC,8,none⟩) mh (.int .i64 ((aj l0 aH).f4))).trans eJ;replace eK:=(cell_far (p:=⟨bC,8,none⟩) mh (.int .i64 ((aj l0 aH).f4))).trans eK;replace eN:=(cell_far (p:=⟨bC,8,none⟩) mh (.int .i64 ((aj l0 aH).f4))).trans eN;replace eO:=(cell_far (p:=⟨bC,8,none⟩) mh (.int .i64 ((aj l0 aH).f4))).trans eO;clear BG;clear BH;clear BI;clear BJ;clear BK;clear BL;clear BM;clear BN;clear BO;replace MD:=eq_true MD;replace ME:=eq_true ME)|((with_reducible refine bq (N:=9) rfl ?_);refine br ?hg (N:=9) ?hd (cs:=#[.int .i64 0,.bool false,.slice none 0 0,.string (⟨#[]⟩:ByteArray),.string (⟨#[]⟩:ByteArray),.bool false,.slice none 0 0,.slice none 0 0,.int .i64 0]) (t:=34) ?hr ?_;(case hd=>rfl);(case hg=>rfl);(case hr=>(go_simp;done));intro kF hg wj bJ hb;have iJ:=ah.mk (bJ);have ajK:=ah.mk ((FI:w.heap.size≤kF));have ZY:=ah.mk ((FI:w.heap.size≤kF));replace HB:=ah.mk (ay RV hb);have ku:=ah.mk ((ZX:bC≠kF));have AH:=ah.mk ((RP:kF≠bC));replace dN:=ah.mk (az (g:=bC) (o:= .cells #[.int .i64 ((aj l0 aH).f0),.bool ((aj l0 aH).f1.f0),.slice fL ((aj l0 aH).f1.f1).length fM,.string ((aj l0 aH).f1.f2.f0),.string ((aj l0 aH).f1.f2.f1),.bool ((aj l0 aH).f1.f2.f2),.slice gP ((aj l0 aH).f2).length gQ,.slice iG ((aj l0 aH).f3).length iH,.int .i64 ((aj l0 aH).f4)] 34 (0,0)) ZW hb);clear hb bJ hg;have aak:=AH.out;have aal:=ku.out;have GV:wj.cell? ⟨kF,0,none⟩=some (.int .i64 0):=(af iJ.out 0).trans rfl;have GW:wj.cell? ⟨kF,1,none⟩=some (.bool false):=(af iJ.out 1).trans rfl;have GX:wj.cell? ⟨kF,2,none⟩=some (.slice none 0 0):=(af iJ.out 2).trans rfl;have GY:wj.cell? ⟨kF,3,none⟩=some (.string (⟨#[]⟩:ByteArray)):=(af iJ.out 3).trans rfl;have GZ:wj.cell? ⟨kF,4,none⟩=some (.string (⟨#[]⟩:ByteArray)):=(af iJ.out 4).trans rfl;have G0:wj.cell? ⟨kF,5,none⟩=some (.bool false):=(af iJ.out 5).trans rfl;have G1:wj.cell? ⟨kF,6,none⟩=some (.slice none 0 0):=(af iJ.out 6).trans rfl;have G3:wj.cell? ⟨kF,7,none⟩=some (.slice none 0 0):=(af iJ.out 7).trans rfl;have G5:wj.cell? ⟨kF,8,none⟩=some (.int .i64 0):=(af iJ.out 8).trans rfl;have G6:=aa iJ.out 0;have G7:=aa iJ.out 1;have G8:=aa iJ.out 2;have G9:=aa iJ.out 3;have He:=aa iJ.out 4;have Hf:=aa iJ.out 5;have Hg:=aa iJ.out 6;have Hh:=aa iJ.out 7;have Hi:=aa iJ.out 8;have VL:wj.cell? ⟨bC,0,none⟩=some (.int .i64 ((aj l0 aH).f0)):=(af dN.out 0).trans rfl;have VM:wj.cell? ⟨bC,1,none⟩=some (.bool ((aj l0 aH).f1.f0)):=(af dN.out 1).trans rfl;have VN:wj.cell? ⟨bC,2,none⟩=some (.slice fL ((aj l0 aH).f1.f1).length fM):=(af dN.out 2).trans rfl;have VO:wj.cell? ⟨bC,3,none⟩=some (.string ((aj l0 aH).f1.f2.f0)):=(af dN.out 3).trans rfl;have VP:wj.cell? ⟨bC,4,none⟩=some (.string ((aj l0 aH).f1.f2.f1)):=(af dN.out 4).trans rfl;have auJ:wj.cell? ⟨bC,5,none⟩=some (.bool ((aj l0 aH).f1.f2.f2)):=(af dN.out 5).trans rfl;have auK:wj.cell? ⟨bC,6,none⟩=some (.slice gP ((aj l0 aH).f2).length gQ):=(af dN.out 6).trans rfl;have auL:wj.cell? ⟨bC,7,none⟩=some (.slice iG ((aj l0 aH).f3).length iH):=(af dN.out 7).trans rfl;have auM:wj.cell? ⟨bC,8,none⟩=some (.int .i64 ((aj l0 aH).f4)):=(af dN.out 8).trans rfl;have VQ:=aa dN.out 0;have VR:=aa dN.out 1;have VS:=aa dN.out 2;have VT:=aa dN.out 3;have VU:=aa dN.out 4;have auN:=aa dN.out 5;have auO:=aa dN.out 6;have auP:=aa dN.out 7;have auQ:=aa dN.out 8)|(go_at_call 70;(with_reducible refine (gw.calls k1 ((aj l0 aH).f0) ((aj l0 aH).f1.f0) _ _ ((aj l0 aH).f1.f1) ((aj l0 aH).f1.f2.f0) ((aj l0 aH).f1.f2.f1) ((aj l0 aH).f1.f2.f2) _ _ ((aj l0 aH).f2) _ _ ((aj l0 aH).f3) ((aj l0 aH).f4) ((aj l1 aH).f0) ((aj l1 aH).f1.f0) _ _ ((aj l1 aH).f1.f1) ((aj l1 aH).f1.f2.f0) ((aj l1 aH).f1.f2.f1) ((aj l1 aH).f1.f2.f2) _ _ ((aj l1 aH).f2) _ _ ((aj l1 aH).f3) ((aj l1 aH).f4) false _ ?bk ?bM ?cQ ?fk ?gf ?gh ?lq ?tE ?tF ?MF ?MG ?MH A9.out).mono ?_);(case bk=>exact Kd.bD I0.out ot);(case bM=>exact I1.out);(case cQ=>exact Kd.bD I2.out ot);(case fk=>exact I3.out);(case gf=>exact Kd.bD I4.out ot);(case gh=>exact I5.out);(case lq=>exact Kd.bD I6.out ot);(case tE=>exact I7.out);(case tF=>exact Kd.bD I8.out ot);(case MF=>exact I9.out);(case MG=>exact Kd.bD Ja.out ot);(case MH=>exact Jb.out);rintro e xY ⟨rfl,hb⟩;replace dN:=ah.mk (az (g:=bC) (o:= .cells #[.int .i64 ((aj l0 aH).f0),.bool ((aj l0 aH).f1.f0),.slice fL ((aj l0 aH).f1.f1).length fM,.string ((aj l0 aH).f1.f2.f0),.string ((aj l0 aH).f1.f2.f1),.bool ((aj l0 aH).f1.f2.f2),.slice gP ((aj l0 aH).f2).length gQ,.slice iG ((aj l0 aH).f3).length iH,.int .i64 ((aj l0 aH).f4)] 34 (0,0)) RZ hb);replace iJ:=ah.mk (az (g:=kF) (o:= .cells #[.int .i64 ((aj l1 aH).f0),.bool ((aj l1 aH).f1.f0),.slice tO ((aj l1 aH).f1.f1).length tP,.string ((aj l1 aH).f1.f2.f0),.string ((aj l1 aH).f1.f2.f1),.bool ((aj l1 aH).f1.f2.f2),.slice Da ((aj l1 aH).f2).length Db,.slice FE ((aj l1 aH).f3).length FH,.int .i64 ((aj l1 aH).f4)] 34 (0,0)) RR hb);replace HB:=ah.mk (ay ot hb);(try clear hb)))
      go_ret
      exact ⟨by rfl,aJ⟩
    ·rw [if_neg c5] at H
     have pG:=decide_eq_false c5
     clear c5
     obtain rfl:=Option.some.inj H
     go_wp2
     go_ret
     exact ⟨by rfl,aJ⟩
 ·rw [if_neg c4] at H
  have mo:=beq_eq_false_iff_ne.mpr c4
  have Aj:=bne_iff_ne.mpr c4
  have axV:(l0.length == l1.length)=false:=by (simp at c4 ⊢;omega)
  obtain rfl:=Option.some.inj H
  go_enter Tryz.func69,Tryz.ntmps69
  go_wp2
  go_ret
  exact ⟨by rfl,aJ⟩
def fR.f (k:Nat) (bf:Int) (aD:List (o8)) (iL:Int) (AJ:List (o8)):Option (Bool):=if bf=iL then ((au.f k aD AJ).bind fun t301=>(some t301)) else (some false)
theorem fR.mono:∀ a0 a1 a2 a3 k,eY (fR.f k a0 a1 a2 a3) (fR.f (k + 1) a0 a1 a2 a3):=by
 intro a0 a1 a2 a3 k
 unfold fR.f
 repeat' (with_reducible first|exact au.mono _ _ _|exact eY.refl _|refine eY.ite ?_ ?_|refine eY.bind ?_ (fun _ =>?_))
theorem fR.calls (k:Nat) (bf:Int) (iQ:Option Addr) (gJ:Nat) (aD:List (o8)) (iL:Int) (Q8:Option Addr) (Q9:Nat) (AJ:List (o8)) (r:Bool) (w:World) (nR:Kd.C E4 w iQ aD.length aD) (nS:aD.length≤gJ) (aaP:Kd.C E4 w Q8 AJ.length AJ) (aaQ:AJ.length≤Q9) (h:fR.f k bf aD iL AJ=some r):
 Calls Tryz.prog 25 #[.agg #[.int .i64 bf,.slice iQ aD.length gJ],.agg #[.int .i64 iL,.slice Q8 AJ.length Q9]] w fun e w'=>e= .returned (.bool r)∧Below w.heap.size w w':=by
 have QG:=Tryz.underlying40
 have rH:=ah.mk nR
 have DJ:=ah.mk nS
 clear nR nS
 have ajL:=ah.mk aaP
 have ajM:=ah.mk aaQ
 clear aaP aaQ
 have HB:=ah.mk (Below.refl w.heap.size w)
 have H:(if bf=iL then ((au.f k aD AJ).bind fun t301=>(some t301)) else (some false))=some r:=h
 clear h
 by_cases c3:bf=iL
 ·rw [if_pos c3] at H
  have nr:=beq_iff_eq.mpr c3
  have xk:=bne_eq_false_iff_eq.mpr c3
  clear c3
  obtain ⟨t301,A4,H⟩:=bd_ H
  obtain rfl:=Option.some.inj H
  go_enter Tryz.func25,Tryz.ntmps25
  go_wp2_with (first|((with_reducible refine bq (N:=2) rfl ?_);refine br ?hg (N:=2) ?hd (cs:=#[.int .i64 bf,.slice iQ aD.length gJ]) (t:=40) ?hr ?_;(case hd=>rfl);(case hg=>rfl);(case hr=>(go_simp;done));intro tG hg w5 bJ hb;have sY:=ah.mk (bJ);have ajN:=ah.mk ((bI:w.heap.size≤tG));have ajO:=ah.mk ((bI:w.heap.size≤tG));replace HB:=ah.mk (ay aJ hb);clear hb bJ hg)|((with_reducible refine bq (N:=3) rfl ?_);refine br ?hg (N:=3) ?hd (cs:=#[.int .i64 iL,.slice Q8 AJ.length Q9]) (t:=40) ?hr ?_;(case hd=>rfl);(case hg=>rfl);(case hr=>(go_simp;done));intro tH hg w6 bJ hb;have wu:=ah.mk (bJ);have ajP:=ah.mk ((bI:w.heap.size≤tH));have ajQ:=ah.mk ((bI:w.heap.size≤tH));replace HB:=ah.mk (ay aJ hb);have AK:=ah.mk ((by rw [hg];exact Nat.ne_of_lt (dQ tX):tG≠tH));have AL:=ah.mk ((by rw [hg];exact Nat.ne_of_gt (dQ tX):tH≠tG));replace sY:=ah.mk (az tX hb);clear hb bJ hg;have agq:=AK.out;have agr:=AL.out;have Dv:w6.cell? ⟨tG,0,none⟩=some (.int .i64 bf):=(af sY.out 0).trans rfl;have Dw:w6.cell? ⟨tG,1,none⟩=some (.slice iQ aD.length gJ):=(af sY.out 1).trans rfl;have Dx:=aa sY.out 0;have Dy:=aa sY.out 1;have Af:w6.cell? ⟨tH,0,none⟩=some (.int .i64 iL):=(af wu.out 0).trans rfl;have Ag:w6.cell? ⟨tH,1,none⟩=some (.slice Q8 AJ.length Q9):=(af wu.out 1).trans rfl;have Ah:=aa wu.out 0;have Ai:=aa wu.out 1)|(go_at_call 69;(with_reducible refine (au.calls k _ _ aD _ _ AJ t301 _ ?bk ?bM ?cQ ?fk A4.out).mono ?_);(case bk=>repeat (exact (Kd.bD rH.out HB.out)));(case bM=>exact DJ.out);(case cQ=>repeat (exact (Kd.bD ajL.out HB.out)));(case fk=>exact ajM.out);rintro e mR ⟨rfl,hb⟩;replace sY:=ah.mk (az tX hb);replace wu:=ah.mk (az (by exact wu.out) hb);replace HB:=ah.mk (ay aJ hb);(try clear hb)))
  go_ret
  exact ⟨by rfl,aJ⟩
 ·rw [if_neg c3] at H
  have nr:=beq_eq_false_iff_ne.mpr c3
  have xk:=bne_iff_ne.mpr c3
  obtain rfl:=Option.some.inj H
  go_enter Tryz.func25,Tryz.ntmps25
  go_wp2_with (first|((with_reducible refine bq (N:=2) rfl ?_);refine br ?hg (N:=2) ?hd (cs:=#[.int .i64 bf,.slice iQ aD.length gJ]) (t:=40) ?hr ?_;(case hd=>rfl);(case hg=>rfl);(case hr=>(go_simp;done));intro tG hg vK bJ hb;have sY:=ah.mk (bJ);have ajN:=ah.mk ((bI:w.heap.size≤tG));have ajO:=ah.mk ((bI:w.heap.size≤tG));replace HB:=ah.mk (ay aJ hb);clear hb bJ hg)|((with_reducible refine bq (N:=3) rfl ?_);refine br ?hg (N:=3) ?hd (cs:=#[.int .i64 iL,.slice Q8 AJ.length Q9]) (t:=40) ?hr ?_;(case hd=>rfl);(case hg=>rfl);(case hr=>(go_simp;done));intro tH hg Cx bJ hb;have wu:=ah.mk (bJ);have ajP:=ah.mk ((bI:w.heap.size≤tH));have ajQ:=ah.mk ((bI:w.heap.size≤tH));replace HB:=ah.mk (ay aJ hb);have AK:=ah.mk ((by rw [hg];exact Nat.ne_of_lt (dQ tX):tG≠tH));have AL:=ah.mk ((by rw [hg];exact Nat.ne_of_gt (dQ tX):tH≠tG));replace sY:=ah.mk (az tX hb);clear hb bJ hg;have ai1:=AK.out;have ai2:=AL.out;have wR:Cx.cell? ⟨tG,0,none⟩=some (.int .i64 bf):=(af sY.out 0).trans rfl;have wS:Cx.cell? ⟨tG,1,none⟩=some (.slice iQ aD.length gJ):=(af sY.out 1).trans rfl;have wT:=aa sY.out 0;have wU:=aa sY.out 1;have Ix:Cx.cell? ⟨tH,0,none⟩=some (.int .i64 iL):=(af wu.out 0).trans rfl;have Iy:Cx.cell? ⟨tH,1,none⟩=some (.slice Q8 AJ.length Q9):=(af wu.out 1).trans rfl;have Iz:=aa wu.out 0;have IA:=aa wu.out 1))
  go_ret
  exact ⟨by rfl,aJ⟩
end Go.Proofs.YtbjjaaodfbjkfaaGreatDoor.mN
