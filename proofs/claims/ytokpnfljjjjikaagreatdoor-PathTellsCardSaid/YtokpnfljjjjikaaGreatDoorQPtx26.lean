import Derived.Test.YtokpnfljjjjikaaGreatDoorQPtx13
import Derived.Test.YtokpnfljjjjikaaGreatDoorQPtx25
namespace Go.Proofs.YtokpnfljjjjikaaGreatDoor.mY
open Go.RowKit Go.Proofs.YtokpnfljjjjikaaGreatDoor.qP Go.Proofs.aj.bO Go.Proofs.aj.fA Go.Proofs.aj.cK
attribute [local go_sem] ia ig iU iV gf gh ij iq
set_option linter.unusedVariables false
set_option linter.unusedSimpArgs false
attribute [local go_sem high] QW
mutual
def aH.j0:Nat→ByteArray→Bool→Bool→List ByteArray→ByteArray→ByteArray→Bool→Option (Bool)
 | 0,_,_,_,_,_,_,_ =>none
 |k + 1,x0,x39,kS,jY,jZ,j5,j6=>if x39=true then ((cr.f k).bind fun aeB=>(some aeB)) else (aH.l0 k x0 jY (jY.length:Int) 0 kS jY jZ j5 j6)
def aH.l0:Nat→ByteArray→List ByteArray→Int→Int→Bool→List ByteArray→ByteArray→ByteArray→Bool→Option (Bool)
 | 0,_,_,_,_,_,_,_,_,_ =>none
 |k + 1,x0,x42,x43,x44,kS,jY,jZ,j5,j6=>if x44 < x43 then (if 0≤x44 then (if x44 < (x42.length:Int) then (if ((cV ByteArray.empty x42 x44).size:Int) > 300 then ((cr.f k).bind fun aeC=>(some aeC)) else (aH.l0 k x0 x42 x43 (wrap64 (x44 + 1)) kS jY jZ j5 j6)) else (none)) else (none)) else ((bZ.f k x0).bind fun FY=>((aG.f k x0).bind fun FZ=>((br.f k FY.1 FY.2.1 FY.2.2.1 FY.2.2.2.1 FY.2.2.2.2.1 FZ.1 FZ.2.1 FZ.2.2.1 FZ.2.2.2.1 FZ.2.2.2.2.1).bind fun aeD=>(if aeD=true then (if FY.2.2.2.2.2.1=FZ.2.2.2.2.2.1 then (if FY.2.2.2.2.2.2=FZ.2.2.2.2.2.2 then ((jk.f k x0).bind fun DF=>((fK.f k x0).bind fun DG=>(if (DF != DG)=true then (aH.j2 k x0 true kS jY jZ j5 j6) else ((cI.f k x0).bind fun aaW=>((aU.f k x0).bind fun aaX=>(aH.j2 k x0 (aaW != aaX) kS jY jZ j5 j6)))))) else (aH.j2 k x0 true kS jY jZ j5 j6)) else (aH.j2 k x0 true kS jY jZ j5 j6)) else (aH.j2 k x0 true kS jY jZ j5 j6)))))
def aH.j2:Nat→ByteArray→Bool→Bool→List ByteArray→ByteArray→ByteArray→Bool→Option (Bool)
 | 0,_,_,_,_,_,_,_ =>none
 |k + 1,x0,x92,kS,jY,jZ,j5,j6=>if x92=true then (none) else ((gI.f k x0).bind fun SU=>((fQ.f k x0).bind fun SV=>(if (!(SU.1.toList == SV.1.toList) || (!(SU.2.1.toList == SV.2.1.toList) || (!(SU.2.2.1 == SV.2.2.1))))=true then (aH.j3 k true kS jY jZ j5 j6) else (if SU.2.2.2=SV.2.2.2 then ((gq.f k kS jY jZ j5 j6).bind fun aaY=>((bP.f k kS jY jZ j5 j6).bind fun aaZ=>(aH.j3 k (aaY != aaZ) kS jY jZ j5 j6))) else (aH.j3 k true kS jY jZ j5 j6)))))
def aH.j3:Nat→Bool→Bool→List ByteArray→ByteArray→ByteArray→Bool→Option (Bool)
 | 0,_,_,_,_,_,_ =>none
 |k + 1,aqG,kS,jY,jZ,j5,j6=>if aqG=true then (none) else ((jM.f k kS jY jZ j5 j6).bind fun acY=>((gA.f k kS jY jZ j5 j6).bind fun acZ=>(if acY.1.toList=acZ.1.toList then (aH.j4 k (acY.2 != acZ.2) kS jY jZ j5 j6) else (aH.j4 k true kS jY jZ j5 j6))))
def aH.j4:Nat→Bool→Bool→List ByteArray→ByteArray→ByteArray→Bool→Option (Bool)
 | 0,_,_,_,_,_,_ =>none
 |k + 1,aqH,kS,jY,jZ,j5,j6=>if aqH=true then (none) else ((gP.f k jZ j5 j6).bind fun ac0=>((eO.f k jZ j5 j6).bind fun ac1=>(if ac0.1.toList=ac1.1.toList then (if ac0.2=ac1.2 then ((cr.f k).bind fun aeE=>(some aeE)) else (some false)) else (some false))))
end
def aH.f (k:Nat) (a0:ByteArray) (eN:Bool) (dO:List ByteArray) (eo:ByteArray) (eF:ByteArray) (eI:Bool):Option (Bool):=if (a0.size:Int) > 700 then (aH.j0 k a0 true eN dO eo eF eI) else (if (dO.length:Int) > 30 then (aH.j0 k a0 true eN dO eo eF eI) else (if (eo.size:Int) > 300 then (aH.j0 k a0 true eN dO eo eF eI) else (aH.j0 k a0 (decide ((eF.size:Int) > 300)) eN dO eo eF eI)))
def aH.T15:Bool×List (List Nat×List Nat):=(true,[([],[]),([],[]),([0,1],[0,1]),([2],[2]),([3],[3]),([3],[3]),([4,5,3],[3,4,5]),([3,6],[3,6]),([7,3],[7]),([8],[8]),([9,8,8],[8,9]),([8],[8]),([11,10,8],[8,11]),([10,12,8],[8,10,12]),([8,13],[8,13])])
def aH.B15:List Nat:=[0,0,3,7,15,15,63,127,255,511,1023,511,4095,8191,16383]
theorem aH.XA:rF .any (opsOf Tryz.f6 15)=aH.T15:=by kernel_rfl
theorem aH.O6:rS aH.T15.2 aH.B15=true:=by kernel_rfl
set_option maxHeartbeats 8000000 in
set_option maxRecDepth 100000 in
theorem aH.calls (k:Nat) (a0:ByteArray) (eN:Bool) (iW:Option Addr) (iX:Nat) (dO:List ByteArray) (eo:ByteArray) (eF:ByteArray) (eI:Bool) (r:Bool) (w:World) (wU:Kd.C Kd.string w iW dO.length dO) (wV:dO.length≤iX) (hG:aJ w) (h:aH.f k a0 eN dO eo eF eI=some r):
 Calls Tryz.prog 6 #[.string a0,.agg #[.bool eN,.slice iW dO.length iX,.string eo,.string eF,.bool eI]] w fun e w'=>e= .returned (.bool r)∧Below w.heap.size w w':=by
 have DA:=Tryz.underlying32
 have wT:=Tryz.underlying30
 have tM:=aa.mk wU
 have CY:=aa.mk wV
 clear wU wV
 have HB:=aa.mk (Below.refl w.heap.size w)
 have HG:=aa.mk hG
 clear hG
 have H:(if (a0.size:Int) > 700 then (aH.j0 k a0 true eN dO eo eF eI) else (if (dO.length:Int) > 30 then (aH.j0 k a0 true eN dO eo eF eI) else (if (eo.size:Int) > 300 then (aH.j0 k a0 true eN dO eo eF eI) else (aH.j0 k a0 (decide ((eF.size:Int) > 300)) eN dO eo eF eI))))=some r:=h
 clear h
 have Fk:=aa.mk H
 clear H
 go_enter Tryz.func6,Tryz.ntmps6
 go_upto_region 1 with (first|((with_reducible refine cB (N:=3) rfl ?_);(try (refine cL (by rfl) ?_;dsimp only));refine cj ?hg (N:=3) ?hd (cs:=#[.bool eN,.slice iW dO.length iX,.string eo,.string eF,.bool eI]) (t:=32) ?hr ?_;(case hd=>rfl);(case hg=>rfl);(case hr=>first|(go_simp;done)|(go_simp;rfl));intro dY hg w4 cE hb;have bY:=aa.mk (cE);have at6:=aa.mk ((dI:w.heap.size≤dY));have Ae:=aa.mk ((dI:w.heap.size≤dY));replace HB:=aa.mk (aA bG hb);clear hb cE hg))
 (try simp only [Act.put,List.setIfInBounds_toArray,List.set_cons_zero,List.set_cons_succ])
 go_cut [39] (fun v39 wc=>∃ (kq:Nat) (SX:Bool),v39= .bool SX∧aa (aH.j0 kq a0 SX eN dO eo eF eI=some r)∧aa (kq≤k)∧aa (wc.heap[dY]? =some (.cells #[.bool eN,(.slice iW dO.length iX),.string eo,.string eF,.bool eI] 32 (0,0)))∧aa (Below w.heap.size w wc))
 case first=>
  have H:=Fk.out
  clear Fk
  by_cases c5:(a0.size:Int) > 700
  ·rw [if_pos c5] at H
   have lF:decide (700 < (a0.size:Int))=true:=decide_eq_true c5
   have Cf:decide (700 < a0.size)=true:=decide_eq_true ak
   clear c5
   (first|rw [lF]|(simp only [cU,dh];rw [lF])|skip)
   have H':=aa.mk H
   clear H
   go_wp2
   go_meet
   case rel=>exact ⟨_,(true),b9,H',⟨iT⟩,⟨gW⟩,⟨n9⟩⟩
  ·rw [if_neg c5] at H
   have lF:decide (700 < (a0.size:Int))=false:=decide_eq_false c5
   have Cf:decide (700 < a0.size)=false:=decide_eq_false ak
   clear c5
   (first|rw [lF]|(simp only [cU,dh];rw [lF])|skip)
   by_cases c6:(dO.length:Int) > 30
   ·rw [if_pos c6] at H
    have nL:decide (30 < (dO.length:Int))=true:=decide_eq_true c6
    have wK:decide (30 < dO.length)=true:=decide_eq_true ak
    clear c6
    have H':=aa.mk H
    clear H
    have Jq:w4.cell? ⟨dY,0,none⟩=some (.bool eN):=(ah bY.out 0).trans rfl
    have Jr:w4.cell? ⟨dY,1,none⟩=some (.slice iW dO.length iX):=(ah bY.out 1).trans rfl
    have Wh:w4.cell? ⟨dY,2,none⟩=some (.string eo):=(ah bY.out 2).trans rfl
    have Wi:w4.cell? ⟨dY,3,none⟩=some (.string eF):=(ah bY.out 3).trans rfl
    have Wj:w4.cell? ⟨dY,4,none⟩=some (.bool eI):=(ah bY.out 4).trans rfl
    have Js:=af bY.out 0
    have Jt:=af bY.out 1
    have Wk:=af bY.out 2
    have Wl:=af bY.out 3
    have Wm:=af bY.out 4
    go_wp2
    go_meet
    case rel=>exact ⟨_,(true),b9,H',⟨iT⟩,⟨gW⟩,⟨n9⟩⟩
   ·rw [if_neg c6] at H
    have nL:decide (30 < (dO.length:Int))=false:=decide_eq_false c6
    have wK:decide (30 < dO.length)=false:=decide_eq_false ak
    clear c6
    by_cases c8:(eo.size:Int) > 300
    ·rw [if_pos c8] at H
     have rK:decide (300 < (eo.size:Int))=true:=decide_eq_true c8
     have Fg:decide (300 < eo.size)=true:=decide_eq_true ak
     clear c8
     have H':=aa.mk H
     clear H
     have rG:w4.cell? ⟨dY,0,none⟩=some (.bool eN):=(ah bY.out 0).trans rfl
     have rH:w4.cell? ⟨dY,1,none⟩=some (.slice iW dO.length iX):=(ah bY.out 1).trans rfl
     have zD:w4.cell? ⟨dY,2,none⟩=some (.string eo):=(ah bY.out 2).trans rfl
     have J3:w4.cell? ⟨dY,3,none⟩=some (.string eF):=(ah bY.out 3).trans rfl
     have J4:w4.cell? ⟨dY,4,none⟩=some (.bool eI):=(ah bY.out 4).trans rfl
     have rI:=af bY.out 0
     have rJ:=af bY.out 1
     have zE:=af bY.out 2
     have J5:=af bY.out 3
     have J6:=af bY.out 4
     go_wp2
     go_meet
     case rel=>exact ⟨_,(true),b9,H',⟨iT⟩,⟨gW⟩,⟨n9⟩⟩
    ·rw [if_neg c8] at H
     have rK:decide (300 < (eo.size:Int))=false:=decide_eq_false c8
     have Fg:decide (300 < eo.size)=false:=decide_eq_false ak
     clear c8
     have H':=aa.mk H
     clear H
     have Es:w4.cell? ⟨dY,0,none⟩=some (.bool eN):=(ah bY.out 0).trans rfl
     have Et:w4.cell? ⟨dY,1,none⟩=some (.slice iW dO.length iX):=(ah bY.out 1).trans rfl
     have Eu:w4.cell? ⟨dY,2,none⟩=some (.string eo):=(ah bY.out 2).trans rfl
     have RS:w4.cell? ⟨dY,3,none⟩=some (.string eF):=(ah bY.out 3).trans rfl
     have RT:w4.cell? ⟨dY,4,none⟩=some (.bool eI):=(ah bY.out 4).trans rfl
     have Ew:=af bY.out 0
     have Ex:=af bY.out 1
     have Ey:=af bY.out 2
     have RU:=af bY.out 3
     have RV:=af bY.out 4
     go_wp2
     go_meet
     case rel=>exact ⟨_,(decide ((eF.size:Int) > 300)),b9,H',⟨iT⟩,⟨gW⟩,⟨n9⟩⟩
 case rest=>
  clear Fk
  obtain ⟨kq,SX,rfl,HA,Lp,bY,HB⟩:=hcut
  cases kq with
  |zero=>exact absurd HA.out (by simp [aH.j0])
  |succ Fl=>
   have H:=HA.out
   clear HA
   simp only [aH.j0] at H
   by_cases c11:SX=true
   ·subst c11
    rw [if_pos rfl] at H
    obtain ⟨aeB,G1,H⟩:=bd_ H
    obtain rfl:=Option.some.inj H
    go_wp2_with (first|((with_reducible refine aK (f:=19) rfl ?_);refine bU (some 40) rfl rfl Tryz.func19 aq rfl #[] rfl cz ?_;(with_reducible refine (cr.calls Fl aeB _ ?aT G1.out).mono ?_);(case aT=>exact aJ.below HG.out n9);rintro e Hq ⟨rfl,hb⟩;refine ⟨_,rfl,?_⟩;replace bY:=aa.mk (aC gW hb);replace HB:=aa.mk (aA n9 hb);(try clear hb)))
    go_ret
    exact ⟨cH,n9⟩
   ·replace c11:=Bool.eq_false_iff.mpr c11
    subst c11
    rw [if_neg (show ¬ (false=true) by decide)] at H
    have H':=aa.mk H
    clear H
    have AP:wc.cell? ⟨dY,0,none⟩=some (.bool eN):=(ah bY.out 0).trans rfl
    have AQ:wc.cell? ⟨dY,1,none⟩=some (.slice iW dO.length iX):=(ah bY.out 1).trans rfl
    have Eo:wc.cell? ⟨dY,2,none⟩=some (.string eo):=(ah bY.out 2).trans rfl
    have Kn:wc.cell? ⟨dY,3,none⟩=some (.string eF):=(ah bY.out 3).trans rfl
    have Ko:wc.cell? ⟨dY,4,none⟩=some (.bool eI):=(ah bY.out 4).trans rfl
    have AR:=af bY.out 0
    have AU:=af bY.out 1
    have Ep:=af bY.out 2
    have Kp:=af bY.out 3
    have Kq:=af bY.out 4
    go_wp2
    go_loopg [44] Fl (fun kq v44 w'=>∃ (rM:Int),v44= .int .i64 rM∧aa (aH.l0 kq a0 dO (dO.length:Int) rM eN dO eo eF eI=some r)∧aa (kq≤Fl)∧aa (w'.heap[dY]? =some (.cells #[.bool eN,(.slice iW dO.length iX),.string eo,.string eF,.bool eI] 32 (0,0)))∧aa (Below w.heap.size w w'))
    case atStart=>exact ⟨(0),b9,H',⟨Nat.le_refl _⟩,⟨gW⟩,⟨n9⟩⟩
    case round=>
     clear H'
     obtain ⟨rM,rfl,HA,uI,bY,HB⟩:=hrel
     cases gk with
     |zero=>exact absurd HA.out (by simp [aH.l0])
     |succ k2=>
      have H:=HA.out
      clear HA
      simp only [aH.l0] at H
      by_cases c15:rM < (dO.length:Int)
      ·rw [if_pos c15] at H
       have tL:=decide_eq_true c15
       clear c15
       obtain ⟨c16,H⟩:=iA H
       have qT:=decide_eq_true c16
       clear c16
       obtain ⟨c17,H⟩:=iA H
       have wO:=decide_eq_true c17
       clear c17
       by_cases c18:((cV ByteArray.empty dO rM).size:Int) > 300
       ·rw [if_pos c18] at H
        have xd:decide (300 < ((cV ByteArray.empty dO rM).size:Int))=true:=decide_eq_true c18
        have Mr:decide (300 < (cV ByteArray.empty dO rM).size)=true:=decide_eq_true ak
        clear c18
        obtain ⟨aeC,A19,H⟩:=bd_ H
        obtain rfl:=Option.some.inj H
        have O7: 0≤(rM:Int):=of_decide_eq_true bp
        have O8:rM < (dO.length:Int):=of_decide_eq_true bp
        obtain ⟨aiL,aeF,vE⟩:=Kd.cY tM.out rM O7 O8
        cases aeF
        replace vE:=(HB.out.cell (World.block_lt_of_cell? w _ vE)).trans vE
        replace O7:=eq_true O7
        replace O8:=eq_true O8
        go_wp2_with (first|((with_reducible refine aK (f:=19) rfl ?_);refine bU (some 51) rfl rfl Tryz.func19 aq rfl #[] rfl cz ?_;(with_reducible refine (cr.calls k2 aeC _ ?aT A19.out).mono ?_);(case aT=>exact aJ.below HG.out n9);rintro e Rj ⟨rfl,hb⟩;refine ⟨_,rfl,?_⟩;replace bY:=aa.mk (aC gW hb);replace HB:=aa.mk (aA n9 hb);(try clear hb)))
        go_ret
        exact ⟨cH,n9⟩
       ·rw [if_neg c18] at H
        have xd:decide (300 < ((cV ByteArray.empty dO rM).size:Int))=false:=decide_eq_false c18
        have Mr:decide (300 < (cV ByteArray.empty dO rM).size)=false:=decide_eq_false ak
        clear c18
        have H':=aa.mk H
        clear H
        have O7: 0≤(rM:Int):=of_decide_eq_true bp
        have O8:rM < (dO.length:Int):=of_decide_eq_true bp
        obtain ⟨aiL,aeF,vE⟩:=Kd.cY tM.out rM O7 O8
        cases aeF
        replace vE:=(HB.out.cell (World.block_lt_of_cell? w _ vE)).trans vE
        replace O7:=eq_true O7
        replace O8:=eq_true O8
        go_wp2
        go_roundg k2
        case measure=>have:=Lp.out;have:=uI.out;omega
        case rel=>exact ⟨(wrap64 (rM + 1)),b9,H',⟨Jg⟩,⟨gW⟩,⟨n9⟩⟩
      ·rw [if_neg c15] at H
       have tL:=decide_eq_false c15
       clear c15
       obtain ⟨⟨nH,jv,nQ,oc,ot,aiM,aiN⟩,A21,H⟩:=bd_ H
       (try dsimp only at H)
       obtain ⟨⟨oJ,jR,pL,pY,qd,aiO,aiP⟩,A22,H⟩:=bd_ H
       (try dsimp only at H)
       have aeG:=aa.mk H
       clear H
       go_upto_region 11 with (first|((with_reducible refine aK (f:=17) rfl ?_);refine bU (some 55) rfl rfl Tryz.func17 aq rfl #[.string a0] rfl cz ?_;(with_reducible refine (bZ.calls k2 a0 nH jv nQ oc ot aiM aiN _ ?aT A21.out).mono ?_);(case aT=>exact aJ.below HG.out n9);rintro e RR ⟨awA,rfl,ho0,hb⟩;refine ⟨_,rfl,?_⟩;have nD:=aa.mk (Kd.kD ho0 (dm n9));replace bY:=aa.mk (aC gW hb);replace HB:=aa.mk (aA n9 hb);(try clear hb);(try clear ho0))|((with_reducible refine cB (N:=7) rfl ?_);(try (refine cL (by rfl) ?_;dsimp only));refine cj ?hg (N:=7) ?hd (cs:=#[.bool false,.slice none 0 0,.string (⟨#[]⟩:ByteArray),.string (⟨#[]⟩:ByteArray),.bool false]) (t:=32) ?hr ?_;(case hd=>rfl);(case hg=>rfl);(case hr=>first|(go_simp;done)|(go_simp;rfl));intro gB hg LY cE hb;replace nD:=aa.mk (Kd.ck tG hb);have dw:=aa.mk (cE);have at7:=aa.mk ((Qo:w.heap.size≤gB));have EI:=aa.mk ((Qo:w.heap.size≤gB));replace HB:=aa.mk (aA n9 hb);have ku:=aa.mk ((DL:dY≠gB));have nr:=aa.mk ((DM:gB≠dY));replace bY:=aa.mk (aC gW hb);clear hb cE hg;have acw:=nr.out;have acy:=ku.out;have uZ:LY.cell? ⟨gB,0,none⟩=some (.bool false):=(ah dw.out 0).trans rfl;have u5:LY.cell? ⟨gB,1,none⟩=some (.slice none 0 0):=(ah dw.out 1).trans rfl;have yA:LY.cell? ⟨gB,2,none⟩=some (.string (⟨#[]⟩:ByteArray)):=(ah dw.out 2).trans rfl;have yB:LY.cell? ⟨gB,3,none⟩=some (.string (⟨#[]⟩:ByteArray)):=(ah dw.out 3).trans rfl;have yC:LY.cell? ⟨gB,4,none⟩=some (.bool false):=(ah dw.out 4).trans rfl;have u7:=af dw.out 0;have u9:=af dw.out 1;have yD:=af dw.out 2;have yE:=af dw.out 3;have yF:=af dw.out 4;obtain ⟨lI,kO,aeA⟩:=Kd.gQ nD.out;subst aeA)|((with_reducible refine aK (f:=24) rfl ?_);refine bU (some 61) rfl rfl Tryz.func24 aq rfl #[.string a0] rfl cz ?_;(with_reducible refine (aG.calls k2 a0 oJ jR pL pY qd aiO aiP _ ?aT A22.out).mono ?_);(case aT=>exact aJ.below HG.out IK);rintro e w29 ⟨awB,rfl,ho0,hb⟩;refine ⟨_,rfl,?_⟩;have oo:=aa.mk (Kd.kD (Kd.NU ho0 (Kd.Vf P5)) (dm IK));replace nD:=aa.mk (Kd.EY P5 (Kd.NT ho0) hb);replace bY:=aa.mk (aC (g:=dY) (o:= .cells #[.bool eN,.slice iW dO.length iX,.string eo,.string eF,.bool eI] 32 (0,0)) (by (with_reducible repeat (first|refine ay ?_ _|refine az ?_|refine av ?_ _));refine cQ ?_ ku.out _;(with_reducible repeat (first|refine ay ?_ _|refine az ?_|refine av ?_ _));refine cQ ?_ ku.out _;(with_reducible repeat (first|refine ay ?_ _|refine az ?_|refine av ?_ _));refine cQ ?_ ku.out _;(with_reducible repeat (first|refine ay ?_ _|refine az ?_|refine av ?_ _));refine cQ ?_ ku.out _;(with_reducible repeat (first|refine ay ?_ _|refine az ?_|refine av ?_ _));refine cQ ?_ ku.out _;(with_reducible repeat (first|refine ay ?_ _|refine az ?_|refine av ?_ _));exact bY.out) hb);replace dw:=aa.mk (aC (g:=gB) (o:= .cells #[.bool nH,.slice lI jv.length kO,.string nQ,.string oc,.bool ot] 32 (0,0)) (by (with_reducible repeat (first|refine ay ?_ _|refine az ?_|refine av ?_ _));refine bR (cs:=#[.bool nH,.slice lI jv.length kO,.string nQ,.string oc,.bool false]) ?_ 4 _ rfl;(with_reducible repeat (first|refine ay ?_ _|refine az ?_|refine av ?_ _));refine bR (cs:=#[.bool nH,.slice lI jv.length kO,.string nQ,.string (⟨#[]⟩:ByteArray),.bool false]) ?_ 3 _ rfl;(with_reducible repeat (first|refine ay ?_ _|refine az ?_|refine av ?_ _));refine bR (cs:=#[.bool nH,.slice lI jv.length kO,.string (⟨#[]⟩:ByteArray),.string (⟨#[]⟩:ByteArray),.bool false]) ?_ 2 _ rfl;(with_reducible repeat (first|refine ay ?_ _|refine az ?_|refine av ?_ _));refine bR (cs:=#[.bool nH,.slice none 0 0,.string (⟨#[]⟩:ByteArray),.string (⟨#[]⟩:ByteArray),.bool false]) ?_ 1 _ rfl;(with_reducible repeat (first|refine ay ?_ _|refine az ?_|refine av ?_ _));refine bR (cs:=#[.bool false,.slice none 0 0,.string (⟨#[]⟩:ByteArray),.string (⟨#[]⟩:ByteArray),.bool false]) ?_ 0 _ rfl;(with_reducible repeat (first|refine ay ?_ _|refine az ?_|refine av ?_ _));exact dw.out) hb);replace HB:=aa.mk (aA IK hb);(try clear hb);(try clear hk);(try clear ho0))|((with_reducible refine cB (N:=10) rfl ?_);(try (refine cL (by rfl) ?_;dsimp only));refine cj ?hg (N:=10) ?hd (cs:=#[.bool false,.slice none 0 0,.string (⟨#[]⟩:ByteArray),.string (⟨#[]⟩:ByteArray),.bool false]) (t:=32) ?hr ?_;(case hd=>rfl);(case hg=>rfl);(case hr=>first|(go_simp;done)|(go_simp;rfl));intro gj hg pX cE hb;replace nD:=aa.mk (Kd.ck tG hb);replace oo:=aa.mk (Kd.ck uP hb);have dH:=aa.mk (cE);have aua:=aa.mk ((Qk:w.heap.size≤gj));have Lf:=aa.mk ((Qk:w.heap.size≤gj));replace HB:=aa.mk (aA IK hb);have kg:=aa.mk ((DL:dY≠gj));have nu:=aa.mk ((DM:gj≠dY));replace bY:=aa.mk (aC gW hb);have mA:=aa.mk ((I3:gB≠gj));have sw:=aa.mk ((I4:gj≠gB));replace dw:=aa.mk (aC ju hb);clear hb cE hg;have aub:=nu.out;have auc:=kg.out;have aud:=sw.out;have aue:=mA.out;have JI:pX.cell? ⟨gj,0,none⟩=some (.bool false):=(ah dH.out 0).trans rfl;have JJ:pX.cell? ⟨gj,1,none⟩=some (.slice none 0 0):=(ah dH.out 1).trans rfl;have Rv:pX.cell? ⟨gj,2,none⟩=some (.string (⟨#[]⟩:ByteArray)):=(ah dH.out 2).trans rfl;have Y8:pX.cell? ⟨gj,3,none⟩=some (.string (⟨#[]⟩:ByteArray)):=(ah dH.out 3).trans rfl;have Y9:pX.cell? ⟨gj,4,none⟩=some (.bool false):=(ah dH.out 4).trans rfl;have JK:=af dH.out 0;have JL:=af dH.out 1;have Rw:=af dH.out 2;have Za:=af dH.out 3;have Zb:=af dH.out 4;obtain ⟨lW,kV,aeb⟩:=Kd.gQ oo.out;subst aeb))
       (try simp only [Act.put,List.setIfInBounds_toArray,List.set_cons_zero,List.set_cons_succ])
       go_cut [92] (fun Oz wc=>∃ (kq:Nat) (KY:Bool),Oz= .bool KY∧aa (aH.j2 kq a0 KY eN dO eo eF eI=some r)∧aa (kq≤k2)∧aa (Kd.R Kd.string 9 wc w.heap.size (fun k_ =>some k_≠((.slice lW jR.length kV):Value).ownBlock) (.slice lI jv.length kO) jv)∧aa (Kd.R Kd.string 9 wc w.heap.size (fun k_ =>some k_≠((.slice lI jv.length kO):Value).ownBlock) (.slice lW jR.length kV) jR)∧aa (wc.heap[dY]? =some (.cells #[.bool eN,(.slice iW dO.length iX),.string eo,.string eF,.bool eI] 32 (0,0)))∧aa (wc.heap[gB]? =some (.cells #[.bool nH,(.slice lI jv.length kO),.string nQ,.string oc,.bool ot] 32 (0,0)))∧aa (wc.heap[gj]? =some (.cells #[.bool oJ,(.slice lW jR.length kV),.string pL,.string pY,.bool qd] 32 (0,0)))∧aa (Below w.heap.size w wc))
       case first=>
        have H:=aeG.out
        clear aeG
        obtain ⟨aeD,A35,H⟩:=bd_ H
        by_cases zC:aeD=true
        ·subst zC
         rw [if_pos rfl] at H
         by_cases c37:aiM=aiO
         ·rw [if_pos c37] at H
          have CX:=beq_iff_eq.mpr c37
          have Ra:=bne_eq_false_iff_eq.mpr c37
          clear c37
          (first|rw [CX]|(simp only [cU,dh];rw [CX])|skip)
          by_cases c38:aiN=aiP
          ·rw [if_pos c38] at H
           have aiQ:=beq_iff_eq.mpr c38
           have aiR:=bne_eq_false_iff_eq.mpr c38
           clear c38
           obtain ⟨DF,A39,H⟩:=bd_ H
           obtain ⟨DG,A40,H⟩:=bd_ H
           by_cases OY:(DF != DG)=true
           ·rw [if_pos OY] at H
            have acL:(DF != DG)=true:=OY
            (try (have acM:decide (DF=DG)=false:=by simpa using OY))
            (try (have Xv:(DF == DG)=false:=by simpa using OY))
            (try (have Xw: ¬ (DF=DG):=by simpa using OY))
            clear OY
            have H':=aa.mk H
            clear H
            have auh:=nr.out
            have aui:=ku.out
            have auj:=mA.out
            have auk:=sw.out
            have aaO:pX.cell? ⟨gB,0,none⟩=some (.bool nH):=(ah dw.out 0).trans rfl
            have aaP:pX.cell? ⟨gB,1,none⟩=some (.slice lI jv.length kO):=(ah dw.out 1).trans rfl
            have aaQ:pX.cell? ⟨gB,2,none⟩=some (.string nQ):=(ah dw.out 2).trans rfl
            have ano:pX.cell? ⟨gB,3,none⟩=some (.string oc):=(ah dw.out 3).trans rfl
            have anp:pX.cell? ⟨gB,4,none⟩=some (.bool ot):=(ah dw.out 4).trans rfl
            have aaR:=af dw.out 0
            have aaS:=af dw.out 1
            have aaT:=af dw.out 2
            have anq:=af dw.out 3
            have anr:=af dw.out 4
            have aul:=nu.out
            have aum:=kg.out
            have ant:pX.cell? ⟨gj,0,none⟩=some (.bool false):=(ah dH.out 0).trans rfl
            have anu:pX.cell? ⟨gj,1,none⟩=some (.slice none 0 0):=(ah dH.out 1).trans rfl
            have anv:pX.cell? ⟨gj,2,none⟩=some (.string (⟨#[]⟩:ByteArray)):=(ah dH.out 2).trans rfl
            have anw:pX.cell? ⟨gj,3,none⟩=some (.string (⟨#[]⟩:ByteArray)):=(ah dH.out 3).trans rfl
            have anx:pX.cell? ⟨gj,4,none⟩=some (.bool false):=(ah dH.out 4).trans rfl
            have anz:=af dH.out 0
            have anA:=af dH.out 1
            have anB:=af dH.out 2
            have anC:=af dH.out 3
            have anD:=af dH.out 4
            go_wp2_with (first|((with_reducible refine aK (f:=18) rfl ?_);refine bU (some 67) rfl rfl Tryz.func18 aq rfl #[.agg #[.bool nH,.slice lI jv.length kO,.string nQ,.string oc,.bool ot],.agg #[.bool oJ,.slice lW jR.length kV,.string pL,.string pY,.bool qd]] rfl cz ?_;(with_reducible refine (br.calls k2 nH _ _ jv nQ oc ot oJ _ _ jR pL pY qd true _ ?aT ?cw ?fO ?sW A35.out).mono ?_);(case aT=>refine (Kd.cP (e:=9) (base:=w.heap.size) (ok:=fun k_ =>(True∧some k_≠(.slice lW jR.length kV:Value).ownBlock)) (n:=jv.length) (c:=kO) ?_).2.2;exact tY);(case cw=>exact (Kd.cP nD.out).2.1);(case fO=>refine (Kd.cP (e:=9) (base:=w.heap.size) (ok:=fun k_ =>(True∧some k_≠(.slice lI jv.length kO:Value).ownBlock)) (n:=jR.length) (c:=kV) ?_).2.2;exact tZ);(case sW=>exact (Kd.cP oo.out).2.1);rintro e w47 ⟨rfl,hb⟩;refine ⟨_,rfl,?_⟩;replace nD:=aa.mk (Kd.ck tY hb);replace oo:=aa.mk (Kd.ck tZ hb);replace bY:=aa.mk (aC (g:=dY) (o:= .cells #[.bool eN,.slice iW dO.length iX,.string eo,.string eF,.bool eI] 32 (0,0)) EK hb);replace dw:=aa.mk (aC (g:=gB) (o:= .cells #[.bool nH,.slice lI jv.length kO,.string nQ,.string oc,.bool ot] 32 (0,0)) EL hb);replace dH:=aa.mk (aC (g:=gj) (o:= .cells #[.bool oJ,.slice lW jR.length kV,.string pL,.string pY,.bool qd] 32 (0,0)) EJ hb);replace HB:=aa.mk (aA kU hb);(try clear hb);(try clear hk))|(go_at_call 25;(with_reducible refine (jk.calls k2 a0 DF _ ?aT A39.out).mono ?_);(case aT=>exact aJ.below HG.out kU);rintro e w48 ⟨rfl,hb⟩;replace nD:=aa.mk (Kd.ck tG hb);replace oo:=aa.mk (Kd.ck uP hb);replace bY:=aa.mk (aC gW hb);replace dw:=aa.mk (aC ju hb);replace dH:=aa.mk (aC jG hb);replace HB:=aa.mk (aA kU hb);(try clear hb))|(go_at_call 26;(with_reducible refine (fK.calls k2 a0 DG _ ?aT A40.out).mono ?_);(case aT=>exact aJ.below HG.out kU);rintro e w49 ⟨rfl,hb⟩;replace nD:=aa.mk (Kd.ck tG hb);replace oo:=aa.mk (Kd.ck uP hb);replace bY:=aa.mk (aC gW hb);replace dw:=aa.mk (aC ju hb);replace dH:=aa.mk (aC jG hb);replace HB:=aa.mk (aA kU hb);(try clear hb)))
            go_meet
            case rel=>exact ⟨_,(true),b9,H',⟨rO⟩,⟨Al⟩,⟨Am⟩,⟨gW⟩,⟨ju⟩,⟨jG⟩,⟨kU⟩⟩
           ·rw [if_neg OY] at H
            have acL:(DF != DG)=false:=by simpa using OY
            (try (have acM:decide (DF=DG)=true:=by simpa using OY))
            (try (have Xv:(DF == DG)=true:=by simpa using OY))
            clear OY
            obtain ⟨aaW,A50,H⟩:=bd_ H
            obtain ⟨aaX,A51,H⟩:=bd_ H
            have H':=aa.mk H
            clear H
            have aun:=nr.out
            have auo:=ku.out
            have aup:=mA.out
            have auq:=sw.out
            have anE:pX.cell? ⟨gB,0,none⟩=some (.bool nH):=(ah dw.out 0).trans rfl
            have anF:pX.cell? ⟨gB,1,none⟩=some (.slice lI jv.length kO):=(ah dw.out 1).trans rfl
            have anG:pX.cell? ⟨gB,2,none⟩=some (.string nQ):=(ah dw.out 2).trans rfl
            have anH:pX.cell? ⟨gB,3,none⟩=some (.string oc):=(ah dw.out 3).trans rfl
            have anI:pX.cell? ⟨gB,4,none⟩=some (.bool ot):=(ah dw.out 4).trans rfl
            have anJ:=af dw.out 0
            have anK:=af dw.out 1
            have anL:=af dw.out 2
            have anM:=af dw.out 3
            have anN:=af dw.out 4
            have aur:=nu.out
            have aus:=kg.out
            have anO:pX.cell? ⟨gj,0,none⟩=some (.bool false):=(ah dH.out 0).trans rfl
            have anP:pX.cell? ⟨gj,1,none⟩=some (.slice none 0 0):=(ah dH.out 1).trans rfl
            have anQ:pX.cell? ⟨gj,2,none⟩=some (.string (⟨#[]⟩:ByteArray)):=(ah dH.out 2).trans rfl
            have anR:pX.cell? ⟨gj,3,none⟩=some (.string (⟨#[]⟩:ByteArray)):=(ah dH.out 3).trans rfl
            have anS:pX.cell? ⟨gj,4,none⟩=some (.bool false):=(ah dH.out 4).trans rfl
            have anT:=af dH.out 0
            have anU:=af dH.out 1
            have anV:=af dH.out 2
            have anW:=af dH.out 3
            have anX:=af dH.out 4
            go_wp2_with (first|((with_reducible refine aK (f:=18) rfl ?_);refine bU (some 67) rfl rfl Tryz.func18 aq rfl #[.agg #[.bool nH,.slice lI jv.length kO,.string nQ,.string oc,.bool ot],.agg #[.bool oJ,.slice lW jR.length kV,.string pL,.string pY,.bool qd]] rfl cz ?_;(with_reducible refine (br.calls k2 nH _ _ jv nQ oc ot oJ _ _ jR pL pY qd true _ ?aT ?cw ?fO ?sW A35.out).mono ?_);(case aT=>refine (Kd.cP (e:=9) (base:=w.heap.size) (ok:=fun k_ =>(True∧some k_≠(.slice lW jR.length kV:Value).ownBlock)) (n:=jv.length) (c:=kO) ?_).2.2;exact tY);(case cw=>exact (Kd.cP nD.out).2.1);(case fO=>refine (Kd.cP (e:=9) (base:=w.heap.size) (ok:=fun k_ =>(True∧some k_≠(.slice lI jv.length kO:Value).ownBlock)) (n:=jR.length) (c:=kV) ?_).2.2;exact tZ);(case sW=>exact (Kd.cP oo.out).2.1);rintro e w57 ⟨rfl,hb⟩;refine ⟨_,rfl,?_⟩;replace nD:=aa.mk (Kd.ck tY hb);replace oo:=aa.mk (Kd.ck tZ hb);replace bY:=aa.mk (aC (g:=dY) (o:= .cells #[.bool eN,.slice iW dO.length iX,.string eo,.string eF,.bool eI] 32 (0,0)) EK hb);replace dw:=aa.mk (aC (g:=gB) (o:= .cells #[.bool nH,.slice lI jv.length kO,.string nQ,.string oc,.bool ot] 32 (0,0)) EL hb);replace dH:=aa.mk (aC (g:=gj) (o:= .cells #[.bool oJ,.slice lW jR.length kV,.string pL,.string pY,.bool qd] 32 (0,0)) EJ hb);replace HB:=aa.mk (aA kU hb);(try clear hb);(try clear hk))|(go_at_call 25;(with_reducible refine (jk.calls k2 a0 DF _ ?aT A39.out).mono ?_);(case aT=>exact aJ.below HG.out kU);rintro e w58 ⟨rfl,hb⟩;replace nD:=aa.mk (Kd.ck tG hb);replace oo:=aa.mk (Kd.ck uP hb);replace bY:=aa.mk (aC gW hb);replace dw:=aa.mk (aC ju hb);replace dH:=aa.mk (aC jG hb);replace HB:=aa.mk (aA kU hb);(try clear hb))|(go_at_call 26;(with_reducible refine (fK.calls k2 a0 DG _ ?aT A40.out).mono ?_);(case aT=>exact aJ.below HG.out kU);rintro e w59 ⟨rfl,hb⟩;replace nD:=aa.mk (Kd.ck tG hb);replace oo:=aa.mk (Kd.ck uP hb);replace bY:=aa.mk (aC gW hb);replace dw:=aa.mk (aC ju hb);replace dH:=aa.mk (aC jG hb);replace HB:=aa.mk (aA kU hb);(try clear hb))|(go_at_call 27;(with_reducible refine (cI.calls k2 a0 aaW _ ?aT A50.out).mono ?_);(case aT=>exact aJ.below HG.out kU);rintro e w60 ⟨rfl,hb⟩;replace nD:=aa.mk (Kd.ck tG hb);replace oo:=aa.mk (Kd.ck uP hb);replace bY:=aa.mk (aC gW hb);replace dw:=aa.mk (aC ju hb);replace dH:=aa.mk (aC jG hb);replace HB:=aa.mk (aA kU hb);(try clear hb))|(go_at_call 28;(with_reducible refine (aU.calls k2 a0 aaX _ ?aT A51.out).mono ?_);(case aT=>exact aJ.below HG.out kU);rintro e w61 ⟨rfl,hb⟩;replace nD:=aa.mk (Kd.ck tG hb);replace oo:=aa.mk (Kd.ck uP hb);replace bY:=aa.mk (aC gW hb);replace dw:=aa.mk (aC ju hb);replace dH:=aa.mk (aC jG hb);replace HB:=aa.mk (aA kU hb);(try clear hb)))
            go_meet
            case rel=>exact ⟨_,((aaW != aaX)),b9,H',⟨rO⟩,⟨Al⟩,⟨Am⟩,⟨gW⟩,⟨ju⟩,⟨jG⟩,⟨kU⟩⟩
          ·rw [if_neg c38] at H
           have aiQ:=beq_eq_false_iff_ne.mpr c38
           have aiR:=bne_iff_ne.mpr c38
           have H':=aa.mk H
           clear H
           have af3:=nr.out
           have af4:=ku.out
           have aut:=mA.out
           have auu:=sw.out
           have anY:pX.cell? ⟨gB,0,none⟩=some (.bool nH):=(ah dw.out 0).trans rfl
           have anZ:pX.cell? ⟨gB,1,none⟩=some (.slice lI jv.length kO):=(ah dw.out 1).trans rfl
           have an0:pX.cell? ⟨gB,2,none⟩=some (.string nQ):=(ah dw.out 2).trans rfl
           have an1:pX.cell? ⟨gB,3,none⟩=some (.string oc):=(ah dw.out 3).trans rfl
           have an2:pX.cell? ⟨gB,4,none⟩=some (.bool ot):=(ah dw.out 4).trans rfl
           have an3:=af dw.out 0
           have an4:=af dw.out 1
           have an5:=af dw.out 2
           have an6:=af dw.out 3
           have an7:=af dw.out 4
           have auv:=nu.out
           have auw:=kg.out
           have an8:pX.cell? ⟨gj,0,none⟩=some (.bool false):=(ah dH.out 0).trans rfl
           have an9:pX.cell? ⟨gj,1,none⟩=some (.slice none 0 0):=(ah dH.out 1).trans rfl
           have aoa:pX.cell? ⟨gj,2,none⟩=some (.string (⟨#[]⟩:ByteArray)):=(ah dH.out 2).trans rfl
           have aob:pX.cell? ⟨gj,3,none⟩=some (.string (⟨#[]⟩:ByteArray)):=(ah dH.out 3).trans rfl
           have aoc:pX.cell? ⟨gj,4,none⟩=some (.bool false):=(ah dH.out 4).trans rfl
           have aod:=af dH.out 0
           have aoe:=af dH.out 1
           have aof:=af dH.out 2
           have aog:=af dH.out 3
           have aoh:=af dH.out 4
           go_wp2_with (first|((with_reducible refine aK (f:=18) rfl ?_);refine bU (some 67) rfl rfl Tryz.func18 aq rfl #[.agg #[.bool nH,.slice lI jv.length kO,.string nQ,.string oc,.bool ot],.agg #[.bool oJ,.slice lW jR.length kV,.string pL,.string pY,.bool qd]] rfl cz ?_;(with_reducible refine (br.calls k2 nH _ _ jv nQ oc ot oJ _ _ jR pL pY qd true _ ?aT ?cw ?fO ?sW A35.out).mono ?_);(case aT=>refine (Kd.cP (e:=9) (base:=w.heap.size) (ok:=fun k_ =>(True∧some k_≠(.slice lW jR.length kV:Value).ownBlock)) (n:=jv.length) (c:=kO) ?_).2.2;exact tY);(case cw=>exact (Kd.cP nD.out).2.1);(case fO=>refine (Kd.cP (e:=9) (base:=w.heap.size) (ok:=fun k_ =>(True∧some k_≠(.slice lI jv.length kO:Value).ownBlock)) (n:=jR.length) (c:=kV) ?_).2.2;exact tZ);(case sW=>exact (Kd.cP oo.out).2.1);rintro e w67 ⟨rfl,hb⟩;refine ⟨_,rfl,?_⟩;replace nD:=aa.mk (Kd.ck tY hb);replace oo:=aa.mk (Kd.ck tZ hb);replace bY:=aa.mk (aC (g:=dY) (o:= .cells #[.bool eN,.slice iW dO.length iX,.string eo,.string eF,.bool eI] 32 (0,0)) EK hb);replace dw:=aa.mk (aC (g:=gB) (o:= .cells #[.bool nH,.slice lI jv.length kO,.string nQ,.string oc,.bool ot] 32 (0,0)) EL hb);replace dH:=aa.mk (aC (g:=gj) (o:= .cells #[.bool oJ,.slice lW jR.length kV,.string pL,.string pY,.bool qd] 32 (0,0)) EJ hb);replace HB:=aa.mk (aA kU hb);(try clear hb);(try clear hk)))
           go_meet
           case rel=>exact ⟨_,(true),b9,H',⟨rO⟩,⟨Al⟩,⟨Am⟩,⟨gW⟩,⟨ju⟩,⟨jG⟩,⟨kU⟩⟩
         ·rw [if_neg c37] at H
          have CX:=beq_eq_false_iff_ne.mpr c37
          have Ra:=bne_iff_ne.mpr c37
          (first|rw [CX]|(simp only [cU,dh];rw [CX])|skip)
          have H':=aa.mk H
          clear H
          have auy:=nr.out
          have auz:=ku.out
          have auA:=mA.out
          have auB:=sw.out
          have aoi:pX.cell? ⟨gB,0,none⟩=some (.bool nH):=(ah dw.out 0).trans rfl
          have aoj:pX.cell? ⟨gB,1,none⟩=some (.slice lI jv.length kO):=(ah dw.out 1).trans rfl
          have aok:pX.cell? ⟨gB,2,none⟩=some (.string nQ):=(ah dw.out 2).trans rfl
          have aol:pX.cell? ⟨gB,3,none⟩=some (.string oc):=(ah dw.out 3).trans rfl
          have aom:pX.cell? ⟨gB,4,none⟩=some (.bool ot):=(ah dw.out 4).trans rfl
          have aon:=af dw.out 0
          have aoo:=af dw.out 1
          have aop:=af dw.out 2
          have aoq:=af dw.out 3
          have aor:=af dw.out 4
          have auC:=nu.out
          have auD:=kg.out
          have aos:pX.cell? ⟨gj,0,none⟩=some (.bool false):=(ah dH.out 0).trans rfl
          have aot:pX.cell? ⟨gj,1,none⟩=some (.slice none 0 0):=(ah dH.out 1).trans rfl
          have aou:pX.cell? ⟨gj,2,none⟩=some (.string (⟨#[]⟩:ByteArray)):=(ah dH.out 2).trans rfl
          have aov:pX.cell? ⟨gj,3,none⟩=some (.string (⟨#[]⟩:ByteArray)):=(ah dH.out 3).trans rfl
          have aow:pX.cell? ⟨gj,4,none⟩=some (.bool false):=(ah dH.out 4).trans rfl
          have aox:=af dH.out 0
          have aoy:=af dH.out 1
          have aoz:=af dH.out 2
          have aoA:=af dH.out 3
          have aoB:=af dH.out 4
          go_wp2_with (first|((with_reducible refine aK (f:=18) rfl ?_);refine bU (some 67) rfl rfl Tryz.func18 aq rfl #[.agg #[.bool nH,.slice lI jv.length kO,.string nQ,.string oc,.bool ot],.agg #[.bool oJ,.slice lW jR.length kV,.string pL,.string pY,.bool qd]] rfl cz ?_;(with_reducible refine (br.calls k2 nH _ _ jv nQ oc ot oJ _ _ jR pL pY qd true _ ?aT ?cw ?fO ?sW A35.out).mono ?_);(case aT=>refine (Kd.cP (e:=9) (base:=w.heap.size) (ok:=fun k_ =>(True∧some k_≠(.slice lW jR.length kV:Value).ownBlock)) (n:=jv.length) (c:=kO) ?_).2.2;exact tY);(case cw=>exact (Kd.cP nD.out).2.1);(case fO=>refine (Kd.cP (e:=9) (base:=w.heap.size) (ok:=fun k_ =>(True∧some k_≠(.slice lI jv.length kO:Value).ownBlock)) (n:=jR.length) (c:=kV) ?_).2.2;exact tZ);(case sW=>exact (Kd.cP oo.out).2.1);rintro e w73 ⟨rfl,hb⟩;refine ⟨_,rfl,?_⟩;replace nD:=aa.mk (Kd.ck tY hb);replace oo:=aa.mk (Kd.ck tZ hb);replace bY:=aa.mk (aC (g:=dY) (o:= .cells #[.bool eN,.slice iW dO.length iX,.string eo,.string eF,.bool eI] 32 (0,0)) EK hb);replace dw:=aa.mk (aC (g:=gB) (o:= .cells #[.bool nH,.slice lI jv.length kO,.string nQ,.string oc,.bool ot] 32 (0,0)) EL hb);replace dH:=aa.mk (aC (g:=gj) (o:= .cells #[.bool oJ,.slice lW jR.length kV,.string pL,.string pY,.bool qd] 32 (0,0)) EJ hb);replace HB:=aa.mk (aA kU hb);(try clear hb);(try clear hk)))
          go_meet
          case rel=>exact ⟨_,(true),b9,H',⟨rO⟩,⟨Al⟩,⟨Am⟩,⟨gW⟩,⟨ju⟩,⟨jG⟩,⟨kU⟩⟩
        ·replace zC:=Bool.eq_false_iff.mpr zC
         subst zC
         rw [if_neg (show ¬ (false=true) by decide)] at H
         have H':=aa.mk H
         clear H
         have ahg:=nr.out
         have ahh:=ku.out
         have ahi:=mA.out
         have ahj:=sw.out
         have aay:pX.cell? ⟨gB,0,none⟩=some (.bool nH):=(ah dw.out 0).trans rfl
         have aaz:pX.cell? ⟨gB,1,none⟩=some (.slice lI jv.length kO):=(ah dw.out 1).trans rfl
         have aaA:pX.cell? ⟨gB,2,none⟩=some (.string nQ):=(ah dw.out 2).trans rfl
         have aoC:pX.cell? ⟨gB,3,none⟩=some (.string oc):=(ah dw.out 3).trans rfl
         have aoD:pX.cell? ⟨gB,4,none⟩=some (.bool ot):=(ah dw.out 4).trans rfl
         have aaB:=af dw.out 0
         have aaC:=af dw.out 1
         have aaD:=af dw.out 2
         have aoE:=af dw.out 3
         have aoF:=af dw.out 4
         have ahk:=nu.out
         have ahl:=kg.out
         have aaE:pX.cell? ⟨gj,0,none⟩=some (.bool false):=(ah dH.out 0).trans rfl
         have aaF:pX.cell? ⟨gj,1,none⟩=some (.slice none 0 0):=(ah dH.out 1).trans rfl
         have aaG:pX.cell? ⟨gj,2,none⟩=some (.string (⟨#[]⟩:ByteArray)):=(ah dH.out 2).trans rfl
         have aaH:pX.cell? ⟨gj,3,none⟩=some (.string (⟨#[]⟩:ByteArray)):=(ah dH.out 3).trans rfl
         have aaI:pX.cell? ⟨gj,4,none⟩=some (.bool false):=(ah dH.out 4).trans rfl
         have aaJ:=af dH.out 0
         have aaK:=af dH.out 1
         have aaL:=af dH.out 2
         have aaM:=af dH.out 3
         have aaN:=af dH.out 4
         go_wp2_with (first|((with_reducible refine aK (f:=18) rfl ?_);refine bU (some 67) rfl rfl Tryz.func18 aq rfl #[.agg #[.bool nH,.slice lI jv.length kO,.string nQ,.string oc,.bool ot],.agg #[.bool oJ,.slice lW jR.length kV,.string pL,.string pY,.bool qd]] rfl cz ?_;(with_reducible refine (br.calls k2 nH _ _ jv nQ oc ot oJ _ _ jR pL pY qd false _ ?aT ?cw ?fO ?sW A35.out).mono ?_);(case aT=>refine (Kd.cP (e:=9) (base:=w.heap.size) (ok:=fun k_ =>(True∧some k_≠(.slice lW jR.length kV:Value).ownBlock)) (n:=jv.length) (c:=kO) ?_).2.2;exact tY);(case cw=>exact (Kd.cP nD.out).2.1);(case fO=>refine (Kd.cP (e:=9) (base:=w.heap.size) (ok:=fun k_ =>(True∧some k_≠(.slice lI jv.length kO:Value).ownBlock)) (n:=jR.length) (c:=kV) ?_).2.2;exact tZ);(case sW=>exact (Kd.cP oo.out).2.1);rintro e w79 ⟨rfl,hb⟩;refine ⟨_,rfl,?_⟩;replace nD:=aa.mk (Kd.ck tY hb);replace oo:=aa.mk (Kd.ck tZ hb);replace bY:=aa.mk (aC (g:=dY) (o:= .cells #[.bool eN,.slice iW dO.length iX,.string eo,.string eF,.bool eI] 32 (0,0)) EK hb);replace dw:=aa.mk (aC (g:=gB) (o:= .cells #[.bool nH,.slice lI jv.length kO,.string nQ,.string oc,.bool ot] 32 (0,0)) EL hb);replace dH:=aa.mk (aC (g:=gj) (o:= .cells #[.bool oJ,.slice lW jR.length kV,.string pL,.string pY,.bool qd] 32 (0,0)) EJ hb);replace HB:=aa.mk (aA kU hb);(try clear hb);(try clear hk)))
         go_meet
         case rel=>exact ⟨_,(true),b9,H',⟨rO⟩,⟨Al⟩,⟨Am⟩,⟨gW⟩,⟨ju⟩,⟨jG⟩,⟨kU⟩⟩
       case rest=>
        clear aeG
        obtain ⟨kq,KY,rfl,HA,afs,eG,eH,bY,dw,dH,HB⟩:=hcut
        cases kq with
        |zero=>exact absurd HA.out (by simp [aH.j2])
        |succ XB=>
         have H:=HA.out
         clear HA
         simp only [aH.j2] at H
         by_cases c80:KY=true
         ·subst c80
          rw [if_pos rfl] at H
          exact absurd H bw
         ·replace c80:=Bool.eq_false_iff.mpr c80
          subst c80
          rw [if_neg (show ¬ (false=true) by decide)] at H
          obtain ⟨⟨vF,wh,xj,aiS⟩,A81,H⟩:=bd_ H
          (try dsimp only at H)
          obtain ⟨⟨lT,lX,l9,aiT⟩,A82,H⟩:=bd_ H
          (try dsimp only at H)
          have aeI:=aa.mk H
          clear H
          go_upto_region 15 with (first|((with_reducible refine aK (f:=23) rfl ?_);refine bU (some 95) rfl rfl Tryz.func23 aq rfl #[.string a0] rfl cz ?_;(with_reducible refine (gI.calls XB a0 vF wh xj aiS _ ?aT A81.out).mono ?_);(case aT=>exact aJ.below HG.out kU);rintro e w84 ⟨rfl,hb⟩;refine ⟨_,rfl,?_⟩;replace eG:=aa.mk (Kd.ck mP hb);replace eH:=aa.mk (Kd.ck mQ hb);replace bY:=aa.mk (aC gW hb);replace dw:=aa.mk (aC ju hb);replace dH:=aa.mk (aC jG hb);replace HB:=aa.mk (aA kU hb);(try clear hb))|((with_reducible refine cB (N:=13) rfl ?_);(try (refine cL (by rfl) ?_;dsimp only));refine cj ?hg (N:=13) ?hd (cs:=#[.string (⟨#[]⟩:ByteArray),.string (⟨#[]⟩:ByteArray),.bool false]) (t:=30) ?hr ?_;(case hd=>rfl);(case hg=>rfl);(case hr=>first|(go_simp;done)|(go_simp;rfl));intro kB hg w85 cE hb;replace eG:=aa.mk (Kd.ck mP hb);replace eH:=aa.mk (Kd.ck mQ hb);have gK:=aa.mk (cE);have auE:=aa.mk ((Qd:w.heap.size≤kB));have UQ:=aa.mk ((Qd:w.heap.size≤kB));replace HB:=aa.mk (aA kU hb);have pG:=aa.mk ((DL:dY≠kB));have uD:=aa.mk ((DM:kB≠dY));replace bY:=aa.mk (aC gW hb);have yM:=aa.mk ((I3:gB≠kB));have TV:=aa.mk ((I4:kB≠gB));replace dw:=aa.mk (aC ju hb);have yN:=aa.mk ((Qx:gj≠kB));have TW:=aa.mk ((Qy:kB≠gj));replace dH:=aa.mk (aC jG hb);clear hb cE hg;have auF:=uD.out;have auG:=pG.out;have auH:=TV.out;have auI:=yM.out;have auJ:=TW.out;have auK:=yN.out;have aoG:w85.cell? ⟨kB,0,none⟩=some (.string (⟨#[]⟩:ByteArray)):=(ah gK.out 0).trans rfl;have aoH:w85.cell? ⟨kB,1,none⟩=some (.string (⟨#[]⟩:ByteArray)):=(ah gK.out 1).trans rfl;have aoI:w85.cell? ⟨kB,2,none⟩=some (.bool false):=(ah gK.out 2).trans rfl;have aoJ:=af gK.out 0;have aoK:=af gK.out 1;have aoL:=af gK.out 2)|((with_reducible refine aK (f:=29) rfl ?_);refine bU (some 100) rfl rfl Tryz.func29 aq rfl #[.string a0] rfl cz ?_;(with_reducible refine (fQ.calls XB a0 lT lX l9 aiT _ ?aT A82.out).mono ?_);(case aT=>exact aJ.below HG.out ND);rintro e w90 ⟨rfl,hb⟩;refine ⟨_,rfl,?_⟩;replace eG:=aa.mk (Kd.ck (by (with_reducible repeat (first|apply Kd.dQ|apply Kd.dR|apply Kd.dV));exact (Kd.fS (Kd.eB (p:=⟨kB,2,none⟩) (Kd.eB (p:=⟨kB,1,none⟩) (Kd.eB (p:=⟨kB,0,none⟩) (Kd.jW eG.out gK.out bh) (fun _ hk=>hk.2) (.string vF)) (fun _ hk=>hk.2) (.string wh)) (fun _ hk=>hk.2) (.bool xj)) (fun _ h_ =>h_.1))) hb);replace eH:=aa.mk (Kd.ck (by (with_reducible repeat (first|apply Kd.dQ|apply Kd.dR|apply Kd.dV));exact (Kd.fS (Kd.eB (p:=⟨kB,2,none⟩) (Kd.eB (p:=⟨kB,1,none⟩) (Kd.eB (p:=⟨kB,0,none⟩) (Kd.jW eH.out gK.out bh) (fun _ hk=>hk.2) (.string vF)) (fun _ hk=>hk.2) (.string wh)) (fun _ hk=>hk.2) (.bool xj)) (fun _ h_ =>h_.1))) hb);replace bY:=aa.mk (aC (g:=dY) (o:= .cells #[.bool eN,.slice iW dO.length iX,.string eo,.string eF,.bool eI] 32 (0,0)) (by (with_reducible repeat (first|refine ay ?_ _|refine az ?_|refine av ?_ _));refine cQ ?_ pG.out _;(with_reducible repeat (first|refine ay ?_ _|refine az ?_|refine av ?_ _));refine cQ ?_ pG.out _;(with_reducible repeat (first|refine ay ?_ _|refine az ?_|refine av ?_ _));refine cQ ?_ pG.out _;(with_reducible repeat (first|refine ay ?_ _|refine az ?_|refine av ?_ _));exact bY.out) hb);replace dw:=aa.mk (aC (g:=gB) (o:= .cells #[.bool nH,.slice lI jv.length kO,.string nQ,.string oc,.bool ot] 32 (0,0)) (by (with_reducible repeat (first|refine ay ?_ _|refine az ?_|refine av ?_ _));refine cQ ?_ yM.out _;(with_reducible repeat (first|refine ay ?_ _|refine az ?_|refine av ?_ _));refine cQ ?_ yM.out _;(with_reducible repeat (first|refine ay ?_ _|refine az ?_|refine av ?_ _));refine cQ ?_ yM.out _;(with_reducible repeat (first|refine ay ?_ _|refine az ?_|refine av ?_ _));exact dw.out) hb);replace dH:=aa.mk (aC (g:=gj) (o:= .cells #[.bool oJ,.slice lW jR.length kV,.string pL,.string pY,.bool qd] 32 (0,0)) (by (with_reducible repeat (first|refine ay ?_ _|refine az ?_|refine av ?_ _));refine cQ ?_ yN.out _;(with_reducible repeat (first|refine ay ?_ _|refine az ?_|refine av ?_ _));refine cQ ?_ yN.out _;(with_reducible repeat (first|refine ay ?_ _|refine az ?_|refine av ?_ _));refine cQ ?_ yN.out _;(with_reducible repeat (first|refine ay ?_ _|refine az ?_|refine av ?_ _));exact dH.out) hb);replace gK:=aa.mk (aC (g:=kB) (o:= .cells #[.string vF,.string wh,.bool xj] 30 (0,0)) (by (with_reducible repeat (first|refine ay ?_ _|refine az ?_|refine av ?_ _));refine bR (cs:=#[.string vF,.string wh,.bool false]) ?_ 2 _ rfl;(with_reducible repeat (first|refine ay ?_ _|refine az ?_|refine av ?_ _));refine bR (cs:=#[.string vF,.string (⟨#[]⟩:ByteArray),.bool false]) ?_ 1 _ rfl;(with_reducible repeat (first|refine ay ?_ _|refine az ?_|refine av ?_ _));refine bR (cs:=#[.string (⟨#[]⟩:ByteArray),.string (⟨#[]⟩:ByteArray),.bool false]) ?_ 0 _ rfl;(with_reducible repeat (first|refine ay ?_ _|refine az ?_|refine av ?_ _));exact gK.out) hb);replace HB:=aa.mk (aA ND hb);(try clear hb);(try clear hk))|((with_reducible refine cB (N:=14) rfl ?_);(try (refine cL (by rfl) ?_;dsimp only));refine cj ?hg (N:=14) ?hd (cs:=#[.string (⟨#[]⟩:ByteArray),.string (⟨#[]⟩:ByteArray),.bool false]) (t:=30) ?hr ?_;(case hd=>rfl);(case hg=>rfl);(case hr=>first|(go_simp;done)|(go_simp;rfl));intro dz hg zL cE hb;replace eG:=aa.mk (Kd.ck mP hb);replace eH:=aa.mk (Kd.ck mQ hb);have gX:=aa.mk (cE);have auL:=aa.mk ((Qc:w.heap.size≤dz));have afk:=aa.mk ((Qc:w.heap.size≤dz));replace HB:=aa.mk (aA ND hb);have oQ:=aa.mk ((DL:dY≠dz));have uE:=aa.mk ((DM:dz≠dY));replace bY:=aa.mk (aC gW hb);have xN:=aa.mk ((I3:gB≠dz));have TX:=aa.mk ((I4:dz≠gB));replace dw:=aa.mk (aC ju hb);have xO:=aa.mk ((Qx:gj≠dz));have TY:=aa.mk ((Qy:dz≠gj));replace dH:=aa.mk (aC jG hb);have xP:=aa.mk ((by rw [hg];exact Nat.ne_of_lt (iM mO):kB≠dz));have TZ:=aa.mk ((by rw [hg];exact Nat.ne_of_gt (iM mO):dz≠kB));replace gK:=aa.mk (aC mO hb);clear hb cE hg;have auM:=uE.out;have auN:=oQ.out;have aho:=TX.out;have ahp:=xN.out;have ahq:=TY.out;have ahr:=xO.out;have auO:=TZ.out;have auP:=xP.out;have aoM:zL.cell? ⟨dz,0,none⟩=some (.string (⟨#[]⟩:ByteArray)):=(ah gX.out 0).trans rfl;have aoN:zL.cell? ⟨dz,1,none⟩=some (.string (⟨#[]⟩:ByteArray)):=(ah gX.out 1).trans rfl;have aoO:zL.cell? ⟨dz,2,none⟩=some (.bool false):=(ah gX.out 2).trans rfl;have aoP:=af gX.out 0;have aoQ:=af gX.out 1;have aoR:=af gX.out 2))
          (try simp only [Act.put,List.setIfInBounds_toArray,List.set_cons_zero,List.set_cons_succ])
          go_cut [117] (fun v117 wc=>∃ (kq:Nat) (ED:Bool),v117= .bool ED∧aa (aH.j3 kq ED eN dO eo eF eI=some r)∧aa (kq≤XB)∧aa (Kd.R Kd.string 9 wc w.heap.size (fun k_ =>some k_≠((.slice lW jR.length kV):Value).ownBlock) (.slice lI jv.length kO) jv)∧aa (Kd.R Kd.string 9 wc w.heap.size (fun k_ =>some k_≠((.slice lI jv.length kO):Value).ownBlock) (.slice lW jR.length kV) jR)∧aa (wc.heap[dY]? =some (.cells #[.bool eN,(.slice iW dO.length iX),.string eo,.string eF,.bool eI] 32 (0,0)))∧aa (wc.heap[gB]? =some (.cells #[.bool nH,(.slice lI jv.length kO),.string nQ,.string oc,.bool ot] 32 (0,0)))∧aa (wc.heap[gj]? =some (.cells #[.bool oJ,(.slice lW jR.length kV),.string pL,.string pY,.bool qd] 32 (0,0)))∧aa (wc.heap[kB]? =some (.cells #[.string vF,.string wh,.bool xj] 30 (0,0)))∧aa (wc.heap[dz]? =some (.cells #[.string lT,.string lX,.bool l9] 30 (0,0)))∧aa (Below w.heap.size w wc))
          case first=>
           have H:=aeI.out
           clear aeI
           by_cases c97:(!(vF.toList == lT.toList) || (!(wh.toList == lX.toList) || (!(xj == l9))))=true
           ·rw [if_pos c97] at H
            have MJ:(!(vF.toList == lT.toList) || (!(wh.toList == lX.toList) || (!(xj == l9))))=true:=c97
            clear c97
            (first|rw [MJ]|(simp only [cU,dh];rw [MJ])|skip)
            have H':=aa.mk H
            clear H
            try go_wp2
            have lJ:aa (Kd.R Kd.string 9 (((zL.setCell ⟨dz,0,none⟩ (.string lT)).setCell ⟨dz,1,none⟩ (.string lX)).setCell ⟨dz,2,none⟩ (.bool l9)) w.heap.size (fun k_ =>some k_≠(.slice lW jR.length kV:Value).ownBlock) (.slice lI jv.length kO) jv):=⟨NF⟩
            have lK:aa (Kd.R Kd.string 9 (((zL.setCell ⟨dz,0,none⟩ (.string lT)).setCell ⟨dz,1,none⟩ (.string lX)).setCell ⟨dz,2,none⟩ (.bool l9)) w.heap.size (fun k_ =>some k_≠(.slice lI jv.length kO:Value).ownBlock) (.slice lW jR.length kV) jR):=⟨NG⟩
            have qb:aa ((((zL.setCell ⟨dz,0,none⟩ (.string lT)).setCell ⟨dz,1,none⟩ (.string lX)).setCell ⟨dz,2,none⟩ (.bool l9)).heap[dY]? =some (.cells #[.bool eN,.slice iW dO.length iX,.string eo,.string eF,.bool eI] 32 (0,0))):=⟨Nz⟩
            have sS:aa ((((zL.setCell ⟨dz,0,none⟩ (.string lT)).setCell ⟨dz,1,none⟩ (.string lX)).setCell ⟨dz,2,none⟩ (.bool l9)).heap[gB]? =some (.cells #[.bool nH,.slice lI jv.length kO,.string nQ,.string oc,.bool ot] 32 (0,0))):=⟨NA⟩
            have sU:aa ((((zL.setCell ⟨dz,0,none⟩ (.string lT)).setCell ⟨dz,1,none⟩ (.string lX)).setCell ⟨dz,2,none⟩ (.bool l9)).heap[gj]? =some (.cells #[.bool oJ,.slice lW jR.length kV,.string pL,.string pY,.bool qd] 32 (0,0))):=⟨NB⟩
            have C2:aa ((((zL.setCell ⟨dz,0,none⟩ (.string lT)).setCell ⟨dz,1,none⟩ (.string lX)).setCell ⟨dz,2,none⟩ (.bool l9)).heap[kB]? =some (.cells #[.string vF,.string wh,.bool xj] 30 (0,0))):=⟨NC⟩
            have C3:aa ((((zL.setCell ⟨dz,0,none⟩ (.string lT)).setCell ⟨dz,1,none⟩ (.string lX)).setCell ⟨dz,2,none⟩ (.bool l9)).heap[dz]? =some (.cells #[.string lT,.string lX,.bool l9] 30 (0,0))):=⟨Nv⟩
            have C4:aa (Below w.heap.size w (((zL.setCell ⟨dz,0,none⟩ (.string lT)).setCell ⟨dz,1,none⟩ (.string lX)).setCell ⟨dz,2,none⟩ (.bool l9))):=⟨kX⟩
            generalize (((zL.setCell ⟨dz,0,none⟩ (.string lT)).setCell ⟨dz,1,none⟩ (.string lX)).setCell ⟨dz,2,none⟩ (.bool l9))=w98 at lJ lK qb sS sU C2 C3 C4 ⊢
            have eG:=lJ
            have eH:=lK
            have bY:=qb
            have dw:=sS
            have dH:=sU
            have gK:=C2
            have gX:=C3
            have HB:=C4
            clear lJ lK qb sS sU C2 C3 C4
            have lJ:=aa.mk (Kd.dV eG.out)
            have lK:=aa.mk (Kd.dV eH.out)
            have qb:=aa.mk (az bY.out)
            have sS:=aa.mk (az dw.out)
            have sU:=aa.mk (az dH.out)
            have C2:=aa.mk (az gK.out)
            have C3:=aa.mk (az gX.out)
            have C4:=aa.mk (bf HB.out)
            clear eG
            clear eH
            clear bY
            clear dw
            clear dH
            clear gK
            clear gX
            clear HB
            have eG:=lJ
            have eH:=lK
            have bY:=qb
            have dw:=sS
            have dH:=sU
            have gK:=C2
            have gX:=C3
            have HB:=C4
            clear lJ lK qb sS sU C2 C3 C4
            refine rE (n:=15) (S:=fun w'=>w'.cell? ⟨kB,0,none⟩=some (.string vF)∧w'.cell? ⟨kB,1,none⟩=some (.string wh)∧w'.cell? ⟨kB,2,none⟩=some (.bool xj)∧w'.cell? ⟨dz,0,none⟩=some (.string lT)∧w'.cell? ⟨dz,1,none⟩=some (.string lX)∧w'.cell? ⟨dz,2,none⟩=some (.bool l9)) (ds:=[]) #[false,false,false,false,false,false,false,false,false,false,false,false,false,false,false] aq (by rfl) (by rfl) ⟨(ah gK.out 0).trans rfl,(ah gK.out 1).trans rfl,(ah gK.out 2).trans rfl,(ah gX.out 0).trans rfl,(ah gX.out 1).trans rfl,(ah gX.out 2).trans rfl⟩ (fun hHeld=>?_);refine nj aH.XA aH.O6 (fun iE zh=>?_)
            generalize w98.drew=SL at eG eH bY dw dH gK gX HB hHeld ⊢
            refine ke (i:=0) (N:=some 103) #[true,false,false,false,false,false,false,false,false,false,false,false,false,false,false] rfl rfl (iO iE.out zh.out aq) (fun _ _ _ h=>h) (Or.inl ⟨by rfl,tI⟩) hHeld dL ?_
            refine ke (i:=1) (N:=some 104) #[true,true,false,false,false,false,false,false,false,false,false,false,false,false,false] rfl rfl (iO iE.out zh.out aq) (fun _ _ _ h=>h) (Or.inl ⟨by rfl,tI⟩) hHeld dL ?_
            refine cO (i:=2) (N:=some 105) #[true,true,true,false,false,false,false,false,false,false,false,false,false,false,false] rfl rfl (cW iE.out aq) (fun _ _ _ h=>h) (Or.inl ⟨by rfl,dK⟩) dL ?_
            refine cO (i:=3) (N:=some 106) #[true,true,true,true,false,false,false,false,false,false,false,false,false,false,false] rfl rfl (cW iE.out aq) (fun _ _ _ h=>h) (Or.inl ⟨by rfl,dK⟩) dL ?_
            refine cO (i:=4) (N:=some 107) (v:=undef) (a':=?_) #[true,true,true,true,true,false,false,false,false,false,false,false,false,false,false] rfl rfl (cW iE.out aq) (fun _ _ _ h=>h) (Or.inr ⟨by rfl,rfl⟩) ?_ ?_
            rotate_left
            ·simp only [Act.put,List.setIfInBounds_toArray,List.set_cons_zero,List.set_cons_succ,cU,dh]
             rfl
            refine cO (i:=5) (N:=some 108) (v:=undef) (a':=?_) #[true,true,true,true,true,true,false,false,false,false,false,false,false,false,false] rfl rfl (cW iE.out aq) (fun _ _ _ h=>h) (Or.inr ⟨by rfl,rfl⟩) ?_ ?_
            rotate_left
            ·simp only [Act.put,List.setIfInBounds_toArray,List.set_cons_zero,List.set_cons_succ,cU,dh]
             rfl
            refine cO (i:=6) (N:=some 109) (v:=undef) (a':=?_) #[true,true,true,true,true,true,true,false,false,false,false,false,false,false,false] rfl rfl (cW iE.out aq) (fun _ _ _ h=>h) (Or.inr ⟨by rfl,rfl⟩) ?_ ?_
            rotate_left
            ·simp only [Act.put,List.setIfInBounds_toArray,List.set_cons_zero,List.set_cons_succ,cU,dh]
             rfl
            refine cO (i:=7) (N:=some 110) #[true,true,true,true,true,true,true,true,false,false,false,false,false,false,false] rfl rfl (cW iE.out aq) (fun _ _ _ h=>h) (Or.inl ⟨by rfl,dK⟩) dL ?_
            refine cO (i:=8) (N:=some 111) #[true,true,true,true,true,true,true,true,true,false,false,false,false,false,false] rfl rfl (cW iE.out aq) (fun _ _ _ h=>h) (Or.inl ⟨by rfl,dK⟩) dL ?_
            refine cO (i:=9) (N:=some 112) (v:=undef) (a':=?_) #[true,true,true,true,true,true,true,true,true,true,false,false,false,false,false] rfl rfl (cW iE.out aq) (fun _ _ _ h=>h) (Or.inr ⟨by rfl,rfl⟩) ?_ ?_
            rotate_left
            ·simp only [Act.put,List.setIfInBounds_toArray,List.set_cons_zero,List.set_cons_succ,cU,dh]
             rfl
            refine cO (i:=10) (N:=some 113) (v:=undef) (a':=?_) #[true,true,true,true,true,true,true,true,true,true,true,false,false,false,false] rfl rfl (cW iE.out aq) (fun _ _ _ h=>h) (Or.inr ⟨by rfl,rfl⟩) ?_ ?_
            rotate_left
            ·simp only [Act.put,List.setIfInBounds_toArray,List.set_cons_zero,List.set_cons_succ,cU,dh]
             rfl
            refine cO (i:=11) (N:=some 114) (v:=undef) (a':=?_) #[true,true,true,true,true,true,true,true,true,true,true,true,false,false,false] rfl rfl (cW iE.out aq) (fun _ _ _ h=>h) (Or.inr ⟨by rfl,rfl⟩) ?_ ?_
            rotate_left
            ·simp only [Act.put,List.setIfInBounds_toArray,List.set_cons_zero,List.set_cons_succ,cU,dh]
             rfl
            refine cO (i:=12) (N:=some 115) (v:=undef) (a':=?_) #[true,true,true,true,true,true,true,true,true,true,true,true,true,false,false] rfl rfl (cW iE.out aq) (fun _ _ _ h=>h) (Or.inr ⟨by rfl,rfl⟩) ?_ ?_
            rotate_left
            ·simp only [Act.put,List.setIfInBounds_toArray,List.set_cons_zero,List.set_cons_succ,cU,dh]
             rfl
            refine cO (i:=13) (N:=some 116) (v:=undef) (a':=?_) #[true,true,true,true,true,true,true,true,true,true,true,true,true,true,false] rfl rfl (cW iE.out aq) (fun _ _ _ h=>h) (Or.inr ⟨by rfl,rfl⟩) ?_ ?_
            rotate_left
            ·simp only [Act.put,List.setIfInBounds_toArray,List.set_cons_zero,List.set_cons_succ,cU,dh]
             rfl
            refine cO (i:=14) (N:=some 117) #[true,true,true,true,true,true,true,true,true,true,true,true,true,true,true] rfl rfl (cW iE.out aq) (fun _ _ _ h=>h) (Or.inl ⟨by rfl,dK⟩) dL ?_
            refine vU (qC iE.out aq) ?_
            try go_wp2
            go_meet
            case rel=>exact ⟨_,(true),b9,H',⟨Jb⟩,⟨mP⟩,⟨mQ⟩,⟨gW⟩,⟨ju⟩,⟨jG⟩,⟨mO⟩,⟨oa⟩,⟨kX⟩⟩
           ·rw [if_neg c97] at H
            have MJ:(!(vF.toList == lT.toList) || (!(wh.toList == lX.toList) || (!(xj == l9))))=false:=by simpa using c97
            clear c97
            (first|rw [MJ]|(simp only [cU,dh];rw [MJ])|skip)
            by_cases O9:aiS=aiT
            ·rw [if_pos O9] at H
             have aeJ:=beq_iff_eq.mpr O9
             have aeK:=bne_eq_false_iff_eq.mpr O9
             clear O9
             obtain ⟨aaY,aqJ,H⟩:=bd_ H
             obtain ⟨aaZ,aqK,H⟩:=bd_ H
             have H':=aa.mk H
             clear H
             try go_wp2
             have lJ:aa (Kd.R Kd.string 9 (((zL.setCell ⟨dz,0,none⟩ (.string lT)).setCell ⟨dz,1,none⟩ (.string lX)).setCell ⟨dz,2,none⟩ (.bool l9)) w.heap.size (fun k_ =>some k_≠(.slice lW jR.length kV:Value).ownBlock) (.slice lI jv.length kO) jv):=⟨NF⟩
             have lK:aa (Kd.R Kd.string 9 (((zL.setCell ⟨dz,0,none⟩ (.string lT)).setCell ⟨dz,1,none⟩ (.string lX)).setCell ⟨dz,2,none⟩ (.bool l9)) w.heap.size (fun k_ =>some k_≠(.slice lI jv.length kO:Value).ownBlock) (.slice lW jR.length kV) jR):=⟨NG⟩
             have qb:aa ((((zL.setCell ⟨dz,0,none⟩ (.string lT)).setCell ⟨dz,1,none⟩ (.string lX)).setCell ⟨dz,2,none⟩ (.bool l9)).heap[dY]? =some (.cells #[.bool eN,.slice iW dO.length iX,.string eo,.string eF,.bool eI] 32 (0,0))):=⟨Nz⟩
             have sS:aa ((((zL.setCell ⟨dz,0,none⟩ (.string lT)).setCell ⟨dz,1,none⟩ (.string lX)).setCell ⟨dz,2,none⟩ (.bool l9)).heap[gB]? =some (.cells #[.bool nH,.slice lI jv.length kO,.string nQ,.string oc,.bool ot] 32 (0,0))):=⟨NA⟩
             have sU:aa ((((zL.setCell ⟨dz,0,none⟩ (.string lT)).setCell ⟨dz,1,none⟩ (.string lX)).setCell ⟨dz,2,none⟩ (.bool l9)).heap[gj]? =some (.cells #[.bool oJ,.slice lW jR.length kV,.string pL,.string pY,.bool qd] 32 (0,0))):=⟨NB⟩
             have C2:aa ((((zL.setCell ⟨dz,0,none⟩ (.string lT)).setCell ⟨dz,1,none⟩ (.string lX)).setCell ⟨dz,2,none⟩ (.bool l9)).heap[kB]? =some (.cells #[.string vF,.string wh,.bool xj] 30 (0,0))):=⟨NC⟩
             have C3:aa ((((zL.setCell ⟨dz,0,none⟩ (.string lT)).setCell ⟨dz,1,none⟩ (.string lX)).setCell ⟨dz,2,none⟩ (.bool l9)).heap[dz]? =some (.cells #[.string lT,.string lX,.bool l9] 30 (0,0))):=⟨Nv⟩
             have C4:aa (Below w.heap.size w (((zL.setCell ⟨dz,0,none⟩ (.string lT)).setCell ⟨dz,1,none⟩ (.string lX)).setCell ⟨dz,2,none⟩ (.bool l9))):=⟨kX⟩
             generalize (((zL.setCell ⟨dz,0,none⟩ (.string lT)).setCell ⟨dz,1,none⟩ (.string lX)).setCell ⟨dz,2,none⟩ (.bool l9))=ahS at lJ lK qb sS sU C2 C3 C4 ⊢
             have eG:=lJ
             have eH:=lK
             have bY:=qb
             have dw:=sS
             have dH:=sU
             have gK:=C2
             have gX:=C3
             have HB:=C4
             clear lJ lK qb sS sU C2 C3 C4
             have lJ:=aa.mk (Kd.dV eG.out)
             have lK:=aa.mk (Kd.dV eH.out)
             have qb:=aa.mk (az bY.out)
             have sS:=aa.mk (az dw.out)
             have sU:=aa.mk (az dH.out)
             have C2:=aa.mk (az gK.out)
             have C3:=aa.mk (az gX.out)
             have C4:=aa.mk (bf HB.out)
             clear eG
             clear eH
             clear bY
             clear dw
             clear dH
             clear gK
             clear gX
             clear HB
             have eG:=lJ
             have eH:=lK
             have bY:=qb
             have dw:=sS
             have dH:=sU
             have gK:=C2
             have gX:=C3
             have HB:=C4
             clear lJ lK qb sS sU C2 C3 C4
             refine rE (n:=15) (S:=fun w'=>w'.cell? ⟨kB,0,none⟩=some (.string vF)∧w'.cell? ⟨kB,1,none⟩=some (.string wh)∧w'.cell? ⟨kB,2,none⟩=some (.bool xj)∧w'.cell? ⟨dz,0,none⟩=some (.string lT)∧w'.cell? ⟨dz,1,none⟩=some (.string lX)∧w'.cell? ⟨dz,2,none⟩=some (.bool l9)∧w'.cell? ⟨dY,0,none⟩=some (.bool eN)∧w'.cell? ⟨dY,1,none⟩=some (.slice iW dO.length iX)∧w'.cell? ⟨dY,2,none⟩=some (.string eo)∧w'.cell? ⟨dY,3,none⟩=some (.string eF)∧w'.cell? ⟨dY,4,none⟩=some (.bool eI)) (ds:=[]) #[false,false,false,false,false,false,false,false,false,false,false,false,false,false,false] aq (by rfl) (by rfl) ⟨(ah gK.out 0).trans rfl,(ah gK.out 1).trans rfl,(ah gK.out 2).trans rfl,(ah gX.out 0).trans rfl,(ah gX.out 1).trans rfl,(ah gX.out 2).trans rfl,(ah bY.out 0).trans rfl,(ah bY.out 1).trans rfl,(ah bY.out 2).trans rfl,(ah bY.out 3).trans rfl,(ah bY.out 4).trans rfl⟩ (fun hHeld=>?_);refine nj aH.XA aH.O6 (fun iE zh=>?_)
             generalize ahS.drew=KO at eG eH bY dw dH gK gX HB hHeld ⊢
             refine ke (i:=0) (N:=some 103) #[true,false,false,false,false,false,false,false,false,false,false,false,false,false,false] rfl rfl (iO iE.out zh.out aq) (fun _ _ _ h=>h) (Or.inl ⟨by rfl,DX⟩) hHeld dL ?_
             refine ke (i:=1) (N:=some 104) #[true,true,false,false,false,false,false,false,false,false,false,false,false,false,false] rfl rfl (iO iE.out zh.out aq) (fun _ _ _ h=>h) (Or.inl ⟨by rfl,DX⟩) hHeld dL ?_
             refine cO (i:=2) (N:=some 105) #[true,true,true,false,false,false,false,false,false,false,false,false,false,false,false] rfl rfl (cW iE.out aq) (fun _ _ _ h=>h) (Or.inl ⟨by rfl,dK⟩) dL ?_
             refine cO (i:=3) (N:=some 106) #[true,true,true,true,false,false,false,false,false,false,false,false,false,false,false] rfl rfl (cW iE.out aq) (fun _ _ _ h=>h) (Or.inl ⟨by rfl,dK⟩) dL ?_
             refine cO (i:=4) (N:=some 107) #[true,true,true,true,true,false,false,false,false,false,false,false,false,false,false] rfl rfl (cW iE.out aq) (fun _ _ _ h=>h) (Or.inl ⟨by rfl,dK⟩) dL ?_
             refine cO (i:=5) (N:=some 108) #[true,true,true,true,true,true,false,false,false,false,false,false,false,false,false] rfl rfl (cW iE.out aq) (fun _ _ _ h=>h) (Or.inl ⟨by rfl,dK⟩) dL ?_
             refine cO (i:=6) (N:=some 109) #[true,true,true,true,true,true,true,false,false,false,false,false,false,false,false] rfl rfl (cW iE.out aq) (fun _ _ _ h=>h) (Or.inl ⟨by rfl,dK⟩) dL ?_
             refine cO (i:=7) (N:=some 110) #[true,true,true,true,true,true,true,true,false,false,false,false,false,false,false] rfl rfl (cW iE.out aq) (fun _ _ _ h=>h) (Or.inl ⟨by rfl,dK⟩) dL ?_
             refine cO (i:=8) (N:=some 111) #[true,true,true,true,true,true,true,true,true,false,false,false,false,false,false] rfl rfl (cW iE.out aq) (fun _ _ _ h=>h) (Or.inl ⟨by rfl,dK⟩) dL ?_
             refine ke (i:=9) (N:=some 112) #[true,true,true,true,true,true,true,true,true,true,false,false,false,false,false] rfl rfl (iO iE.out zh.out aq) (fun _ _ _ h=>h) (Or.inl ⟨by rfl,DX⟩) hHeld dL ?_
             refine ke (i:=11) (N:=some 114) #[true,true,true,true,true,true,true,true,true,true,false,true,false,false,false] rfl rfl (iO iE.out zh.out aq) (fun _ _ _ h=>h) (Or.inl ⟨by rfl,DX⟩) hHeld dL ?_
             refine zx (i:=10) (N:=some 113) #[true,true,true,true,true,true,true,true,true,true,true,true,false,false,false] rfl rfl (nA iE.out aq) bh (fun K hK=>?_)
             refine vV Tryz.func20 aq rfl #[.agg #[.bool eN,.slice iW dO.length iX,.string eo,.string eF,.bool eI]] (by rfl) rfl rfl cz ?_
             with_reducible refine (gq.calls XB eN _ _ dO eo eF eI aaY _ ?aT ?cw ?fO aqJ.out).mono ?_
             (case aT=>repeat (first|exact (Kd.jK tM.out HB.out)|(with_reducible refine Kd.jg ?_ _)|(with_reducible refine Kd.jh ?_ _)|(with_reducible refine Kd.kL ?_)))
             (case cw=>exact CY.out)
             (case fO=>exact aJ.below HG.out kX)
             rintro e awH ⟨rfl,hb⟩
             refine ⟨_,rfl,?_⟩
             have lJ:=aa.mk (Kd.ck mP hb)
             have lK:=aa.mk (Kd.ck mQ hb)
             have qb:=aa.mk (aC (g:=dY) (o:= .cells #[.bool eN,.slice iW dO.length iX,.string eo,.string eF,.bool eI] 32 (0,0)) gW hb)
             have sS:=aa.mk (aC (g:=gB) (o:= .cells #[.bool nH,.slice lI jv.length kO,.string nQ,.string oc,.bool ot] 32 (0,0)) ju hb)
             have sU:=aa.mk (aC (g:=gj) (o:= .cells #[.bool oJ,.slice lW jR.length kV,.string pL,.string pY,.bool qd] 32 (0,0)) jG hb)
             have C2:=aa.mk (aC (g:=kB) (o:= .cells #[.string vF,.string wh,.bool xj] 30 (0,0)) mO hb)
             have C3:=aa.mk (aC (g:=dz) (o:= .cells #[.string lT,.string lX,.bool l9] 30 (0,0)) oa hb)
             have C4:=aa.mk (aA kX hb)
             clear eG
             clear eH
             clear bY
             clear dw
             clear dH
             clear gK
             clear gX
             clear HB
             have eG:=lJ
             have eH:=lK
             have bY:=qb
             have dw:=sS
             have dH:=sU
             have gK:=C2
             have gX:=C3
             have HB:=C4
             clear lJ lK qb sS sU C2 C3 C4
             refine hK.out _ _ ⟨(ah gK.out 0).trans rfl,(ah gK.out 1).trans rfl,(ah gK.out 2).trans rfl,(ah gX.out 0).trans rfl,(ah gX.out 1).trans rfl,(ah gX.out 2).trans rfl,(ah bY.out 0).trans rfl,(ah bY.out 1).trans rfl,(ah bY.out 2).trans rfl,(ah bY.out 3).trans rfl,(ah bY.out 4).trans rfl⟩ (fun hHeld=>?_)
             clear hK K
             refine rL (a':=?_) ?_ ?_
             rotate_left
             ·show Act.put _ (some 113) _=_
              simp only [Act.put,List.setIfInBounds_toArray,List.set_cons_zero,List.set_cons_succ,cU,dh]
              rfl
             refine zx (i:=12) (N:=some 115) #[true,true,true,true,true,true,true,true,true,true,true,true,true,false,false] rfl rfl (nA iE.out aq) bh (fun K hK=>?_)
             refine vV Tryz.func30 aq rfl #[.agg #[.bool eN,.slice iW dO.length iX,.string eo,.string eF,.bool eI]] (by rfl) rfl rfl cz ?_
             with_reducible refine (bP.calls XB eN _ _ dO eo eF eI aaZ _ ?aT ?cw ?fO aqK.out).mono ?_
             (case aT=>repeat (first|exact (Kd.jK tM.out HB.out)|(with_reducible refine Kd.jg ?_ _)|(with_reducible refine Kd.jh ?_ _)|(with_reducible refine Kd.kL ?_)))
             (case cw=>exact CY.out)
             (case fO=>exact aJ.below HG.out kX)
             rintro e awI ⟨rfl,hb⟩
             refine ⟨_,rfl,?_⟩
             have lJ:=aa.mk (Kd.ck mP hb)
             have lK:=aa.mk (Kd.ck mQ hb)
             have qb:=aa.mk (aC (g:=dY) (o:= .cells #[.bool eN,.slice iW dO.length iX,.string eo,.string eF,.bool eI] 32 (0,0)) gW hb)
             have sS:=aa.mk (aC (g:=gB) (o:= .cells #[.bool nH,.slice lI jv.length kO,.string nQ,.string oc,.bool ot] 32 (0,0)) ju hb)
             have sU:=aa.mk (aC (g:=gj) (o:= .cells #[.bool oJ,.slice lW jR.length kV,.string pL,.string pY,.bool qd] 32 (0,0)) jG hb)
             have C2:=aa.mk (aC (g:=kB) (o:= .cells #[.string vF,.string wh,.bool xj] 30 (0,0)) mO hb)
             have C3:=aa.mk (aC (g:=dz) (o:= .cells #[.string lT,.string lX,.bool l9] 30 (0,0)) oa hb)
             have C4:=aa.mk (aA kX hb)
             clear eG
             clear eH
             clear bY
             clear dw
             clear dH
             clear gK
             clear gX
             clear HB
             have eG:=lJ
             have eH:=lK
             have bY:=qb
             have dw:=sS
             have dH:=sU
             have gK:=C2
             have gX:=C3
             have HB:=C4
             clear lJ lK qb sS sU C2 C3 C4
             refine hK.out _ _ ⟨(ah gK.out 0).trans rfl,(ah gK.out 1).trans rfl,(ah gK.out 2).trans rfl,(ah gX.out 0).trans rfl,(ah gX.out 1).trans rfl,(ah gX.out 2).trans rfl,(ah bY.out 0).trans rfl,(ah bY.out 1).trans rfl,(ah bY.out 2).trans rfl,(ah bY.out 3).trans rfl,(ah bY.out 4).trans rfl⟩ (fun hHeld=>?_)
             clear hK K
             refine rL (a':=?_) ?_ ?_
             rotate_left
             ·show Act.put _ (some 115) _=_
              simp only [Act.put,List.setIfInBounds_toArray,List.set_cons_zero,List.set_cons_succ,cU,dh]
              rfl
             refine cO (i:=13) (N:=some 116) #[true,true,true,true,true,true,true,true,true,true,true,true,true,true,false] rfl rfl (cW iE.out aq) (fun _ _ _ h=>h) (Or.inl ⟨by rfl,dK⟩) dL ?_
             refine cO (i:=14) (N:=some 117) #[true,true,true,true,true,true,true,true,true,true,true,true,true,true,true] rfl rfl (cW iE.out aq) (fun _ _ _ h=>h) (Or.inl ⟨by rfl,dK⟩) dL ?_
             refine vU (qC iE.out aq) ?_
             try go_wp2
             go_meet
             case rel=>exact ⟨_,((aaY != aaZ)),b9,H',⟨Jb⟩,⟨mP⟩,⟨mQ⟩,⟨gW⟩,⟨ju⟩,⟨jG⟩,⟨mO⟩,⟨oa⟩,⟨kX⟩⟩
            ·rw [if_neg O9] at H
             have aeJ:=beq_eq_false_iff_ne.mpr O9
             have aeK:=bne_iff_ne.mpr O9
             have H':=aa.mk H
             clear H
             try go_wp2
             have lJ:aa (Kd.R Kd.string 9 (((zL.setCell ⟨dz,0,none⟩ (.string lT)).setCell ⟨dz,1,none⟩ (.string lX)).setCell ⟨dz,2,none⟩ (.bool l9)) w.heap.size (fun k_ =>some k_≠(.slice lW jR.length kV:Value).ownBlock) (.slice lI jv.length kO) jv):=⟨NF⟩
             have lK:aa (Kd.R Kd.string 9 (((zL.setCell ⟨dz,0,none⟩ (.string lT)).setCell ⟨dz,1,none⟩ (.string lX)).setCell ⟨dz,2,none⟩ (.bool l9)) w.heap.size (fun k_ =>some k_≠(.slice lI jv.length kO:Value).ownBlock) (.slice lW jR.length kV) jR):=⟨NG⟩
             have qb:aa ((((zL.setCell ⟨dz,0,none⟩ (.string lT)).setCell ⟨dz,1,none⟩ (.string lX)).setCell ⟨dz,2,none⟩ (.bool l9)).heap[dY]? =some (.cells #[.bool eN,.slice iW dO.length iX,.string eo,.string eF,.bool eI] 32 (0,0))):=⟨Nz⟩
             have sS:aa ((((zL.setCell ⟨dz,0,none⟩ (.string lT)).setCell ⟨dz,1,none⟩ (.string lX)).setCell ⟨dz,2,none⟩ (.bool l9)).heap[gB]? =some (.cells #[.bool nH,.slice lI jv.length kO,.string nQ,.string oc,.bool ot] 32 (0,0))):=⟨NA⟩
             have sU:aa ((((zL.setCell ⟨dz,0,none⟩ (.string lT)).setCell ⟨dz,1,none⟩ (.string lX)).setCell ⟨dz,2,none⟩ (.bool l9)).heap[gj]? =some (.cells #[.bool oJ,.slice lW jR.length kV,.string pL,.string pY,.bool qd] 32 (0,0))):=⟨NB⟩
             have C2:aa ((((zL.setCell ⟨dz,0,none⟩ (.string lT)).setCell ⟨dz,1,none⟩ (.string lX)).setCell ⟨dz,2,none⟩ (.bool l9)).heap[kB]? =some (.cells #[.string vF,.string wh,.bool xj] 30 (0,0))):=⟨NC⟩
             have C3:aa ((((zL.setCell ⟨dz,0,none⟩ (.string lT)).setCell ⟨dz,1,none⟩ (.string lX)).setCell ⟨dz,2,none⟩ (.bool l9)).heap[dz]? =some (.cells #[.string lT,.string lX,.bool l9] 30 (0,0))):=⟨Nv⟩
             have C4:aa (Below w.heap.size w (((zL.setCell ⟨dz,0,none⟩ (.string lT)).setCell ⟨dz,1,none⟩ (.string lX)).setCell ⟨dz,2,none⟩ (.bool l9))):=⟨kX⟩
             generalize (((zL.setCell ⟨dz,0,none⟩ (.string lT)).setCell ⟨dz,1,none⟩ (.string lX)).setCell ⟨dz,2,none⟩ (.bool l9))=aqL at lJ lK qb sS sU C2 C3 C4 ⊢
             have eG:=lJ
             have eH:=lK
             have bY:=qb
             have dw:=sS
             have dH:=sU
             have gK:=C2
             have gX:=C3
             have HB:=C4
             clear lJ lK qb sS sU C2 C3 C4
             have lJ:=aa.mk (Kd.dV eG.out)
             have lK:=aa.mk (Kd.dV eH.out)
             have qb:=aa.mk (az bY.out)
             have sS:=aa.mk (az dw.out)
             have sU:=aa.mk (az dH.out)
             have C2:=aa.mk (az gK.out)
             have C3:=aa.mk (az gX.out)
             have C4:=aa.mk (bf HB.out)
             clear eG
             clear eH
             clear bY
             clear dw
             clear dH
             clear gK
             clear gX
             clear HB
             have eG:=lJ
             have eH:=lK
             have bY:=qb
             have dw:=sS
             have dH:=sU
             have gK:=C2
             have gX:=C3
             have HB:=C4
             clear lJ lK qb sS sU C2 C3 C4
             refine rE (n:=15) (S:=fun w'=>w'.cell? ⟨kB,0,none⟩=some (.string vF)∧w'.cell? ⟨kB,1,none⟩=some (.string wh)∧w'.cell? ⟨kB,2,none⟩=some (.bool xj)∧w'.cell? ⟨dz,0,none⟩=some (.string lT)∧w'.cell? ⟨dz,1,none⟩=some (.string lX)∧w'.cell? ⟨dz,2,none⟩=some (.bool l9)) (ds:=[]) #[false,false,false,false,false,false,false,false,false,false,false,false,false,false,false] aq (by rfl) (by rfl) ⟨(ah gK.out 0).trans rfl,(ah gK.out 1).trans rfl,(ah gK.out 2).trans rfl,(ah gX.out 0).trans rfl,(ah gX.out 1).trans rfl,(ah gX.out 2).trans rfl⟩ (fun hHeld=>?_);refine nj aH.XA aH.O6 (fun iE zh=>?_)
             generalize aqL.drew=awJ at eG eH bY dw dH gK gX HB hHeld ⊢
             refine ke (i:=0) (N:=some 103) #[true,false,false,false,false,false,false,false,false,false,false,false,false,false,false] rfl rfl (iO iE.out zh.out aq) (fun _ _ _ h=>h) (Or.inl ⟨by rfl,tI⟩) hHeld dL ?_
             refine ke (i:=1) (N:=some 104) #[true,true,false,false,false,false,false,false,false,false,false,false,false,false,false] rfl rfl (iO iE.out zh.out aq) (fun _ _ _ h=>h) (Or.inl ⟨by rfl,tI⟩) hHeld dL ?_
             refine cO (i:=2) (N:=some 105) #[true,true,true,false,false,false,false,false,false,false,false,false,false,false,false] rfl rfl (cW iE.out aq) (fun _ _ _ h=>h) (Or.inl ⟨by rfl,dK⟩) dL ?_
             refine cO (i:=3) (N:=some 106) #[true,true,true,true,false,false,false,false,false,false,false,false,false,false,false] rfl rfl (cW iE.out aq) (fun _ _ _ h=>h) (Or.inl ⟨by rfl,dK⟩) dL ?_
             refine cO (i:=4) (N:=some 107) #[true,true,true,true,true,false,false,false,false,false,false,false,false,false,false] rfl rfl (cW iE.out aq) (fun _ _ _ h=>h) (Or.inl ⟨by rfl,dK⟩) dL ?_
             refine cO (i:=5) (N:=some 108) #[true,true,true,true,true,true,false,false,false,false,false,false,false,false,false] rfl rfl (cW iE.out aq) (fun _ _ _ h=>h) (Or.inl ⟨by rfl,dK⟩) dL ?_
             refine cO (i:=6) (N:=some 109) #[true,true,true,true,true,true,true,false,false,false,false,false,false,false,false] rfl rfl (cW iE.out aq) (fun _ _ _ h=>h) (Or.inl ⟨by rfl,dK⟩) dL ?_
             refine cO (i:=7) (N:=some 110) #[true,true,true,true,true,true,true,true,false,false,false,false,false,false,false] rfl rfl (cW iE.out aq) (fun _ _ _ h=>h) (Or.inl ⟨by rfl,dK⟩) dL ?_
             refine cO (i:=8) (N:=some 111) #[true,true,true,true,true,true,true,true,true,false,false,false,false,false,false] rfl rfl (cW iE.out aq) (fun _ _ _ h=>h) (Or.inl ⟨by rfl,dK⟩) dL ?_
             refine cO (i:=9) (N:=some 112) (v:=undef) (a':=?_) #[true,true,true,true,true,true,true,true,true,true,false,false,false,false,false] rfl rfl (cW iE.out aq) (fun _ _ _ h=>h) (Or.inr ⟨by rfl,rfl⟩) ?_ ?_
             rotate_left
             ·simp only [Act.put,List.setIfInBounds_toArray,List.set_cons_zero,List.set_cons_succ,cU,dh]
              rfl
             refine cO (i:=10) (N:=some 113) (v:=undef) (a':=?_) #[true,true,true,true,true,true,true,true,true,true,true,false,false,false,false] rfl rfl (cW iE.out aq) (fun _ _ _ h=>h) (Or.inr ⟨by rfl,rfl⟩) ?_ ?_
             rotate_left
             ·simp only [Act.put,List.setIfInBounds_toArray,List.set_cons_zero,List.set_cons_succ,cU,dh]
              rfl
             refine cO (i:=11) (N:=some 114) (v:=undef) (a':=?_) #[true,true,true,true,true,true,true,true,true,true,true,true,false,false,false] rfl rfl (cW iE.out aq) (fun _ _ _ h=>h) (Or.inr ⟨by rfl,rfl⟩) ?_ ?_
             rotate_left
             ·simp only [Act.put,List.setIfInBounds_toArray,List.set_cons_zero,List.set_cons_succ,cU,dh]
              rfl
             refine cO (i:=12) (N:=some 115) (v:=undef) (a':=?_) #[true,true,true,true,true,true,true,true,true,true,true,true,true,false,false] rfl rfl (cW iE.out aq) (fun _ _ _ h=>h) (Or.inr ⟨by rfl,rfl⟩) ?_ ?_
             rotate_left
             ·simp only [Act.put,List.setIfInBounds_toArray,List.set_cons_zero,List.set_cons_succ,cU,dh]
              rfl
             refine cO (i:=13) (N:=some 116) (v:=undef) (a':=?_) #[true,true,true,true,true,true,true,true,true,true,true,true,true,true,false] rfl rfl (cW iE.out aq) (fun _ _ _ h=>h) (Or.inr ⟨by rfl,rfl⟩) ?_ ?_
             rotate_left
             ·simp only [Act.put,List.setIfInBounds_toArray,List.set_cons_zero,List.set_cons_succ,cU,dh]
              rfl
             refine cO (i:=14) (N:=some 117) #[true,true,true,true,true,true,true,true,true,true,true,true,true,true,true] rfl rfl (cW iE.out aq) (fun _ _ _ h=>h) (Or.inl ⟨by rfl,dK⟩) dL ?_
             refine vU (qC iE.out aq) ?_
             try go_wp2
             go_meet
             case rel=>exact ⟨_,(true),b9,H',⟨Jb⟩,⟨mP⟩,⟨mQ⟩,⟨gW⟩,⟨ju⟩,⟨jG⟩,⟨mO⟩,⟨oa⟩,⟨kX⟩⟩
          case rest=>
           clear aeI
           obtain ⟨kq,ED,rfl,HA,aoV,eG,eH,bY,dw,dH,gK,gX,HB⟩:=hcut
           cases kq with
           |zero=>exact absurd HA.out (by simp [aH.j3])
           |succ aeL=>
            have H:=HA.out
            clear HA
            simp only [aH.j3] at H
            by_cases c109:ED=true
            ·subst c109
             rw [if_pos rfl] at H
             exact absurd H bw
            ·replace c109:=Bool.eq_false_iff.mpr c109
             subst c109
             rw [if_neg (show ¬ (false=true) by decide)] at H
             obtain ⟨⟨aiU,aiV⟩,aqM,H⟩:=bd_ H
             (try dsimp only at H)
             obtain ⟨⟨aiW,aiX⟩,aqN,H⟩:=bd_ H
             (try dsimp only at H)
             have XC:=aa.mk H
             clear H
             have aqO:=ku.out
             have aqP:=nr.out
             have aqQ:=kg.out
             have aqR:=nu.out
             have ael:=pG.out
             have aem:=uD.out
             have aen:=oQ.out
             have aeo:=uE.out
             have Xb:wc.cell? ⟨dY,0,none⟩=some (.bool eN):=(ah bY.out 0).trans rfl
             have Xc:wc.cell? ⟨dY,1,none⟩=some (.slice iW dO.length iX):=(ah bY.out 1).trans rfl
             have Xd:wc.cell? ⟨dY,2,none⟩=some (.string eo):=(ah bY.out 2).trans rfl
             have aiY:wc.cell? ⟨dY,3,none⟩=some (.string eF):=(ah bY.out 3).trans rfl
             have aiZ:wc.cell? ⟨dY,4,none⟩=some (.bool eI):=(ah bY.out 4).trans rfl
             have Xe:=af bY.out 0
             have Xf:=af bY.out 1
             have Xg:=af bY.out 2
             have ai0:=af bY.out 3
             have ai1:=af bY.out 4
             go_upto_region 19 with (first|((with_reducible refine aK (f:=21) rfl ?_);refine bU (some 120) rfl rfl Tryz.func21 aq rfl #[.agg #[.bool eN,.slice iW dO.length iX,.string eo,.string eF,.bool eI]] rfl cz ?_;(with_reducible refine (jM.calls aeL eN _ _ dO eo eF eI aiU aiV _ ?aT ?cw ?fO aqM.out).mono ?_);(case aT=>repeat (first|exact (Kd.jK tM.out HB.out)|(with_reducible refine Kd.jg ?_ _)|(with_reducible refine Kd.jh ?_ _)|(with_reducible refine Kd.kL ?_)));(case cw=>exact CY.out);(case fO=>exact aJ.below HG.out kX);rintro e XD ⟨rfl,hb⟩;refine ⟨_,rfl,?_⟩;replace eG:=aa.mk (Kd.ck mP hb);replace eH:=aa.mk (Kd.ck mQ hb);replace bY:=aa.mk (aC gW hb);replace dw:=aa.mk (aC ju hb);replace dH:=aa.mk (aC jG hb);replace gK:=aa.mk (aC mO hb);replace gX:=aa.mk (aC oa hb);replace HB:=aa.mk (aA kX hb);(try clear hb);have Xh:XD.cell? ⟨dY,0,none⟩=some (.bool eN):=(ah bY.out 0).trans rfl;have Xi:XD.cell? ⟨dY,1,none⟩=some (.slice iW dO.length iX):=(ah bY.out 1).trans rfl;have Xj:XD.cell? ⟨dY,2,none⟩=some (.string eo):=(ah bY.out 2).trans rfl;have Xk:XD.cell? ⟨dY,3,none⟩=some (.string eF):=(ah bY.out 3).trans rfl;have Xl:XD.cell? ⟨dY,4,none⟩=some (.bool eI):=(ah bY.out 4).trans rfl;have Xm:=af bY.out 0;have Xn:=af bY.out 1;have Xo:=af bY.out 2;have Xp:=af bY.out 3;have Xq:=af bY.out 4)|((with_reducible refine aK (f:=31) rfl ?_);refine bU (some 125) rfl rfl Tryz.func31 aq rfl #[.agg #[.bool eN,.slice iW dO.length iX,.string eo,.string eF,.bool eI]] rfl cz ?_;(with_reducible refine (gA.calls aeL eN _ _ dO eo eF eI aiW aiX _ ?aT ?cw ?fO aqN.out).mono ?_);(case aT=>repeat (first|exact (Kd.jK tM.out HB.out)|(with_reducible refine Kd.jg ?_ _)|(with_reducible refine Kd.jh ?_ _)|(with_reducible refine Kd.kL ?_)));(case cw=>exact CY.out);(case fO=>exact aJ.below HG.out kX);rintro e awK ⟨rfl,hb⟩;refine ⟨_,rfl,?_⟩;replace eG:=aa.mk (Kd.ck mP hb);replace eH:=aa.mk (Kd.ck mQ hb);replace bY:=aa.mk (aC gW hb);replace dw:=aa.mk (aC ju hb);replace dH:=aa.mk (aC jG hb);replace gK:=aa.mk (aC mO hb);replace gX:=aa.mk (aC oa hb);replace HB:=aa.mk (aA kX hb);(try clear hb)))
             (try simp only [Act.put,List.setIfInBounds_toArray,List.set_cons_zero,List.set_cons_succ])
             go_cut [135] (fun aqS wc=>∃ (kq:Nat) (Br:Bool),aqS= .bool Br∧aa (aH.j4 kq Br eN dO eo eF eI=some r)∧aa (kq≤aeL)∧aa (Kd.R Kd.string 9 wc w.heap.size (fun k_ =>some k_≠((.slice lW jR.length kV):Value).ownBlock) (.slice lI jv.length kO) jv)∧aa (Kd.R Kd.string 9 wc w.heap.size (fun k_ =>some k_≠((.slice lI jv.length kO):Value).ownBlock) (.slice lW jR.length kV) jR)∧aa (wc.heap[dY]? =some (.cells #[.bool eN,(.slice iW dO.length iX),.string eo,.string eF,.bool eI] 32 (0,0)))∧aa (wc.heap[gB]? =some (.cells #[.bool nH,(.slice lI jv.length kO),.string nQ,.string oc,.bool ot] 32 (0,0)))∧aa (wc.heap[gj]? =some (.cells #[.bool oJ,(.slice lW jR.length kV),.string pL,.string pY,.bool qd] 32 (0,0)))∧aa (wc.heap[kB]? =some (.cells #[.string vF,.string wh,.bool xj] 30 (0,0)))∧aa (wc.heap[dz]? =some (.cells #[.string lT,.string lX,.bool l9] 30 (0,0)))∧aa (Below w.heap.size w wc))
             case first=>
              have H:=XC.out
              clear XC
              by_cases Pb:aiU.toList=aiW.toList
              ·rw [if_pos Pb] at H
               have F5:=beq_iff_eq.mpr Pb
               have aeM:=bne_eq_false_iff_eq.mpr Pb
               clear Pb
               (first|rw [F5]|(simp only [cU,dh];rw [F5])|skip)
               have H':=aa.mk H
               clear H
               go_wp2
               go_meet
               case rel=>exact ⟨_,((aiV != aiX)),b9,H',⟨QG⟩,⟨mP⟩,⟨mQ⟩,⟨gW⟩,⟨ju⟩,⟨jG⟩,⟨mO⟩,⟨oa⟩,⟨kX⟩⟩
              ·rw [if_neg Pb] at H
               have F5:=beq_eq_false_iff_ne.mpr Pb
               have aeM:=bne_iff_ne.mpr Pb
               (first|rw [F5]|(simp only [cU,dh];rw [F5])|skip)
               have H':=aa.mk H
               clear H
               go_wp2
               go_meet
               case rel=>exact ⟨_,(true),b9,H',⟨QG⟩,⟨mP⟩,⟨mQ⟩,⟨gW⟩,⟨ju⟩,⟨jG⟩,⟨mO⟩,⟨oa⟩,⟨kX⟩⟩
             case rest=>
              clear XC
              obtain ⟨kq,Br,rfl,HA,auQ,eG,eH,bY,dw,dH,gK,gX,HB⟩:=hcut
              cases kq with
              |zero=>exact absurd HA.out (by simp [aH.j4])
              |succ F6=>
               have H:=HA.out
               clear HA
               simp only [aH.j4] at H
               by_cases aa0:Br=true
               ·subst aa0
                rw [if_pos rfl] at H
                exact absurd H bw
               ·replace aa0:=Bool.eq_false_iff.mpr aa0
                subst aa0
                rw [if_neg (show ¬ (false=true) by decide)] at H
                obtain ⟨⟨aa1,aa2⟩,aeN,H⟩:=bd_ H
                (try dsimp only at H)
                obtain ⟨⟨aa3,aa4⟩,aeO,H⟩:=bd_ H
                (try dsimp only at H)
                by_cases Pc:aa1.toList=aa3.toList
                ·rw [if_pos Pc] at H
                 have aeP:=beq_iff_eq.mpr Pc
                 have aeQ:=bne_eq_false_iff_eq.mpr Pc
                 clear Pc
                 by_cases Pd:aa2=aa4
                 ·rw [if_pos Pd] at H
                  have aeR:=beq_iff_eq.mpr Pd
                  have aeS:=bne_eq_false_iff_eq.mpr Pd
                  clear Pd
                  obtain ⟨aeE,aqT,H⟩:=bd_ H
                  obtain rfl:=Option.some.inj H
                  have aqU:=ku.out
                  have aqV:=nr.out
                  have aqW:=kg.out
                  have aqX:=nu.out
                  have aqY:=pG.out
                  have aqZ:=uD.out
                  have aq0:=oQ.out
                  have aq1:=uE.out
                  have ai2:wc.cell? ⟨dY,0,none⟩=some (.bool eN):=(ah bY.out 0).trans rfl
                  have ai3:wc.cell? ⟨dY,1,none⟩=some (.slice iW dO.length iX):=(ah bY.out 1).trans rfl
                  have ai4:wc.cell? ⟨dY,2,none⟩=some (.string eo):=(ah bY.out 2).trans rfl
                  have ai5:wc.cell? ⟨dY,3,none⟩=some (.string eF):=(ah bY.out 3).trans rfl
                  have ai6:wc.cell? ⟨dY,4,none⟩=some (.bool eI):=(ah bY.out 4).trans rfl
                  have ai7:=af bY.out 0
                  have ai8:=af bY.out 1
                  have ai9:=af bY.out 2
                  have aja:=af bY.out 3
                  have ajb:=af bY.out 4
                  go_wp2_with (first|((with_reducible refine aK (f:=22) rfl ?_);refine bU (some 139) rfl rfl Tryz.func22 aq rfl #[.agg #[.string eo,.string eF,.bool eI]] rfl cz ?_;(with_reducible refine (gP.calls F6 eo eF eI aa1 aa2 _ ?aT aeN.out).mono ?_);(case aT=>exact aJ.below HG.out kX);rintro e XE ⟨rfl,hb⟩;refine ⟨_,rfl,?_⟩;replace eG:=aa.mk (Kd.ck mP hb);replace eH:=aa.mk (Kd.ck mQ hb);replace bY:=aa.mk (aC gW hb);replace dw:=aa.mk (aC ju hb);replace dH:=aa.mk (aC jG hb);replace gK:=aa.mk (aC mO hb);replace gX:=aa.mk (aC oa hb);replace HB:=aa.mk (aA kX hb);(try clear hb);have ajc:XE.cell? ⟨dY,0,none⟩=some (.bool eN):=(ah bY.out 0).trans rfl;have ajd:XE.cell? ⟨dY,1,none⟩=some (.slice iW dO.length iX):=(ah bY.out 1).trans rfl;have aje:XE.cell? ⟨dY,2,none⟩=some (.string eo):=(ah bY.out 2).trans rfl;have ajf:XE.cell? ⟨dY,3,none⟩=some (.string eF):=(ah bY.out 3).trans rfl;have ajg:XE.cell? ⟨dY,4,none⟩=some (.bool eI):=(ah bY.out 4).trans rfl;have ajh:=af bY.out 0;have aji:=af bY.out 1;have ajj:=af bY.out 2;have ajk:=af bY.out 3;have ajl:=af bY.out 4)|((with_reducible refine aK (f:=32) rfl ?_);refine bU (some 145) rfl rfl Tryz.func32 aq rfl #[.agg #[.string eo,.string eF,.bool eI]] rfl cz ?_;(with_reducible refine (eO.calls F6 eo eF eI aa3 aa4 _ ?aT aeO.out).mono ?_);(case aT=>exact aJ.below HG.out kX);rintro e awL ⟨rfl,hb⟩;refine ⟨_,rfl,?_⟩;replace eG:=aa.mk (Kd.ck mP hb);replace eH:=aa.mk (Kd.ck mQ hb);replace bY:=aa.mk (aC gW hb);replace dw:=aa.mk (aC ju hb);replace dH:=aa.mk (aC jG hb);replace gK:=aa.mk (aC mO hb);replace gX:=aa.mk (aC oa hb);replace HB:=aa.mk (aA kX hb);(try clear hb))|(go_at_call 19;(with_reducible refine (cr.calls F6 aeE _ ?aT aqT.out).mono ?_);(case aT=>exact aJ.below HG.out kX);rintro e awM ⟨rfl,hb⟩;replace eG:=aa.mk (Kd.ck mP hb);replace eH:=aa.mk (Kd.ck mQ hb);replace bY:=aa.mk (aC gW hb);replace dw:=aa.mk (aC ju hb);replace dH:=aa.mk (aC jG hb);replace gK:=aa.mk (aC mO hb);replace gX:=aa.mk (aC oa hb);replace HB:=aa.mk (aA kX hb);(try clear hb)))
                  go_ret
                  exact ⟨cH,kX⟩
                 ·rw [if_neg Pd] at H
                  have aeR:=beq_eq_false_iff_ne.mpr Pd
                  have aeS:=bne_iff_ne.mpr Pd
                  obtain rfl:=Option.some.inj H
                  have aq2:=ku.out
                  have aq3:=nr.out
                  have aq4:=kg.out
                  have aq5:=nu.out
                  have aq6:=pG.out
                  have aq7:=uD.out
                  have aq8:=oQ.out
                  have aq9:=uE.out
                  have ajm:wc.cell? ⟨dY,0,none⟩=some (.bool eN):=(ah bY.out 0).trans rfl
                  have ajn:wc.cell? ⟨dY,1,none⟩=some (.slice iW dO.length iX):=(ah bY.out 1).trans rfl
                  have ajo:wc.cell? ⟨dY,2,none⟩=some (.string eo):=(ah bY.out 2).trans rfl
                  have ajp:wc.cell? ⟨dY,3,none⟩=some (.string eF):=(ah bY.out 3).trans rfl
                  have ajq:wc.cell? ⟨dY,4,none⟩=some (.bool eI):=(ah bY.out 4).trans rfl
                  have ajr:=af bY.out 0
                  have ajs:=af bY.out 1
                  have ajt:=af bY.out 2
                  have aju:=af bY.out 3
                  have ajv:=af bY.out 4
                  go_wp2_with (first|((with_reducible refine aK (f:=22) rfl ?_);refine bU (some 139) rfl rfl Tryz.func22 aq rfl #[.agg #[.string eo,.string eF,.bool eI]] rfl cz ?_;(with_reducible refine (gP.calls F6 eo eF eI aa1 aa2 _ ?aT aeN.out).mono ?_);(case aT=>exact aJ.below HG.out kX);rintro e XF ⟨rfl,hb⟩;refine ⟨_,rfl,?_⟩;replace eG:=aa.mk (Kd.ck mP hb);replace eH:=aa.mk (Kd.ck mQ hb);replace bY:=aa.mk (aC gW hb);replace dw:=aa.mk (aC ju hb);replace dH:=aa.mk (aC jG hb);replace gK:=aa.mk (aC mO hb);replace gX:=aa.mk (aC oa hb);replace HB:=aa.mk (aA kX hb);(try clear hb);have ajw:XF.cell? ⟨dY,0,none⟩=some (.bool eN):=(ah bY.out 0).trans rfl;have ajx:XF.cell? ⟨dY,1,none⟩=some (.slice iW dO.length iX):=(ah bY.out 1).trans rfl;have ajy:XF.cell? ⟨dY,2,none⟩=some (.string eo):=(ah bY.out 2).trans rfl;have ajz:XF.cell? ⟨dY,3,none⟩=some (.string eF):=(ah bY.out 3).trans rfl;have ajA:XF.cell? ⟨dY,4,none⟩=some (.bool eI):=(ah bY.out 4).trans rfl;have ajB:=af bY.out 0;have ajC:=af bY.out 1;have ajD:=af bY.out 2;have ajE:=af bY.out 3;have ajF:=af bY.out 4)|((with_reducible refine aK (f:=32) rfl ?_);refine bU (some 145) rfl rfl Tryz.func32 aq rfl #[.agg #[.string eo,.string eF,.bool eI]] rfl cz ?_;(with_reducible refine (eO.calls F6 eo eF eI aa3 aa4 _ ?aT aeO.out).mono ?_);(case aT=>exact aJ.below HG.out kX);rintro e awN ⟨rfl,hb⟩;refine ⟨_,rfl,?_⟩;replace eG:=aa.mk (Kd.ck mP hb);replace eH:=aa.mk (Kd.ck mQ hb);replace bY:=aa.mk (aC gW hb);replace dw:=aa.mk (aC ju hb);replace dH:=aa.mk (aC jG hb);replace gK:=aa.mk (aC mO hb);replace gX:=aa.mk (aC oa hb);replace HB:=aa.mk (aA kX hb);(try clear hb)))
                  go_ret
                  exact ⟨cH,kX⟩
                ·rw [if_neg Pc] at H
                 have aeP:=beq_eq_false_iff_ne.mpr Pc
                 have aeQ:=bne_iff_ne.mpr Pc
                 obtain rfl:=Option.some.inj H
                 have ara:=ku.out
                 have arb:=nr.out
                 have arc:=kg.out
                 have ard:=nu.out
                 have arf:=pG.out
                 have arh:=uD.out
                 have ari:=oQ.out
                 have arj:=uE.out
                 have ajG:wc.cell? ⟨dY,0,none⟩=some (.bool eN):=(ah bY.out 0).trans rfl
                 have ajH:wc.cell? ⟨dY,1,none⟩=some (.slice iW dO.length iX):=(ah bY.out 1).trans rfl
                 have ajI:wc.cell? ⟨dY,2,none⟩=some (.string eo):=(ah bY.out 2).trans rfl
                 have ajJ:wc.cell? ⟨dY,3,none⟩=some (.string eF):=(ah bY.out 3).trans rfl
                 have ajK:wc.cell? ⟨dY,4,none⟩=some (.bool eI):=(ah bY.out 4).trans rfl
                 have ajL:=af bY.out 0
                 have ajM:=af bY.out 1
                 have ajN:=af bY.out 2
                 have ajO:=af bY.out 3
                 have ajP:=af bY.out 4
                 go_wp2_with (first|((with_reducible refine aK (f:=22) rfl ?_);refine bU (some 139) rfl rfl Tryz.func22 aq rfl #[.agg #[.string eo,.string eF,.bool eI]] rfl cz ?_;(with_reducible refine (gP.calls F6 eo eF eI aa1 aa2 _ ?aT aeN.out).mono ?_);(case aT=>exact aJ.below HG.out kX);rintro e XG ⟨rfl,hb⟩;refine ⟨_,rfl,?_⟩;replace eG:=aa.mk (Kd.ck mP hb);replace eH:=aa.mk (Kd.ck mQ hb);replace bY:=aa.mk (aC gW hb);replace dw:=aa.mk (aC ju hb);replace dH:=aa.mk (aC jG hb);replace gK:=aa.mk (aC mO hb);replace gX:=aa.mk (aC oa hb);replace HB:=aa.mk (aA kX hb);(try clear hb);have ajQ:XG.cell? ⟨dY,0,none⟩=some (.bool eN):=(ah bY.out 0).trans rfl;have ajR:XG.cell? ⟨dY,1,none⟩=some (.slice iW dO.length iX):=(ah bY.out 1).trans rfl;have ajS:XG.cell? ⟨dY,2,none⟩=some (.string eo):=(ah bY.out 2).trans rfl;have ajT:XG.cell? ⟨dY,3,none⟩=some (.string eF):=(ah bY.out 3).trans rfl;have ajU:XG.cell? ⟨dY,4,none⟩=some (.bool eI):=(ah bY.out 4).trans rfl;have ajV:=af bY.out 0;have ajW:=af bY.out 1;have ajX:=af bY.out 2;have ajY:=af bY.out 3;have ajZ:=af bY.out 4)|((with_reducible refine aK (f:=32) rfl ?_);refine bU (some 145) rfl rfl Tryz.func32 aq rfl #[.agg #[.string eo,.string eF,.bool eI]] rfl cz ?_;(with_reducible refine (eO.calls F6 eo eF eI aa3 aa4 _ ?aT aeO.out).mono ?_);(case aT=>exact aJ.below HG.out kX);rintro e awO ⟨rfl,hb⟩;refine ⟨_,rfl,?_⟩;replace eG:=aa.mk (Kd.ck mP hb);replace eH:=aa.mk (Kd.ck mQ hb);replace bY:=aa.mk (aC gW hb);replace dw:=aa.mk (aC ju hb);replace dH:=aa.mk (aC jG hb);replace gK:=aa.mk (aC mO hb);replace gX:=aa.mk (aC oa hb);replace HB:=aa.mk (aA kX hb);(try clear hb)))
                 go_ret
                 exact ⟨cH,kX⟩
end Go.Proofs.YtokpnfljjjjikaaGreatDoor.mY
