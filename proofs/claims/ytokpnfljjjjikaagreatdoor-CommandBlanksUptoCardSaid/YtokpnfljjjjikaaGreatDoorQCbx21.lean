import Derived.Test.YtokpnfljjjjikaaGreatDoorQCbx17
import Derived.Test.YtokpnfljjjjikaaGreatDoorERepla
namespace Go.Proofs.YtokpnfljjjjikaaGreatDoor.nK
open Go.RowKit Go.Proofs.aj.bQ Go.Proofs.aj.fR Go.Proofs.aj.cM
attribute [local go_sem] iY iZ ku kA ig ij jc jd
set_option linter.unusedVariables false
set_option linter.unusedSimpArgs false
mutual
def aB.j0:Nat→ByteArray→Bool→Int→ByteArray→Bool→List ByteArray→ByteArray→ByteArray→Bool→List (gw)→Option (Bool)
 | 0,_,_,_,_,_,_,_,_,_,_ =>none
 |k + 1,x3,x16,pI,pJ,tD,tE,tF,tG,tH,tI=>if x16=true then ((bM.f k).bind fun Td=>(some Td)) else (if 1 + x3.size≤9223372036854775807 then ((bP.f k ((⟨#[32]⟩:ByteArray) ++ x3) 160).bind fun Te=>(if Te=true then ((strings_Contains.f x3 (⟨#[32]⟩:ByteArray)).bind fun Gq=>(if Gq=true then ((strings_Replace.f x3 (⟨#[32]⟩:ByteArray) (⟨#[9]⟩:ByteArray) 1).bind fun zB=>((bP.f k zB 160).bind fun xg=>(aB.j1 k x3 (!xg) pI pJ tD tE tF tG tH tI))) else (aB.j1 k x3 false pI pJ tD tE tF tG tH tI))) else (aB.j1 k x3 true pI pJ tD tE tF tG tH tI))) else (none))
def aB.j1:Nat→ByteArray→Bool→Int→ByteArray→Bool→List ByteArray→ByteArray→ByteArray→Bool→List (gw)→Option (Bool)
 | 0,_,_,_,_,_,_,_,_,_,_ =>none
 |k + 1,x3,x31,pI,pJ,tD,tE,tF,tG,tH,tI=>if x31=true then (none) else (if pI≥7 then (if pI≤10 then (aB.j2 k x3 (pJ.toList != ([]:List UInt8)) pI pJ tD tE tF tG tH tI) else (aB.j2 k x3 false pI pJ tD tE tF tG tH tI)) else (aB.j2 k x3 false pI pJ tD tE tF tG tH tI))
def aB.j2:Nat→ByteArray→Bool→Int→ByteArray→Bool→List ByteArray→ByteArray→ByteArray→Bool→List (gw)→Option (Bool)
 | 0,_,_,_,_,_,_,_,_,_,_ =>none
 |k + 1,x3,Yw,pI,pJ,tD,tE,tF,tG,tH,tI=>if Yw=true then (if x3.size + 1≤9223372036854775807 then (if pJ.size + 1≤9223372036854775807 then ((bg.f k (x3 ++ (⟨#[32]⟩:ByteArray)) pI (pJ ++ (⟨#[32]⟩:ByteArray)) false ([]:List ByteArray) (⟨#[]⟩:ByteArray) (⟨#[]⟩:ByteArray) false ([]:List (gw))).bind fun Tf=>(if Tf=true then ((bM.f k).bind fun Gr=>(some Gr)) else (some false))) else (none)) else (none)) else (if x3.size + 1≤9223372036854775807 then ((bP.f k (x3 ++ (⟨#[32]⟩:ByteArray)) 161).bind fun Tg=>(if Tg=true then ((bM.f k).bind fun Gs=>(some Gs)) else (some false))) else (none))
end
def aB.f (k:Nat) (aI:Int) (aZ:ByteArray) (bp:Bool) (bX:List ByteArray) (bC:ByteArray) (ck:ByteArray) (cm:Bool) (bO:List (gw)):Option (Bool):=(gH.f k aI aZ bp bX bC ck cm bO).bind fun Bt=>(if Bt.2=0 then (aB.j0 k Bt.1 (decide ((Bt.1.size:Int)≥510)) aI aZ bp bX bC ck cm bO) else (aB.j0 k Bt.1 true aI aZ bp bX bC ck cm bO))
set_option maxHeartbeats 8000000 in
set_option maxRecDepth 100000 in
theorem aB.calls (k:Nat) (aI:Int) (aZ:ByteArray) (bp:Bool) (dM:Option Addr) (dN:Nat) (bX:List ByteArray) (bC:ByteArray) (ck:ByteArray) (cm:Bool) (dR:Option Addr) (dO:Nat) (bO:List (gw)) (r:Bool) (w:World) (qF:Kd.C Kd.string w dM bX.length bX) (qG:bX.length≤dN) (qH:Kd.C zN w dR bO.length bO) (qI:bO.length≤dO) (hG:aQ w) (h:aB.f k aI aZ bp bX bC ck cm bO=some r):
 Calls Tryz.prog 10 #[.agg #[.int .u8 aI,.string aZ,.bool bp,.slice dM bX.length dN,.string bC,.string ck,.bool cm,.slice dR bO.length dO]] w fun e w'=>e= .returned (.bool r)∧Below w.heap.size w w':=by
 have LY:=Tryz.underlying35
 have mH:=ah.mk qF
 have mI:=ah.mk qG
 clear qF qG
 have n7:=ah.mk qH
 have qJ:=ah.mk qI
 clear qH qI
 have HB:=ah.mk (Below.refl w.heap.size w)
 have HG:=ah.mk hG
 clear hG
 have H:((gH.f k aI aZ bp bX bC ck cm bO).bind fun Bt=>(if Bt.2=0 then (aB.j0 k Bt.1 (decide ((Bt.1.size:Int)≥510)) aI aZ bp bX bC ck cm bO) else (aB.j0 k Bt.1 true aI aZ bp bX bC ck cm bO)))=some r:=h
 clear h
 replace H:=Option.bind_eq_some_iff.mp H
 obtain ⟨⟨iH,O1⟩,nr,H⟩:=H
 replace H:(if O1=0 then (aB.j0 k iH (decide ((iH.size:Int)≥510)) aI aZ bp bX bC ck cm bO) else (aB.j0 k iH true aI aZ bp bX bC ck cm bO))=some r:=H
 have A2:=ah.mk nr
 clear nr
 have Od:=ah.mk H
 clear H
 go_enter Tryz.func10,Tryz.ntmps10
 go_upto_region 2 with (first|((with_reducible refine cQ (N:=1) rfl ?_);(try (refine dS (by rfl) ?_;dsimp only));refine cE ?hg (N:=1) ?hd (cs:=#[.int .u8 aI,.string aZ,.bool bp,.slice dM bX.length dN,.string bC,.string ck,.bool cm,.slice dR bO.length dO]) (t:=35) ?hr ?_;(case hd=>rfl);(case hg=>rfl);(case hr=>first|(go_simp;done)|(go_simp;rfl));intro fK hg w4 cY hb;have bL:=ah.mk (aC cw hb);have bS:=ah.mk (cY);have cG:=ah.mk ((dQ:w.heap.size≤fK));have dA:=ah.mk ((dQ:w.heap.size≤fK));clear HB;have HB:=bL;have cV:=bS;have ak5:=cG;have acw:=dA;clear bL bS cG dA;clear hb cY hg;have wW:w4.cell? ⟨fK,0,none⟩=some (.int .u8 aI):=(af cV.out 0).trans rfl;have wX:w4.cell? ⟨fK,1,none⟩=some (.string aZ):=(af cV.out 1).trans rfl;have zy:w4.cell? ⟨fK,2,none⟩=some (.bool bp):=(af cV.out 2).trans rfl;have B0:w4.cell? ⟨fK,3,none⟩=some (.slice dM bX.length dN):=(af cV.out 3).trans rfl;have B6:w4.cell? ⟨fK,4,none⟩=some (.string bC):=(af cV.out 4).trans rfl;have O2:w4.cell? ⟨fK,5,none⟩=some (.string ck):=(af cV.out 5).trans rfl;have O3:w4.cell? ⟨fK,6,none⟩=some (.bool cm):=(af cV.out 6).trans rfl;have O4:w4.cell? ⟨fK,7,none⟩=some (.slice dR bO.length dO):=(af cV.out 7).trans rfl;have wY:=aa cV.out 0;have wZ:=aa cV.out 1;have zz:=aa cV.out 2;have Ca:=aa cV.out 3;have Cb:=aa cV.out 4;have O5:=aa cV.out 5;have O6:=aa cV.out 6;have O7:=aa cV.out 7)|((with_reducible refine aU (f:=33) rfl ?_);refine cB (some 7) rfl rfl Tryz.func33 av rfl #[.agg #[.int .u8 aI,.string aZ,.bool bp,.slice dM bX.length dN,.string bC,.string ck,.bool cm,.slice dR bO.length dO]] rfl cX ?_;(with_reducible refine (gH.calls k aI aZ bp _ _ bX bC ck cm _ _ bO iH O1 _ ?aW ?bY ?eO ?gP ?jN A2.out).mono ?_);(case aW=>repeat (first|exact (Kd.eF mH.out HB.out)|(with_reducible refine Kd.dZ ?_ _)|(with_reducible refine Kd.eo ?_ _)|(with_reducible refine Kd.eZ ?_)));(case bY=>exact mI.out);(case eO=>repeat (first|exact (Kd.eF n7.out HB.out)|(with_reducible refine Kd.dZ ?_ _)|(with_reducible refine Kd.eo ?_ _)|(with_reducible refine Kd.eZ ?_)));(case gP=>exact qJ.out);(case jN=>exact aQ.below HG.out iO);rintro e w6 ⟨rfl,hb⟩;refine ⟨_,rfl,?_⟩;have bL:=ah.mk (aX (g:=fK) (o:= .cells #[.int .u8 aI,.string aZ,.bool bp,.slice dM bX.length dN,.string bC,.string ck,.bool cm,.slice dR bO.length dO] 35 (0,0)) kV hb);have bS:=ah.mk (aC iO hb);clear cV;clear HB;have cV:=bL;have HB:=bS;clear bL bS;(try clear hb);(try clear hb2);(try clear hk);(try clear hi)))
 (try simp only [Act.put,List.setIfInBounds_toArray,List.set_cons_zero,List.set_cons_succ])
 go_cut [16] (fun v16 wc=>∃ (kq:Nat) (Sd:Bool),v16= .bool Sd∧ah (aB.j0 kq iH Sd aI aZ bp bX bC ck cm bO=some r)∧ah (kq≤k)∧ah (wc.heap[fK]? =some (.cells #[.int .u8 aI,.string aZ,.bool bp,(.slice dM bX.length dN),.string bC,.string ck,.bool cm,(.slice dR bO.length dO)] 35 (0,0)))∧ah (Below w.heap.size w wc))
 case first=>
  have H:=Od.out
  clear Od
  by_cases c7:O1=0
  ·rw [if_pos c7] at H
   have wU:(O1 == 0)=true:=beq_iff_eq.mpr c7
   have Gg:(O1 != 0)=false:=bne_eq_false_iff_eq.mpr c7
   clear c7
   (first|rw [wU]|(simp only [cR,cW];rw [wU])|skip)
   have H':=ah.mk H
   clear H
   go_wp2
   go_meet
   case rel=>exact ⟨_,(decide ((iH.size:Int)≥510)),dG,H',⟨mJ⟩,⟨kV⟩,⟨iO⟩⟩
  ·rw [if_neg c7] at H
   have wU:(O1 == 0)=false:=beq_eq_false_iff_ne.mpr c7
   have Gg:(O1 != 0)=true:=bne_iff_ne.mpr c7
   (first|rw [wU]|(simp only [cR,cW];rw [wU])|skip)
   have H':=ah.mk H
   clear H
   go_wp2
   go_meet
   case rel=>exact ⟨_,(true),dG,H',⟨mJ⟩,⟨kV⟩,⟨iO⟩⟩
 case rest=>
  clear Od
  try clear c1
  try clear p2
  try clear c3
  try clear c7
  try clear wU
  try clear Gg
  try clear wW
  try clear wX
  try clear zy
  try clear B0
  try clear B6
  try clear O2
  try clear O3
  try clear O4
  try clear wY
  try clear wZ
  try clear zz
  try clear Ca
  try clear Cb
  try clear O5
  try clear O6
  try clear O7
  obtain ⟨kq,Sd,rfl,HA,WO,cV,HB⟩:=hcut
  cases kq with
  |zero=>exact absurd HA.out (by simp [aB.j0])
  |succ qb=>
   have H:=HA.out
   clear HA
   simp only [aB.j0] at H
   by_cases c8:Sd=true
   ·subst c8
    have H1:((bM.f qb).bind fun Td=>(some Td))=some r:=by rw [if_pos rfl] at H;exact H
    clear H
    have H:=H1
    clear H1
    replace H:=Option.bind_eq_some_iff.mp H
    obtain ⟨Td,A90,H⟩:=H
    replace H:(some Td)=some r:=H
    have A9:=ah.mk A90
    clear A90
    obtain rfl:=Option.some.inj H
    go_wp2_with (first|((with_reducible refine aU (f:=15) rfl ?_);refine cB (some 17) rfl rfl Tryz.func15 av rfl #[] rfl cX ?_;(with_reducible refine (bM.calls qb Td _ ?aW A9.out).mono ?_);(case aW=>exact aQ.below HG.out iO);rintro e sw ⟨rfl,hb⟩;refine ⟨_,rfl,?_⟩;have bL:=ah.mk (aX (g:=fK) (o:= .cells #[.int .u8 aI,.string aZ,.bool bp,.slice dM bX.length dN,.string bC,.string ck,.bool cm,.slice dR bO.length dO] 35 (0,0)) kV hb);have bS:=ah.mk (aC iO hb);clear cV;clear HB;have cV:=bL;have HB:=bS;clear bL bS;(try clear hb);(try clear hb2);(try clear hk);(try clear hi)))
    go_ret
    exact ⟨cO,iO⟩
   ·replace c8:=Bool.eq_false_iff.mpr c8
    subst c8
    have H1:(if 1 + iH.size≤9223372036854775807 then ((bP.f qb ((⟨#[32]⟩:ByteArray) ++ iH) 160).bind fun Te=>(if Te=true then ((strings_Contains.f iH (⟨#[32]⟩:ByteArray)).bind fun Gq=>(if Gq=true then ((strings_Replace.f iH (⟨#[32]⟩:ByteArray) (⟨#[9]⟩:ByteArray) 1).bind fun zB=>((bP.f qb zB 160).bind fun xg=>(aB.j1 qb iH (!xg) aI aZ bp bX bC ck cm bO))) else (aB.j1 qb iH false aI aZ bp bX bC ck cm bO))) else (aB.j1 qb iH true aI aZ bp bX bC ck cm bO))) else (none))=some r:=by rw [if_neg (show ¬ (false=true) by decide)] at H;exact H
    clear H
    have H:=H1
    clear H1
    have abU:=ah.mk H
    clear H
    go_upto_region 4 with (fail)
    go_cut [31] (fun v31 wc=>∃ (kq:Nat) (K2:Bool),v31= .bool K2∧ah (aB.j1 kq iH K2 aI aZ bp bX bC ck cm bO=some r)∧ah (kq≤qb)∧ah (wc.heap[fK]? =some (.cells #[.int .u8 aI,.string aZ,.bool bp,(.slice dM bX.length dN),.string bC,.string ck,.bool cm,(.slice dR bO.length dO)] 35 (0,0)))∧ah (Below w.heap.size w wc))
    case first=>
     have H:=abU.out
     clear abU
     by_cases c12: 1 + iH.size≤9223372036854775807
     ·rw [if_pos c12] at H
      have wQ:=eq_true c12
      have CE:decide (1 + iH.size≤9223372036854775807)=true:=decide_eq_true c12
      try have RX:(9223372036854775807 < 1 + iH.size)=False:=eq_false (Nat.not_lt.2 c12)
      replace H:=Option.bind_eq_some_iff.mp H
      obtain ⟨Te,UT,H⟩:=H
      replace H:(if Te=true then ((strings_Contains.f iH (⟨#[32]⟩:ByteArray)).bind fun Gq=>(if Gq=true then ((strings_Replace.f iH (⟨#[32]⟩:ByteArray) (⟨#[9]⟩:ByteArray) 1).bind fun zB=>((bP.f qb zB 160).bind fun xg=>(aB.j1 qb iH (!xg) aI aZ bp bX bC ck cm bO))) else (aB.j1 qb iH false aI aZ bp bX bC ck cm bO))) else (aB.j1 qb iH true aI aZ bp bX bC ck cm bO))=some r:=H
      have A13:=ah.mk UT
      clear UT
      by_cases c14:Te=true
      ·subst c14
       have H1:((strings_Contains.f iH (⟨#[32]⟩:ByteArray)).bind fun Gq=>(if Gq=true then ((strings_Replace.f iH (⟨#[32]⟩:ByteArray) (⟨#[9]⟩:ByteArray) 1).bind fun zB=>((bP.f qb zB 160).bind fun xg=>(aB.j1 qb iH (!xg) aI aZ bp bX bC ck cm bO))) else (aB.j1 qb iH false aI aZ bp bX bC ck cm bO)))=some r:=by rw [if_pos rfl] at H;exact H
       clear H
       have H:=H1
       clear H1
       replace H:=Option.bind_eq_some_iff.mp H
       obtain ⟨Gq,Mm,H⟩:=H
       replace H:(if Gq=true then ((strings_Replace.f iH (⟨#[32]⟩:ByteArray) (⟨#[9]⟩:ByteArray) 1).bind fun zB=>((bP.f qb zB 160).bind fun xg=>(aB.j1 qb iH (!xg) aI aZ bp bX bC ck cm bO))) else (aB.j1 qb iH false aI aZ bp bX bC ck cm bO))=some r:=H
       have XN:=ah.mk Mm
       clear Mm
       by_cases c16:Gq=true
       ·subst c16
        have H1:((strings_Replace.f iH (⟨#[32]⟩:ByteArray) (⟨#[9]⟩:ByteArray) 1).bind fun zB=>((bP.f qb zB 160).bind fun xg=>(aB.j1 qb iH (!xg) aI aZ bp bX bC ck cm bO)))=some r:=by rw [if_pos rfl] at H;exact H
        clear H
        have H:=H1
        clear H1
        replace H:=Option.bind_eq_some_iff.mp H
        obtain ⟨zB,VB,H⟩:=H
        replace H:((bP.f qb zB 160).bind fun xg=>(aB.j1 qb iH (!xg) aI aZ bp bX bC ck cm bO))=some r:=H
        have A17:=ah.mk VB
        clear VB
        replace H:=Option.bind_eq_some_iff.mp H
        obtain ⟨xg,Mo,H⟩:=H
        replace H:(aB.j1 qb iH (!xg) aI aZ bp bX bC ck cm bO)=some r:=H
        have A18:=ah.mk Mo
        clear Mo
        have H':=ah.mk H
        clear H
        go_wp2_with (first|((with_reducible refine aU (f:=14) rfl ?_);refine cB (some 20) rfl rfl Tryz.func14 av rfl #[.string ((⟨#[32]⟩:ByteArray) ++ iH),.int .i64 160] rfl cX ?_;(with_reducible refine (bP.calls qb ((⟨#[32]⟩:ByteArray) ++ iH) 160 true _ ?aW A13.out).mono ?_);(case aW=>exact aQ.below HG.out iO);rintro e LZ ⟨rfl,hb⟩;refine ⟨_,rfl,?_⟩;have bL:=ah.mk (aX (g:=fK) (o:= .cells #[.int .u8 aI,.string aZ,.bool bp,.slice dM bX.length dN,.string bC,.string ck,.bool cm,.slice dR bO.length dO] 35 (0,0)) kV hb);have bS:=ah.mk (aC iO hb);clear cV;clear HB;have cV:=bL;have HB:=bS;clear bL bS;(try clear hb);(try clear hb2);(try clear hk);(try clear hi))|(go_at_call 40;(with_reducible refine (strings_Contains.calls iH (⟨#[32]⟩:ByteArray) true _ ?aW XN.out).mono ?_);(case aW=>exact aQ.below HG.out iO);rintro e w' ⟨rfl,⟨nd,rfl⟩⟩)|(go_at_call 41;(with_reducible refine (strings_Replace.calls iH (⟨#[32]⟩:ByteArray) (⟨#[9]⟩:ByteArray) 1 zB _ ?aW A17.out).mono ?_);(case aW=>exact aQ.below HG.out iO);rintro e Nz ⟨rfl,hb⟩;have bL:=ah.mk (aX (g:=fK) (o:= .cells #[.int .u8 aI,.string aZ,.bool bp,.slice dM bX.length dN,.string bC,.string ck,.bool cm,.slice dR bO.length dO] 35 (0,0)) kV hb);have bS:=ah.mk (aC iO hb);clear cV;clear HB;have cV:=bL;have HB:=bS;clear bL bS;(try clear hb);(try clear hb2);(try clear hk);(try clear hi))|(go_at_call 14;(with_reducible refine (bP.calls qb zB 160 xg _ ?aW A18.out).mono ?_);(case aW=>exact aQ.below HG.out iO);rintro e XO ⟨rfl,hb⟩;have bL:=ah.mk (aX (g:=fK) (o:= .cells #[.int .u8 aI,.string aZ,.bool bp,.slice dM bX.length dN,.string bC,.string ck,.bool cm,.slice dR bO.length dO] 35 (0,0)) kV hb);have bS:=ah.mk (aC iO hb);clear cV;clear HB;have cV:=bL;have HB:=bS;clear bL bS;(try clear hb);(try clear hb2);(try clear hk);(try clear hi)))
        go_meet
        case rel=>exact ⟨_,(!xg),dG,H',⟨Il⟩,⟨kV⟩,⟨iO⟩⟩
       ·replace c16:=Bool.eq_false_iff.mpr c16
        subst c16
        have H1:(aB.j1 qb iH false aI aZ bp bX bC ck cm bO)=some r:=by rw [if_neg (show ¬ (false=true) by decide)] at H;exact H
        clear H
        have H:=H1
        clear H1
        have H':=ah.mk H
        clear H
        go_wp2_with (first|((with_reducible refine aU (f:=14) rfl ?_);refine cB (some 20) rfl rfl Tryz.func14 av rfl #[.string ((⟨#[32]⟩:ByteArray) ++ iH),.int .i64 160] rfl cX ?_;(with_reducible refine (bP.calls qb ((⟨#[32]⟩:ByteArray) ++ iH) 160 true _ ?aW A13.out).mono ?_);(case aW=>exact aQ.below HG.out iO);rintro e Fb ⟨rfl,hb⟩;refine ⟨_,rfl,?_⟩;have bL:=ah.mk (aX (g:=fK) (o:= .cells #[.int .u8 aI,.string aZ,.bool bp,.slice dM bX.length dN,.string bC,.string ck,.bool cm,.slice dR bO.length dO] 35 (0,0)) kV hb);have bS:=ah.mk (aC iO hb);clear cV;clear HB;have cV:=bL;have HB:=bS;clear bL bS;(try clear hb);(try clear hb2);(try clear hk);(try clear hi))|(go_at_call 40;(with_reducible refine (strings_Contains.calls iH (⟨#[32]⟩:ByteArray) false _ ?aW XN.out).mono ?_);(case aW=>exact aQ.below HG.out iO);rintro e w' ⟨rfl,⟨nd,rfl⟩⟩))
        go_meet
        case rel=>exact ⟨_,(false),dG,H',⟨Il⟩,⟨kV⟩,⟨iO⟩⟩
      ·replace c14:=Bool.eq_false_iff.mpr c14
       subst c14
       have H1:(aB.j1 qb iH true aI aZ bp bX bC ck cm bO)=some r:=by rw [if_neg (show ¬ (false=true) by decide)] at H;exact H
       clear H
       have H:=H1
       clear H1
       have H':=ah.mk H
       clear H
       go_wp2_with (first|((with_reducible refine aU (f:=14) rfl ?_);refine cB (some 20) rfl rfl Tryz.func14 av rfl #[.string ((⟨#[32]⟩:ByteArray) ++ iH),.int .i64 160] rfl cX ?_;(with_reducible refine (bP.calls qb ((⟨#[32]⟩:ByteArray) ++ iH) 160 false _ ?aW A13.out).mono ?_);(case aW=>exact aQ.below HG.out iO);rintro e Li ⟨rfl,hb⟩;refine ⟨_,rfl,?_⟩;have bL:=ah.mk (aX (g:=fK) (o:= .cells #[.int .u8 aI,.string aZ,.bool bp,.slice dM bX.length dN,.string bC,.string ck,.bool cm,.slice dR bO.length dO] 35 (0,0)) kV hb);have bS:=ah.mk (aC iO hb);clear cV;clear HB;have cV:=bL;have HB:=bS;clear bL bS;(try clear hb);(try clear hb2);(try clear hk);(try clear hi)))
       go_meet
       case rel=>exact ⟨_,(true),dG,H',⟨Il⟩,⟨kV⟩,⟨iO⟩⟩
     ·rw [if_neg c12] at H
      exact absurd H aV
    case rest=>
     clear abU
     try clear c1
     try clear p2
     try clear c3
     try clear c7
     try clear wU
     try clear Gg
     try clear c8
     try clear c10
     try clear c12
     try clear wQ
     try clear CE
     try clear RX
     try clear c14
     try clear c15
     try clear c16
     try clear wW
     try clear wX
     try clear zy
     try clear B0
     try clear B6
     try clear O2
     try clear O3
     try clear O4
     try clear wY
     try clear wZ
     try clear zz
     try clear Ca
     try clear Cb
     try clear O5
     try clear O6
     try clear O7
     try clear p2
     obtain ⟨kq,K2,rfl,HA,ah0,cV,HB⟩:=hcut
     cases kq with
     |zero=>exact absurd HA.out (by simp [aB.j1])
     |succ YW=>
      have H:=HA.out
      clear HA
      simp only [aB.j1] at H
      by_cases c24:K2=true
      ·subst c24
       have H1:(none)=some r:=by rw [if_pos rfl] at H;exact H
       clear H
       have H:=H1
       clear H1
       exact absurd H aV
      ·replace c24:=Bool.eq_false_iff.mpr c24
       subst c24
       have H1:(if aI≥7 then (if aI≤10 then (aB.j2 YW iH (aZ.toList != ([]:List UInt8)) aI aZ bp bX bC ck cm bO) else (aB.j2 YW iH false aI aZ bp bX bC ck cm bO)) else (aB.j2 YW iH false aI aZ bp bX bC ck cm bO))=some r:=by rw [if_neg (show ¬ (false=true) by decide)] at H;exact H
       clear H
       have H:=H1
       clear H1
       have abV:=ah.mk H
       clear H
       go_upto_region 6 with (fail)
       go_cut [44] (fun v44 wc=>∃ (kq:Nat) (K3:Bool),v44= .bool K3∧ah (aB.j2 kq iH K3 aI aZ bp bX bC ck cm bO=some r)∧ah (kq≤YW)∧ah (wc.heap[fK]? =some (.cells #[.int .u8 aI,.string aZ,.bool bp,(.slice dM bX.length dN),.string bC,.string ck,.bool cm,(.slice dR bO.length dO)] 35 (0,0)))∧ah (Below w.heap.size w wc))
       case first=>
        have H:=abV.out
        clear abV
        by_cases GM:aI≥7
        ·rw [if_pos GM] at H
         have CN:decide (7≤aI)=true:=decide_eq_true GM
         clear GM
         (first|rw [CN]|(simp only [cR,cW];rw [CN])|skip)
         by_cases F9:aI≤10
         ·rw [if_pos F9] at H
          have Mq:decide (aI≤10)=true:=decide_eq_true F9
          clear F9
          have H':=ah.mk H
          clear H
          have yB:wc.cell? ⟨fK,0,none⟩=some (.int .u8 aI):=(af cV.out 0).trans rfl
          have yC:wc.cell? ⟨fK,1,none⟩=some (.string aZ):=(af cV.out 1).trans rfl
          have yD:wc.cell? ⟨fK,2,none⟩=some (.bool bp):=(af cV.out 2).trans rfl
          have Ay:wc.cell? ⟨fK,3,none⟩=some (.slice dM bX.length dN):=(af cV.out 3).trans rfl
          have Az:wc.cell? ⟨fK,4,none⟩=some (.string bC):=(af cV.out 4).trans rfl
          have AA:wc.cell? ⟨fK,5,none⟩=some (.string ck):=(af cV.out 5).trans rfl
          have AB:wc.cell? ⟨fK,6,none⟩=some (.bool cm):=(af cV.out 6).trans rfl
          have AE:wc.cell? ⟨fK,7,none⟩=some (.slice dR bO.length dO):=(af cV.out 7).trans rfl
          have yE:=aa cV.out 0
          have yF:=aa cV.out 1
          have yG:=aa cV.out 2
          have AG:=aa cV.out 3
          have AH:=aa cV.out 4
          have AJ:=aa cV.out 5
          have AK:=aa cV.out 6
          have AL:=aa cV.out 7
          go_wp2
          go_meet
          case rel=>exact ⟨_,((aZ.toList != ([]:List UInt8))),(by first|rfl|(cases aZ.toList<;>rfl)|(simp;done)|(simp [*];done)),H',⟨Ij⟩,⟨kV⟩,⟨iO⟩⟩
         ·rw [if_neg F9] at H
          have Mq:decide (aI≤10)=false:=decide_eq_false F9
          clear F9
          have H':=ah.mk H
          clear H
          have xK:wc.cell? ⟨fK,0,none⟩=some (.int .u8 aI):=(af cV.out 0).trans rfl
          have xL:wc.cell? ⟨fK,1,none⟩=some (.string aZ):=(af cV.out 1).trans rfl
          have Ah:wc.cell? ⟨fK,2,none⟩=some (.bool bp):=(af cV.out 2).trans rfl
          have Qz:wc.cell? ⟨fK,3,none⟩=some (.slice dM bX.length dN):=(af cV.out 3).trans rfl
          have QA:wc.cell? ⟨fK,4,none⟩=some (.string bC):=(af cV.out 4).trans rfl
          have YX:wc.cell? ⟨fK,5,none⟩=some (.string ck):=(af cV.out 5).trans rfl
          have YY:wc.cell? ⟨fK,6,none⟩=some (.bool cm):=(af cV.out 6).trans rfl
          have YZ:wc.cell? ⟨fK,7,none⟩=some (.slice dR bO.length dO):=(af cV.out 7).trans rfl
          have xM:=aa cV.out 0
          have xN:=aa cV.out 1
          have Ai:=aa cV.out 2
          have QB:=aa cV.out 3
          have QC:=aa cV.out 4
          have Y0:=aa cV.out 5
          have Y1:=aa cV.out 6
          have Y2:=aa cV.out 7
          go_wp2
          go_meet
          case rel=>exact ⟨_,(false),dG,H',⟨Ij⟩,⟨kV⟩,⟨iO⟩⟩
        ·rw [if_neg GM] at H
         have CN:decide (7≤aI)=false:=decide_eq_false GM
         clear GM
         (first|rw [CN]|(simp only [cR,cW];rw [CN])|skip)
         have H':=ah.mk H
         clear H
         have DR:wc.cell? ⟨fK,0,none⟩=some (.int .u8 aI):=(af cV.out 0).trans rfl
         have DT:wc.cell? ⟨fK,1,none⟩=some (.string aZ):=(af cV.out 1).trans rfl
         have DU:wc.cell? ⟨fK,2,none⟩=some (.bool bp):=(af cV.out 2).trans rfl
         have QD:wc.cell? ⟨fK,3,none⟩=some (.slice dM bX.length dN):=(af cV.out 3).trans rfl
         have QE:wc.cell? ⟨fK,4,none⟩=some (.string bC):=(af cV.out 4).trans rfl
         have Y3:wc.cell? ⟨fK,5,none⟩=some (.string ck):=(af cV.out 5).trans rfl
         have Y4:wc.cell? ⟨fK,6,none⟩=some (.bool cm):=(af cV.out 6).trans rfl
         have Y5:wc.cell? ⟨fK,7,none⟩=some (.slice dR bO.length dO):=(af cV.out 7).trans rfl
         have DV:=aa cV.out 0
         have DW:=aa cV.out 1
         have DX:=aa cV.out 2
         have QF:=aa cV.out 3
         have QG:=aa cV.out 4
         have Y6:=aa cV.out 5
         have Y7:=aa cV.out 6
         have Y8:=aa cV.out 7
         go_wp2
         go_meet
         case rel=>exact ⟨_,(false),dG,H',⟨Ij⟩,⟨kV⟩,⟨iO⟩⟩
       case rest=>
        clear abV
        try clear c1
        try clear c2
        try clear p2
        try clear c3
        try clear c7
        try clear wU
        try clear Gg
        try clear c8
        try clear c10
        try clear c12
        try clear wQ
        try clear CE
        try clear RX
        try clear c14
        try clear c15
        try clear c16
        try clear c24
        try clear GM
        try clear CN
        try clear F9
        try clear Mq
        try clear yB
        try clear yC
        try clear yD
        try clear Ay
        try clear Az
        try clear AA
        try clear AB
        try clear AE
        try clear xK
        try clear xL
        try clear Ah
        try clear Qz
        try clear QA
        try clear YX
        try clear YY
        try clear YZ
        try clear DR
        try clear DT
        try clear DU
        try clear QD
        try clear QE
        try clear Y3
        try clear Y4
        try clear Y5
        try clear wW
        try clear wX
        try clear zy
        try clear B0
        try clear B6
        try clear O2
        try clear O3
        try clear O4
        try clear yE
        try clear yF
        try clear yG
        try clear AG
        try clear AH
        try clear AJ
        try clear AK
        try clear AL
        try clear xM
        try clear xN
        try clear Ai
        try clear QB
        try clear QC
        try clear Y0
        try clear Y1
        try clear Y2
        try clear DV
        try clear DW
        try clear DX
        try clear QF
        try clear QG
        try clear Y6
        try clear Y7
        try clear Y8
        try clear wY
        try clear wZ
        try clear zz
        try clear Ca
        try clear Cb
        try clear O5
        try clear O6
        try clear O7
        try clear p2
        obtain ⟨kq,K3,rfl,HA,amV,cV,HB⟩:=hcut
        cases kq with
        |zero=>exact absurd HA.out (by simp [aB.j2])
        |succ Bu=>
         have H:=HA.out
         clear HA
         simp only [aB.j2] at H
         by_cases c31:K3=true
         ·subst c31
          have H1:(if iH.size + 1≤9223372036854775807 then (if aZ.size + 1≤9223372036854775807 then ((bg.f Bu (iH ++ (⟨#[32]⟩:ByteArray)) aI (aZ ++ (⟨#[32]⟩:ByteArray)) false ([]:List ByteArray) (⟨#[]⟩:ByteArray) (⟨#[]⟩:ByteArray) false ([]:List (gw))).bind fun Tf=>(if Tf=true then ((bM.f Bu).bind fun Gr=>(some Gr)) else (some false))) else (none)) else (none))=some r:=by rw [if_pos rfl] at H;exact H
          clear H
          have H:=H1
          clear H1
          by_cases BX:iH.size + 1≤9223372036854775807
          ·rw [if_pos BX] at H
           have GN:=eq_true BX
           have Mr:decide (iH.size + 1≤9223372036854775807)=true:=decide_eq_true BX
           try have ak7:(9223372036854775807 < iH.size + 1)=False:=eq_false (Nat.not_lt.2 BX)
           by_cases Dj:aZ.size + 1≤9223372036854775807
           ·rw [if_pos Dj] at H
            have L1:=eq_true Dj
            have ak8:decide (aZ.size + 1≤9223372036854775807)=true:=decide_eq_true Dj
            try have ak9:(9223372036854775807 < aZ.size + 1)=False:=eq_false (Nat.not_lt.2 Dj)
            replace H:=Option.bind_eq_some_iff.mp H
            obtain ⟨Tf,Mi,H⟩:=H
            replace H:(if Tf=true then ((bM.f Bu).bind fun Gr=>(some Gr)) else (some false))=some r:=H
            have ZR:=ah.mk Mi
            clear Mi
            by_cases WG:Tf=true
            ·subst WG
             have H1:((bM.f Bu).bind fun Gr=>(some Gr))=some r:=by rw [if_pos rfl] at H;exact H
             clear H
             have H:=H1
             clear H1
             replace H:=Option.bind_eq_some_iff.mp H
             obtain ⟨Gr,Vn,H⟩:=H
             replace H:(some Gr)=some r:=H
             have A36:=ah.mk Vn
             clear Vn
             obtain rfl:=Option.some.inj H
             have Ke:wc.cell? ⟨fK,0,none⟩=some (.int .u8 aI):=(af cV.out 0).trans rfl
             have Kf:wc.cell? ⟨fK,1,none⟩=some (.string aZ):=(af cV.out 1).trans rfl
             have Kg:wc.cell? ⟨fK,2,none⟩=some (.bool bp):=(af cV.out 2).trans rfl
             have ahO:wc.cell? ⟨fK,3,none⟩=some (.slice dM bX.length dN):=(af cV.out 3).trans rfl
             have ahP:wc.cell? ⟨fK,4,none⟩=some (.string bC):=(af cV.out 4).trans rfl
             have ahQ:wc.cell? ⟨fK,5,none⟩=some (.string ck):=(af cV.out 5).trans rfl
             have ahR:wc.cell? ⟨fK,6,none⟩=some (.bool cm):=(af cV.out 6).trans rfl
             have ahS:wc.cell? ⟨fK,7,none⟩=some (.slice dR bO.length dO):=(af cV.out 7).trans rfl
             have Kh:=aa cV.out 0
             have Ki:=aa cV.out 1
             have Kj:=aa cV.out 2
             have ahT:=aa cV.out 3
             have ahU:=aa cV.out 4
             have ahV:=aa cV.out 5
             have ahW:=aa cV.out 6
             have ahX:=aa cV.out 7
             go_wp2_with (first|((with_reducible refine aU (f:=16) rfl ?_);refine cB (some 53) rfl rfl Tryz.func16 av rfl #[.string (iH ++ (⟨#[32]⟩:ByteArray)),.agg #[.int .u8 aI,.string (aZ ++ (⟨#[32]⟩:ByteArray)),.bool false,.slice none 0 0,.string (⟨#[]⟩:ByteArray),.string (⟨#[]⟩:ByteArray),.bool false,.slice none 0 0]] rfl cX ?_;(refine (bg.calls Bu (iH ++ (⟨#[32]⟩:ByteArray)) aI (aZ ++ (⟨#[32]⟩:ByteArray)) false _ _ ([]:List ByteArray) (⟨#[]⟩:ByteArray) (⟨#[]⟩:ByteArray) false _ _ ([]:List (gw)) true _ ?aW ?bY ?eO ?gP ?jN ZR.out).mono ?_);(case aW=>exact Kd.sD _ _);(case bY=>exact Nat.le_refl _);(case eO=>exact Kd.sD _ _);(case gP=>exact Nat.le_refl _);(case jN=>exact aQ.below HG.out iO);rintro e SP ⟨rfl,hb⟩;refine ⟨_,rfl,?_⟩;have bL:=ah.mk (aX (g:=fK) (o:= .cells #[.int .u8 aI,.string aZ,.bool bp,.slice dM bX.length dN,.string bC,.string ck,.bool cm,.slice dR bO.length dO] 35 (0,0)) kV hb);have bS:=ah.mk (aC iO hb);clear cV;clear HB;have cV:=bL;have HB:=bS;clear bL bS;(try clear hb);(try clear hb2);(try clear hk);(try clear hi))|(go_at_call 15;(with_reducible refine (bM.calls Bu Gr _ ?aW A36.out).mono ?_);(case aW=>exact aQ.below HG.out iO);rintro e WJ ⟨rfl,hb⟩;have bL:=ah.mk (aX (g:=fK) (o:= .cells #[.int .u8 aI,.string aZ,.bool bp,.slice dM bX.length dN,.string bC,.string ck,.bool cm,.slice dR bO.length dO] 35 (0,0)) kV hb);have bS:=ah.mk (aC iO hb);clear cV;clear HB;have cV:=bL;have HB:=bS;clear bL bS;(try clear hb);(try clear hb2);(try clear hk);(try clear hi)))
             go_ret
             exact ⟨cO,iO⟩
            ·replace WG:=Bool.eq_false_iff.mpr WG
             subst WG
             have H1:(some false)=some r:=by rw [if_neg (show ¬ (false=true) by decide)] at H;exact H
             clear H
             have H:=H1
             clear H1
             obtain rfl:=Option.some.inj H
             have JO:wc.cell? ⟨fK,0,none⟩=some (.int .u8 aI):=(af cV.out 0).trans rfl
             have JP:wc.cell? ⟨fK,1,none⟩=some (.string aZ):=(af cV.out 1).trans rfl
             have JQ:wc.cell? ⟨fK,2,none⟩=some (.bool bp):=(af cV.out 2).trans rfl
             have JR:wc.cell? ⟨fK,3,none⟩=some (.slice dM bX.length dN):=(af cV.out 3).trans rfl
             have JS:wc.cell? ⟨fK,4,none⟩=some (.string bC):=(af cV.out 4).trans rfl
             have R7:wc.cell? ⟨fK,5,none⟩=some (.string ck):=(af cV.out 5).trans rfl
             have R8:wc.cell? ⟨fK,6,none⟩=some (.bool cm):=(af cV.out 6).trans rfl
             have R9:wc.cell? ⟨fK,7,none⟩=some (.slice dR bO.length dO):=(af cV.out 7).trans rfl
             have JT:=aa cV.out 0
             have JU:=aa cV.out 1
             have JV:=aa cV.out 2
             have JW:=aa cV.out 3
             have JX:=aa cV.out 4
             have Sa:=aa cV.out 5
             have Sb:=aa cV.out 6
             have Sc:=aa cV.out 7
             go_wp2_with (first|((with_reducible refine aU (f:=16) rfl ?_);refine cB (some 53) rfl rfl Tryz.func16 av rfl #[.string (iH ++ (⟨#[32]⟩:ByteArray)),.agg #[.int .u8 aI,.string (aZ ++ (⟨#[32]⟩:ByteArray)),.bool false,.slice none 0 0,.string (⟨#[]⟩:ByteArray),.string (⟨#[]⟩:ByteArray),.bool false,.slice none 0 0]] rfl cX ?_;(refine (bg.calls Bu (iH ++ (⟨#[32]⟩:ByteArray)) aI (aZ ++ (⟨#[32]⟩:ByteArray)) false _ _ ([]:List ByteArray) (⟨#[]⟩:ByteArray) (⟨#[]⟩:ByteArray) false _ _ ([]:List (gw)) false _ ?aW ?bY ?eO ?gP ?jN ZR.out).mono ?_);(case aW=>exact Kd.sD _ _);(case bY=>exact Nat.le_refl _);(case eO=>exact Kd.sD _ _);(case gP=>exact Nat.le_refl _);(case jN=>exact aQ.below HG.out iO);rintro e OD ⟨rfl,hb⟩;refine ⟨_,rfl,?_⟩;have bL:=ah.mk (aX (g:=fK) (o:= .cells #[.int .u8 aI,.string aZ,.bool bp,.slice dM bX.length dN,.string bC,.string ck,.bool cm,.slice dR bO.length dO] 35 (0,0)) kV hb);have bS:=ah.mk (aC iO hb);clear cV;clear HB;have cV:=bL;have HB:=bS;clear bL bS;(try clear hb);(try clear hb2);(try clear hk);(try clear hi)))
             go_ret
             exact ⟨cO,iO⟩
           ·rw [if_neg Dj] at H
            exact absurd H aV
          ·rw [if_neg BX] at H
           exact absurd H aV
         ·replace c31:=Bool.eq_false_iff.mpr c31
          subst c31
          have H1:(if iH.size + 1≤9223372036854775807 then ((bP.f Bu (iH ++ (⟨#[32]⟩:ByteArray)) 161).bind fun Tg=>(if Tg=true then ((bM.f Bu).bind fun Gs=>(some Gs)) else (some false))) else (none))=some r:=by rw [if_neg (show ¬ (false=true) by decide)] at H;exact H
          clear H
          have H:=H1
          clear H1
          by_cases TV:iH.size + 1≤9223372036854775807
          ·rw [if_pos TV] at H
           have Z1:=eq_true TV
           have ala:decide (iH.size + 1≤9223372036854775807)=true:=decide_eq_true TV
           try have alb:(9223372036854775807 < iH.size + 1)=False:=eq_false (Nat.not_lt.2 TV)
           replace H:=Option.bind_eq_some_iff.mp H
           obtain ⟨Tg,aet,H⟩:=H
           replace H:(if Tg=true then ((bM.f Bu).bind fun Gs=>(some Gs)) else (some false))=some r:=H
           have A43:=ah.mk aet
           clear aet
           by_cases Vs:Tg=true
           ·subst Vs
            have H1:((bM.f Bu).bind fun Gs=>(some Gs))=some r:=by rw [if_pos rfl] at H;exact H
            clear H
            have H:=H1
            clear H1
            replace H:=Option.bind_eq_some_iff.mp H
            obtain ⟨Gs,aeu,H⟩:=H
            replace H:(some Gs)=some r:=H
            have A45:=ah.mk aeu
            clear aeu
            obtain rfl:=Option.some.inj H
            go_wp2_with (first|((with_reducible refine aU (f:=14) rfl ?_);refine cB (some 59) rfl rfl Tryz.func14 av rfl #[.string (iH ++ (⟨#[32]⟩:ByteArray)),.int .i64 161] rfl cX ?_;(with_reducible refine (bP.calls Bu (iH ++ (⟨#[32]⟩:ByteArray)) 161 true _ ?aW A43.out).mono ?_);(case aW=>exact aQ.below HG.out iO);rintro e w46 ⟨rfl,hb⟩;refine ⟨_,rfl,?_⟩;have bL:=ah.mk (aX (g:=fK) (o:= .cells #[.int .u8 aI,.string aZ,.bool bp,.slice dM bX.length dN,.string bC,.string ck,.bool cm,.slice dR bO.length dO] 35 (0,0)) kV hb);have bS:=ah.mk (aC iO hb);clear cV;clear HB;have cV:=bL;have HB:=bS;clear bL bS;(try clear hb);(try clear hb2);(try clear hk);(try clear hi))|(go_at_call 15;(with_reducible refine (bM.calls Bu Gs _ ?aW A45.out).mono ?_);(case aW=>exact aQ.below HG.out iO);rintro e w47 ⟨rfl,hb⟩;have bL:=ah.mk (aX (g:=fK) (o:= .cells #[.int .u8 aI,.string aZ,.bool bp,.slice dM bX.length dN,.string bC,.string ck,.bool cm,.slice dR bO.length dO] 35 (0,0)) kV hb);have bS:=ah.mk (aC iO hb);clear cV;clear HB;have cV:=bL;have HB:=bS;clear bL bS;(try clear hb);(try clear hb2);(try clear hk);(try clear hi)))
            go_ret
            exact ⟨cO,iO⟩
           ·replace Vs:=Bool.eq_false_iff.mpr Vs
            subst Vs
            have H1:(some false)=some r:=by rw [if_neg (show ¬ (false=true) by decide)] at H;exact H
            clear H
            have H:=H1
            clear H1
            obtain rfl:=Option.some.inj H
            go_wp2_with (first|((with_reducible refine aU (f:=14) rfl ?_);refine cB (some 59) rfl rfl Tryz.func14 av rfl #[.string (iH ++ (⟨#[32]⟩:ByteArray)),.int .i64 161] rfl cX ?_;(with_reducible refine (bP.calls Bu (iH ++ (⟨#[32]⟩:ByteArray)) 161 false _ ?aW A43.out).mono ?_);(case aW=>exact aQ.below HG.out iO);rintro e w48 ⟨rfl,hb⟩;refine ⟨_,rfl,?_⟩;have bL:=ah.mk (aX (g:=fK) (o:= .cells #[.int .u8 aI,.string aZ,.bool bp,.slice dM bX.length dN,.string bC,.string ck,.bool cm,.slice dR bO.length dO] 35 (0,0)) kV hb);have bS:=ah.mk (aC iO hb);clear cV;clear HB;have cV:=bL;have HB:=bS;clear bL bS;(try clear hb);(try clear hb2);(try clear hk);(try clear hi)))
            go_ret
            exact ⟨cO,iO⟩
          ·rw [if_neg TV] at H
           exact absurd H aV
end Go.Proofs.YtokpnfljjjjikaaGreatDoor.nK
