import Derived.Test.YtbjjaaodfbjkfaaGreatDoorQQux10
namespace Go.Proofs.YtbjjaaodfbjkfaaGreatDoor.qb
open Go.RowKit Go.Proofs.YtbjjaaodfbjkfaaGreatDoor.xI Go.Proofs.aj.bQ Go.Proofs.aj.dX Go.Proofs.aj.dJ
attribute [local go_sem] jT jU lF lG iX iY jV jW
set_option linter.unusedVariables false
set_option linter.unusedSimpArgs false
def eX.j0:Nat→Int→Bool→Int→Int→Int→Int→Int→Bool→List ByteArray→ByteArray→ByteArray→Bool→List (iN)→List Int→Int→Option (Bool)
 | 0,_,_,_,_,_,_,_,_,_,_,_,_,_,_,_ =>none
 |k + 1,Pc,x53,ayk,ayl,aax,N5,N6,N7,N8,N9,Oa,Ob,Oc,Od,Oe=>if x53=true then (if N5=0 then ((eB.f N6 N7 N8 N9 Oa Ob Oc Od Oe).bind fun t246=>(some t246)) else (some false)) else (if Pc=6 then (if (wrap64 (aax + N5))=0 then ((eB.f N6 N7 N8 N9 Oa Ob Oc Od Oe).bind fun t247=>(some t247)) else (some false)) else (some false))
def eX.f (k:Nat) (bB:Int) (b7:Int) (cD:Int) (bM:Int) (bS:Int) (cr:Bool) (cw:List ByteArray) (iJ:ByteArray) (cx:ByteArray) (iK:Bool) (eK:List (iN)) (eN:List Int) (eY:Int):Option (Bool):=(cV.f k (([b7,cD,bM]:List Int))).bind fun t241=>(if t241=true then (if bB=1 then (if (wrap64 ((wrap64 (b7 + cD)) + bM))=0 then ((jq.f k bS cr cw iJ cx iK eK eN eY).bind fun t242=>(some t242)) else (some false)) else (if bB=5 then (if (wrap64 (cD + bM))=0 then ((eB.f bS cr cw iJ cx iK eK eN eY).bind fun t243=>(if t243=true then (some true) else ((jq.f k bS cr cw iJ cx iK eK eN eY).bind fun t244=>(some t244)))) else (some false)) else (if bB=2 then ((eB.f bS cr cw iJ cx iK eK eN eY).bind fun t245=>(some t245)) else (if bB=3 then (eX.j0 k bB (bB == 3) bB b7 cD bM bS cr cw iJ cx iK eK eN eY) else (eX.j0 k bB (bB == 4) bB b7 cD bM bS cr cw iJ cx iK eK eN eY))))) else (some false))
set_option maxHeartbeats 8000000 in
set_option maxRecDepth 100000 in
theorem eX.calls (k:Nat) (bB:Int) (b7:Int) (cD:Int) (bM:Int) (bS:Int) (cr:Bool) (dL:Option Addr) (dM:Nat) (cw:List ByteArray) (iJ:ByteArray) (cx:ByteArray) (iK:Bool) (jJ:Option Addr) (jK:Nat) (eK:List (iN)) (jL:Option Addr) (jM:Nat) (eN:List Int) (eY:Int) (r:Bool) (w:World) (rG:Kd.C Kd.string w dL cw.length cw) (sH:cw.length≤dM) (Tt:Kd.C mV w jJ eK.length eK) (Tu:eK.length≤jK) (Tv:Kd.C (Kd.int .u8) w jL eN.length eN) (Tw:eN.length≤jM) (hG:bp w) (h:eX.f k bB b7 cD bM bS cr cw iJ cx iK eK eN eY=some r):
 Calls Tryz.prog 58 #[.agg #[.int .u8 bB,.int .i64 b7,.int .i64 cD,.int .i64 bM,.int .i64 bS,.bool cr,.slice dL cw.length dM,.string iJ,.string cx,.bool iK,.slice jJ eK.length jK,.slice jL eN.length jM,.int .i64 eY]] w fun e w'=>e= .returned (.bool r)∧Below w.heap.size w w':=by
 have adE:=Tryz.underlying46
 have Dg:=Tryz.underlying34
 have sN:=ah.mk rG
 have sO:=ah.mk sH
 clear rG sH
 have xg:=ah.mk Tt
 have xh:=ah.mk Tu
 clear Tt Tu
 have xj:=ah.mk Tv
 have xk:=ah.mk Tw
 clear Tv Tw
 have HB:=ah.mk (Below.refl w.heap.size w)
 have HG:=ah.mk hG
 clear hG
 have H:((cV.f k (([b7,cD,bM]:List Int))).bind fun t241=>(if t241=true then (if bB=1 then (if (wrap64 ((wrap64 (b7 + cD)) + bM))=0 then ((jq.f k bS cr cw iJ cx iK eK eN eY).bind fun t242=>(some t242)) else (some false)) else (if bB=5 then (if (wrap64 (cD + bM))=0 then ((eB.f bS cr cw iJ cx iK eK eN eY).bind fun t243=>(if t243=true then (some true) else ((jq.f k bS cr cw iJ cx iK eK eN eY).bind fun t244=>(some t244)))) else (some false)) else (if bB=2 then ((eB.f bS cr cw iJ cx iK eK eN eY).bind fun t245=>(some t245)) else (if bB=3 then (eX.j0 k bB (bB == 3) bB b7 cD bM bS cr cw iJ cx iK eK eN eY) else (eX.j0 k bB (bB == 4) bB b7 cD bM bS cr cw iJ cx iK eK eN eY))))) else (some false)))=some r:=h
 clear h
 obtain ⟨vo,Tx⟩:∃ y_:List Int,y_=(([b7,cD,bM]:List Int)):=⟨_,rfl⟩
 replace H:((cV.f k vo).bind fun t241=>(if t241=true then (if bB=1 then (if (wrap64 ((wrap64 (b7 + cD)) + bM))=0 then ((jq.f k bS cr cw iJ cx iK eK eN eY).bind fun t242=>(some t242)) else (some false)) else (if bB=5 then (if (wrap64 (cD + bM))=0 then ((eB.f bS cr cw iJ cx iK eK eN eY).bind fun t243=>(if t243=true then (some true) else ((jq.f k bS cr cw iJ cx iK eK eN eY).bind fun t244=>(some t244)))) else (some false)) else (if bB=2 then ((eB.f bS cr cw iJ cx iK eK eN eY).bind fun t245=>(some t245)) else (if bB=3 then (eX.j0 k bB (bB == 3) bB b7 cD bM bS cr cw iJ cx iK eK eN eY) else (eX.j0 k bB (bB == 4) bB b7 cD bM bS cr cw iJ cx iK eK eN eY))))) else (some false)))=some r:=by (rw [Tx];with_reducible exact H)
 have zY:=ah.mk Tx
 clear Tx
 obtain ⟨t241,A2,H⟩:=bd_ H
 by_cases c3:t241=true
 ·subst c3
  rw [if_pos rfl] at H
  by_cases c4:bB=1
  ·rw [if_pos c4] at H
   have oU:=beq_iff_eq.mpr c4
   have Bl:=bne_eq_false_iff_eq.mpr c4
   clear c4
   by_cases c5:(wrap64 ((wrap64 (b7 + cD)) + bM))=0
   ·rw [if_pos c5] at H
    have uA:=beq_iff_eq.mpr c5
    have ad3:=bne_eq_false_iff_eq.mpr c5
    clear c5
    obtain ⟨t242,A6,H⟩:=bd_ H
    obtain rfl:=Option.some.inj H
    go_enter Tryz.func58,Tryz.ntmps58
    go_wp2_with (first|((with_reducible refine bI (N:=1) rfl ?_);refine bR ?hg (N:=1) ?hd (cs:=#[.int .u8 bB,.int .i64 b7,.int .i64 cD,.int .i64 bM,.int .i64 bS,.bool cr,.slice dL cw.length dM,.string iJ,.string cx,.bool iK,.slice jJ eK.length jK,.slice jL eN.length jM,.int .i64 eY]) (t:=46) ?hr ?_;(case hd=>rfl);(case hg=>rfl);(case hr=>(go_simp;done));intro aY hg w7 b9 hb;have az:=ah.mk (b9);have BG:=ah.mk ((bZ:w.heap.size≤aY));have BH:=ah.mk ((bZ:w.heap.size≤aY));replace HB:=ah.mk (aA aD hb);clear hb b9 hg;have Dh:w7.cell? ⟨aY,0,none⟩=some (.int .u8 bB):=(af az.out 0).trans rfl;have Di:w7.cell? ⟨aY,1,none⟩=some (.int .i64 b7):=(af az.out 1).trans rfl;have Q4:w7.cell? ⟨aY,2,none⟩=some (.int .i64 cD):=(af az.out 2).trans rfl;have adf:w7.cell? ⟨aY,3,none⟩=some (.int .i64 bM):=(af az.out 3).trans rfl;have adg:w7.cell? ⟨aY,4,none⟩=some (.int .i64 bS):=(af az.out 4).trans rfl;have adh:w7.cell? ⟨aY,5,none⟩=some (.bool cr):=(af az.out 5).trans rfl;have adi:w7.cell? ⟨aY,6,none⟩=some (.slice dL cw.length dM):=(af az.out 6).trans rfl;have adj:w7.cell? ⟨aY,7,none⟩=some (.string iJ):=(af az.out 7).trans rfl;have adk:w7.cell? ⟨aY,8,none⟩=some (.string cx):=(af az.out 8).trans rfl;have aCW:w7.cell? ⟨aY,9,none⟩=some (.bool iK):=(af az.out 9).trans rfl;have aym:w7.cell? ⟨aY,10,none⟩=some (.slice jJ eK.length jK):=(af az.out 10).trans rfl;have ayn:w7.cell? ⟨aY,11,none⟩=some (.slice jL eN.length jM):=(af az.out 11).trans rfl;have ayo:w7.cell? ⟨aY,12,none⟩=some (.int .i64 eY):=(af az.out 12).trans rfl;have Dj:=aa az.out 0;have Dk:=aa az.out 1;have Q5:=aa az.out 2;have adl:=aa az.out 3;have adm:=aa az.out 4;have adn:=aa az.out 5;have ado:=aa az.out 6;have adp:=aa az.out 7;have adq:=aa az.out 8;have aCX:=aa az.out 9;have ayp:=aa az.out 10;have ayq:=aa az.out 11;have ayr:=aa az.out 12)|((with_reducible refine bI (N:=9) rfl ?_);refine Kd.kZ (Kd.int .i64) _ 3 ?hg (N:=9) ?hd (xs:=([b7,cD,bM]:List Int)) (inner:=[.int .i64 b7,.int .i64 cD,.int .i64 bM]) (ok:=fun _ =>True) (oQ:=fun _ =>True) ?hr ?hp (fun _ hk=>hk) trivial (Below.refl _ _) (Nat.le_refl _) cO ?_;(case hd=>rfl);(case hg=>rfl);(case hr=>(go_simp;done));(case hp=>exact (dn.one (show Kd.M (Kd.int .i64) _ _ _ b7 [.int .i64 b7] from rfl) (dn.one (show Kd.M (Kd.int .i64) _ _ _ cD [.int .i64 cD] from rfl) (dn.one (show Kd.M (Kd.int .i64) _ _ _ bM [.int .i64 bM] from rfl) (dn.none _ _)))));intro Kf w9 aeE hb qc fV;clear qc fV;(rw [← zY.out] at aeE);have iO:=ah.mk (Kd.cN aeE (bL aD));replace az:=ah.mk (aC nC hb);replace HB:=ah.mk (aA aD hb);clear hb aeE;obtain ⟨wY,wZ,adS⟩:=Kd.cM iO.out;subst adS)|((with_reducible refine bq (f:=102) rfl ?_);refine cK (some 10) rfl rfl Tryz.func102 aR rfl #[.slice wY vo.length wZ] rfl dc ?_;(with_reducible refine (cV.calls k _ _ vo true _ ?aX ?bF A2.out).mono ?_);(case aX=>repeat (exact (Kd.aZ iO.out).2.2));(case bF=>exact (Kd.aZ iO.out).2.1);rintro e w' ⟨rfl,⟨nd,rfl⟩⟩;refine ⟨_,rfl,?_⟩;have xW:w9.cell? ⟨aY,0,none⟩=some (.int .u8 bB):=(af az.out 0).trans rfl;have xX:w9.cell? ⟨aY,1,none⟩=some (.int .i64 b7):=(af az.out 1).trans rfl;have AA:w9.cell? ⟨aY,2,none⟩=some (.int .i64 cD):=(af az.out 2).trans rfl;have EF:w9.cell? ⟨aY,3,none⟩=some (.int .i64 bM):=(af az.out 3).trans rfl;have EG:w9.cell? ⟨aY,4,none⟩=some (.int .i64 bS):=(af az.out 4).trans rfl;have EH:w9.cell? ⟨aY,5,none⟩=some (.bool cr):=(af az.out 5).trans rfl;have EI:w9.cell? ⟨aY,6,none⟩=some (.slice dL cw.length dM):=(af az.out 6).trans rfl;have EJ:w9.cell? ⟨aY,7,none⟩=some (.string iJ):=(af az.out 7).trans rfl;have EK:w9.cell? ⟨aY,8,none⟩=some (.string cx):=(af az.out 8).trans rfl;have ays:w9.cell? ⟨aY,9,none⟩=some (.bool iK):=(af az.out 9).trans rfl;have akD:w9.cell? ⟨aY,10,none⟩=some (.slice jJ eK.length jK):=(af az.out 10).trans rfl;have akE:w9.cell? ⟨aY,11,none⟩=some (.slice jL eN.length jM):=(af az.out 11).trans rfl;have akF:w9.cell? ⟨aY,12,none⟩=some (.int .i64 eY):=(af az.out 12).trans rfl;have xY:=aa az.out 0;have xZ:=aa az.out 1;have AB:=aa az.out 2;have EL:=aa az.out 3;have EM:=aa az.out 4;have EN:=aa az.out 5;have EO:=aa az.out 6;have EP:=aa az.out 7;have ER:=aa az.out 8;have ayt:=aa az.out 9;have akG:=aa az.out 10;have akH:=aa az.out 11;have akI:=aa az.out 12)|(go_at_call 71;(with_reducible refine (jq.calls k bS cr _ _ cw iJ cx iK _ _ eK _ _ eN eY t242 _ ?aX ?bF ?dU ?jt ?ju ?jv ?pP A6.out).mono ?_);(case aX=>repeat (exact (Kd.bG sN.out dG)));(case bF=>exact sO.out);(case dU=>repeat (exact (Kd.bG xg.out dG)));(case jt=>exact xh.out);(case ju=>repeat (exact (Kd.bG xj.out dG)));(case jv=>exact xk.out);(case pP=>exact bp.below HG.out dG);rintro e rX ⟨rfl,hb⟩;replace iO:=ah.mk (Kd.aM Ag hb);replace az:=ah.mk (aC nC hb);replace HB:=ah.mk (aA dG hb);(try clear hb)))
    go_ret
    exact ⟨by rfl,aD⟩
   ·rw [if_neg c5] at H
    have uA:=beq_eq_false_iff_ne.mpr c5
    have ad3:=bne_iff_ne.mpr c5
    obtain rfl:=Option.some.inj H
    go_enter Tryz.func58,Tryz.ntmps58
    go_wp2_with (first|((with_reducible refine bI (N:=1) rfl ?_);refine bR ?hg (N:=1) ?hd (cs:=#[.int .u8 bB,.int .i64 b7,.int .i64 cD,.int .i64 bM,.int .i64 bS,.bool cr,.slice dL cw.length dM,.string iJ,.string cx,.bool iK,.slice jJ eK.length jK,.slice jL eN.length jM,.int .i64 eY]) (t:=46) ?hr ?_;(case hd=>rfl);(case hg=>rfl);(case hr=>(go_simp;done));intro aY hg JY b9 hb;have az:=ah.mk (b9);have BG:=ah.mk ((bZ:w.heap.size≤aY));have BH:=ah.mk ((bZ:w.heap.size≤aY));replace HB:=ah.mk (aA aD hb);clear hb b9 hg;have Vp:JY.cell? ⟨aY,0,none⟩=some (.int .u8 bB):=(af az.out 0).trans rfl;have Vq:JY.cell? ⟨aY,1,none⟩=some (.int .i64 b7):=(af az.out 1).trans rfl;have Vr:JY.cell? ⟨aY,2,none⟩=some (.int .i64 cD):=(af az.out 2).trans rfl;have Vs:JY.cell? ⟨aY,3,none⟩=some (.int .i64 bM):=(af az.out 3).trans rfl;have Vt:JY.cell? ⟨aY,4,none⟩=some (.int .i64 bS):=(af az.out 4).trans rfl;have Vu:JY.cell? ⟨aY,5,none⟩=some (.bool cr):=(af az.out 5).trans rfl;have Vv:JY.cell? ⟨aY,6,none⟩=some (.slice dL cw.length dM):=(af az.out 6).trans rfl;have Vw:JY.cell? ⟨aY,7,none⟩=some (.string iJ):=(af az.out 7).trans rfl;have Vx:JY.cell? ⟨aY,8,none⟩=some (.string cx):=(af az.out 8).trans rfl;have ayu:JY.cell? ⟨aY,9,none⟩=some (.bool iK):=(af az.out 9).trans rfl;have akJ:JY.cell? ⟨aY,10,none⟩=some (.slice jJ eK.length jK):=(af az.out 10).trans rfl;have akK:JY.cell? ⟨aY,11,none⟩=some (.slice jL eN.length jM):=(af az.out 11).trans rfl;have akL:JY.cell? ⟨aY,12,none⟩=some (.int .i64 eY):=(af az.out 12).trans rfl;have Vy:=aa az.out 0;have Vz:=aa az.out 1;have VA:=aa az.out 2;have VB:=aa az.out 3;have VC:=aa az.out 4;have VD:=aa az.out 5;have VE:=aa az.out 6;have VF:=aa az.out 7;have VG:=aa az.out 8;have ayv:=aa az.out 9;have akM:=aa az.out 10;have akN:=aa az.out 11;have akO:=aa az.out 12)|((with_reducible refine bI (N:=9) rfl ?_);refine Kd.kZ (Kd.int .i64) _ 3 ?hg (N:=9) ?hd (xs:=([b7,cD,bM]:List Int)) (inner:=[.int .i64 b7,.int .i64 cD,.int .i64 bM]) (ok:=fun _ =>True) (oQ:=fun _ =>True) ?hr ?hp (fun _ hk=>hk) trivial (Below.refl _ _) (Nat.le_refl _) cO ?_;(case hd=>rfl);(case hg=>rfl);(case hr=>(go_simp;done));(case hp=>exact (dn.one (show Kd.M (Kd.int .i64) _ _ _ b7 [.int .i64 b7] from rfl) (dn.one (show Kd.M (Kd.int .i64) _ _ _ cD [.int .i64 cD] from rfl) (dn.one (show Kd.M (Kd.int .i64) _ _ _ bM [.int .i64 bM] from rfl) (dn.none _ _)))));intro Kf sJ aeF hb qc fV;clear qc fV;(rw [← zY.out] at aeF);have iO:=ah.mk (Kd.cN aeF (bL aD));replace az:=ah.mk (aC nC hb);replace HB:=ah.mk (aA aD hb);clear hb aeF;obtain ⟨aCY,aCZ,aC0⟩:=Kd.cM iO.out;subst aC0)|((with_reducible refine bq (f:=102) rfl ?_);refine cK (some 10) rfl rfl Tryz.func102 aR rfl #[.slice aCY vo.length aCZ] rfl dc ?_;(with_reducible refine (cV.calls k _ _ vo true _ ?aX ?bF A2.out).mono ?_);(case aX=>repeat (exact (Kd.aZ iO.out).2.2));(case bF=>exact (Kd.aZ iO.out).2.1);rintro e w' ⟨rfl,⟨nd,rfl⟩⟩;refine ⟨_,rfl,?_⟩;have Lu:sJ.cell? ⟨aY,0,none⟩=some (.int .u8 bB):=(af az.out 0).trans rfl;have Lv:sJ.cell? ⟨aY,1,none⟩=some (.int .i64 b7):=(af az.out 1).trans rfl;have Lx:sJ.cell? ⟨aY,2,none⟩=some (.int .i64 cD):=(af az.out 2).trans rfl;have Lz:sJ.cell? ⟨aY,3,none⟩=some (.int .i64 bM):=(af az.out 3).trans rfl;have LA:sJ.cell? ⟨aY,4,none⟩=some (.int .i64 bS):=(af az.out 4).trans rfl;have LB:sJ.cell? ⟨aY,5,none⟩=some (.bool cr):=(af az.out 5).trans rfl;have LC:sJ.cell? ⟨aY,6,none⟩=some (.slice dL cw.length dM):=(af az.out 6).trans rfl;have LD:sJ.cell? ⟨aY,7,none⟩=some (.string iJ):=(af az.out 7).trans rfl;have LF:sJ.cell? ⟨aY,8,none⟩=some (.string cx):=(af az.out 8).trans rfl;have ayw:sJ.cell? ⟨aY,9,none⟩=some (.bool iK):=(af az.out 9).trans rfl;have akP:sJ.cell? ⟨aY,10,none⟩=some (.slice jJ eK.length jK):=(af az.out 10).trans rfl;have akQ:sJ.cell? ⟨aY,11,none⟩=some (.slice jL eN.length jM):=(af az.out 11).trans rfl;have akR:sJ.cell? ⟨aY,12,none⟩=some (.int .i64 eY):=(af az.out 12).trans rfl;have LG:=aa az.out 0;have LH:=aa az.out 1;have LI:=aa az.out 2;have LJ:=aa az.out 3;have LK:=aa az.out 4;have LL:=aa az.out 5;have LM:=aa az.out 6;have LN:=aa az.out 7;have LO:=aa az.out 8;have ayx:=aa az.out 9;have akS:=aa az.out 10;have akT:=aa az.out 11;have akU:=aa az.out 12))
    go_ret
    exact ⟨by rfl,dG⟩
  ·rw [if_neg c4] at H
   have oU:=beq_eq_false_iff_ne.mpr c4
   have Bl:=bne_iff_ne.mpr c4
   by_cases c20:bB=5
   ·rw [if_pos c20] at H
    have NC:=beq_iff_eq.mpr c20
    have ND:=bne_eq_false_iff_eq.mpr c20
    clear c20
    by_cases c21:(wrap64 (cD + bM))=0
    ·rw [if_pos c21] at H
     have akV:=beq_iff_eq.mpr c21
     have akW:=bne_eq_false_iff_eq.mpr c21
     clear c21
     obtain ⟨t243,A22,H⟩:=bd_ H
     by_cases c23:t243=true
     ·subst c23
      rw [if_pos rfl] at H
      obtain rfl:=Option.some.inj H
      go_enter Tryz.func58,Tryz.ntmps58
      go_wp2_with (first|((with_reducible refine bI (N:=1) rfl ?_);refine bR ?hg (N:=1) ?hd (cs:=#[.int .u8 bB,.int .i64 b7,.int .i64 cD,.int .i64 bM,.int .i64 bS,.bool cr,.slice dL cw.length dM,.string iJ,.string cx,.bool iK,.slice jJ eK.length jK,.slice jL eN.length jM,.int .i64 eY]) (t:=46) ?hr ?_;(case hd=>rfl);(case hg=>rfl);(case hr=>(go_simp;done));intro aY hg pM b9 hb;have az:=ah.mk (b9);have BG:=ah.mk ((bZ:w.heap.size≤aY));have BH:=ah.mk ((bZ:w.heap.size≤aY));replace HB:=ah.mk (aA aD hb);clear hb b9 hg;have Ak:pM.cell? ⟨aY,0,none⟩=some (.int .u8 bB):=(af az.out 0).trans rfl;have Al:pM.cell? ⟨aY,1,none⟩=some (.int .i64 b7):=(af az.out 1).trans rfl;have Am:pM.cell? ⟨aY,2,none⟩=some (.int .i64 cD):=(af az.out 2).trans rfl;have Dz:pM.cell? ⟨aY,3,none⟩=some (.int .i64 bM):=(af az.out 3).trans rfl;have DA:pM.cell? ⟨aY,4,none⟩=some (.int .i64 bS):=(af az.out 4).trans rfl;have LW:pM.cell? ⟨aY,5,none⟩=some (.bool cr):=(af az.out 5).trans rfl;have LX:pM.cell? ⟨aY,6,none⟩=some (.slice dL cw.length dM):=(af az.out 6).trans rfl;have LY:pM.cell? ⟨aY,7,none⟩=some (.string iJ):=(af az.out 7).trans rfl;have LZ:pM.cell? ⟨aY,8,none⟩=some (.string cx):=(af az.out 8).trans rfl;have ayz:pM.cell? ⟨aY,9,none⟩=some (.bool iK):=(af az.out 9).trans rfl;have akX:pM.cell? ⟨aY,10,none⟩=some (.slice jJ eK.length jK):=(af az.out 10).trans rfl;have akY:pM.cell? ⟨aY,11,none⟩=some (.slice jL eN.length jM):=(af az.out 11).trans rfl;have akZ:pM.cell? ⟨aY,12,none⟩=some (.int .i64 eY):=(af az.out 12).trans rfl;have Ao:=aa az.out 0;have Ap:=aa az.out 1;have Aq:=aa az.out 2;have DB:=aa az.out 3;have DC:=aa az.out 4;have L1:=aa az.out 5;have L3:=aa az.out 6;have L4:=aa az.out 7;have L5:=aa az.out 8;have ayA:=aa az.out 9;have ak0:=aa az.out 10;have ak1:=aa az.out 11;have ak2:=aa az.out 12)|((with_reducible refine bI (N:=9) rfl ?_);refine Kd.kZ (Kd.int .i64) _ 3 ?hg (N:=9) ?hd (xs:=([b7,cD,bM]:List Int)) (inner:=[.int .i64 b7,.int .i64 cD,.int .i64 bM]) (ok:=fun _ =>True) (oQ:=fun _ =>True) ?hr ?hp (fun _ hk=>hk) trivial (Below.refl _ _) (Nat.le_refl _) cO ?_;(case hd=>rfl);(case hg=>rfl);(case hr=>(go_simp;done));(case hp=>exact (dn.one (show Kd.M (Kd.int .i64) _ _ _ b7 [.int .i64 b7] from rfl) (dn.one (show Kd.M (Kd.int .i64) _ _ _ cD [.int .i64 cD] from rfl) (dn.one (show Kd.M (Kd.int .i64) _ _ _ bM [.int .i64 bM] from rfl) (dn.none _ _)))));intro Kf I8 aeG hb qc fV;clear qc fV;(rw [← zY.out] at aeG);have iO:=ah.mk (Kd.cN aeG (bL aD));replace az:=ah.mk (aC nC hb);replace HB:=ah.mk (aA aD hb);clear hb aeG;obtain ⟨Zn,Zo,adW⟩:=Kd.cM iO.out;subst adW)|((with_reducible refine bq (f:=102) rfl ?_);refine cK (some 10) rfl rfl Tryz.func102 aR rfl #[.slice Zn vo.length Zo] rfl dc ?_;(with_reducible refine (cV.calls k _ _ vo true _ ?aX ?bF A2.out).mono ?_);(case aX=>repeat (exact (Kd.aZ iO.out).2.2));(case bF=>exact (Kd.aZ iO.out).2.1);rintro e w' ⟨rfl,⟨nd,rfl⟩⟩;refine ⟨_,rfl,?_⟩;have Mo:I8.cell? ⟨aY,0,none⟩=some (.int .u8 bB):=(af az.out 0).trans rfl;have Mq:I8.cell? ⟨aY,1,none⟩=some (.int .i64 b7):=(af az.out 1).trans rfl;have Mr:I8.cell? ⟨aY,2,none⟩=some (.int .i64 cD):=(af az.out 2).trans rfl;have Wk:I8.cell? ⟨aY,3,none⟩=some (.int .i64 bM):=(af az.out 3).trans rfl;have Wl:I8.cell? ⟨aY,4,none⟩=some (.int .i64 bS):=(af az.out 4).trans rfl;have Wm:I8.cell? ⟨aY,5,none⟩=some (.bool cr):=(af az.out 5).trans rfl;have Wn:I8.cell? ⟨aY,6,none⟩=some (.slice dL cw.length dM):=(af az.out 6).trans rfl;have Wo:I8.cell? ⟨aY,7,none⟩=some (.string iJ):=(af az.out 7).trans rfl;have Wp:I8.cell? ⟨aY,8,none⟩=some (.string cx):=(af az.out 8).trans rfl;have ayB:I8.cell? ⟨aY,9,none⟩=some (.bool iK):=(af az.out 9).trans rfl;have ak3:I8.cell? ⟨aY,10,none⟩=some (.slice jJ eK.length jK):=(af az.out 10).trans rfl;have ak4:I8.cell? ⟨aY,11,none⟩=some (.slice jL eN.length jM):=(af az.out 11).trans rfl;have ak5:I8.cell? ⟨aY,12,none⟩=some (.int .i64 eY):=(af az.out 12).trans rfl;have Ms:=aa az.out 0;have Mt:=aa az.out 1;have Mu:=aa az.out 2;have Wq:=aa az.out 3;have Ws:=aa az.out 4;have Wt:=aa az.out 5;have Wu:=aa az.out 6;have Wv:=aa az.out 7;have Ww:=aa az.out 8;have ayC:=aa az.out 9;have ak6:=aa az.out 10;have ak7:=aa az.out 11;have ak8:=aa az.out 12)|(go_at_call 63;(with_reducible refine (eB.calls bS cr _ _ cw iJ cx iK _ _ eK _ _ eN eY true _ ?aX ?bF ?dU ?jt ?ju ?jv A22.out).mono ?_);(case aX=>repeat (exact (Kd.bG sN.out dG)));(case bF=>exact sO.out);(case dU=>repeat (exact (Kd.bG xg.out dG)));(case jt=>exact xh.out);(case ju=>repeat (exact (Kd.bG xj.out dG)));(case jv=>exact xk.out);rintro e xp ⟨rfl,hb⟩;replace iO:=ah.mk (Kd.aM Ag hb);replace az:=ah.mk (aC nC hb);replace HB:=ah.mk (aA dG hb);(try clear hb)))
      go_ret
      exact ⟨by rfl,aD⟩
     ·replace c23:=Bool.eq_false_iff.mpr c23
      subst c23
      rw [if_neg (show ¬ (false=true) by decide)] at H
      obtain ⟨t244,A31,H⟩:=bd_ H
      obtain rfl:=Option.some.inj H
      go_enter Tryz.func58,Tryz.ntmps58
      go_wp2_with (first|((with_reducible refine bI (N:=1) rfl ?_);refine bR ?hg (N:=1) ?hd (cs:=#[.int .u8 bB,.int .i64 b7,.int .i64 cD,.int .i64 bM,.int .i64 bS,.bool cr,.slice dL cw.length dM,.string iJ,.string cx,.bool iK,.slice jJ eK.length jK,.slice jL eN.length jM,.int .i64 eY]) (t:=46) ?hr ?_;(case hd=>rfl);(case hg=>rfl);(case hr=>(go_simp;done));intro aY hg mO b9 hb;have az:=ah.mk (b9);have BG:=ah.mk ((bZ:w.heap.size≤aY));have BH:=ah.mk ((bZ:w.heap.size≤aY));replace HB:=ah.mk (aA aD hb);clear hb b9 hg;have DV:mO.cell? ⟨aY,0,none⟩=some (.int .u8 bB):=(af az.out 0).trans rfl;have DW:mO.cell? ⟨aY,1,none⟩=some (.int .i64 b7):=(af az.out 1).trans rfl;have DX:mO.cell? ⟨aY,2,none⟩=some (.int .i64 cD):=(af az.out 2).trans rfl;have DY:mO.cell? ⟨aY,3,none⟩=some (.int .i64 bM):=(af az.out 3).trans rfl;have DZ:mO.cell? ⟨aY,4,none⟩=some (.int .i64 bS):=(af az.out 4).trans rfl;have D2:mO.cell? ⟨aY,5,none⟩=some (.bool cr):=(af az.out 5).trans rfl;have D3:mO.cell? ⟨aY,6,none⟩=some (.slice dL cw.length dM):=(af az.out 6).trans rfl;have D4:mO.cell? ⟨aY,7,none⟩=some (.string iJ):=(af az.out 7).trans rfl;have D5:mO.cell? ⟨aY,8,none⟩=some (.string cx):=(af az.out 8).trans rfl;have Wx:mO.cell? ⟨aY,9,none⟩=some (.bool iK):=(af az.out 9).trans rfl;have Rf:mO.cell? ⟨aY,10,none⟩=some (.slice jJ eK.length jK):=(af az.out 10).trans rfl;have Rg:mO.cell? ⟨aY,11,none⟩=some (.slice jL eN.length jM):=(af az.out 11).trans rfl;have Rh:mO.cell? ⟨aY,12,none⟩=some (.int .i64 eY):=(af az.out 12).trans rfl;have D6:=aa az.out 0;have D7:=aa az.out 1;have D8:=aa az.out 2;have D9:=aa az.out 3;have Ea:=aa az.out 4;have Eb:=aa az.out 5;have Ec:=aa az.out 6;have Ed:=aa az.out 7;have Ee:=aa az.out 8;have Wy:=aa az.out 9;have Ri:=aa az.out 10;have Rj:=aa az.out 11;have Rk:=aa az.out 12)|((with_reducible refine bI (N:=9) rfl ?_);refine Kd.kZ (Kd.int .i64) _ 3 ?hg (N:=9) ?hd (xs:=([b7,cD,bM]:List Int)) (inner:=[.int .i64 b7,.int .i64 cD,.int .i64 bM]) (ok:=fun _ =>True) (oQ:=fun _ =>True) ?hr ?hp (fun _ hk=>hk) trivial (Below.refl _ _) (Nat.le_refl _) cO ?_;(case hd=>rfl);(case hg=>rfl);(case hr=>(go_simp;done));(case hp=>exact (dn.one (show Kd.M (Kd.int .i64) _ _ _ b7 [.int .i64 b7] from rfl) (dn.one (show Kd.M (Kd.int .i64) _ _ _ cD [.int .i64 cD] from rfl) (dn.one (show Kd.M (Kd.int .i64) _ _ _ bM [.int .i64 bM] from rfl) (dn.none _ _)))));intro Kf BB Ka hb qc fV;clear qc fV;(rw [← zY.out] at Ka);have iO:=ah.mk (Kd.cN Ka (bL aD));replace az:=ah.mk (aC nC hb);replace HB:=ah.mk (aA aD hb);clear hb Ka;obtain ⟨ajx,ajy,aew⟩:=Kd.cM iO.out;subst aew)|((with_reducible refine bq (f:=102) rfl ?_);refine cK (some 10) rfl rfl Tryz.func102 aR rfl #[.slice ajx vo.length ajy] rfl dc ?_;(with_reducible refine (cV.calls k _ _ vo true _ ?aX ?bF A2.out).mono ?_);(case aX=>repeat (exact (Kd.aZ iO.out).2.2));(case bF=>exact (Kd.aZ iO.out).2.1);rintro e w' ⟨rfl,⟨nd,rfl⟩⟩;refine ⟨_,rfl,?_⟩;have Ar:BB.cell? ⟨aY,0,none⟩=some (.int .u8 bB):=(af az.out 0).trans rfl;have Au:BB.cell? ⟨aY,1,none⟩=some (.int .i64 b7):=(af az.out 1).trans rfl;have Aw:BB.cell? ⟨aY,2,none⟩=some (.int .i64 cD):=(af az.out 2).trans rfl;have DD:BB.cell? ⟨aY,3,none⟩=some (.int .i64 bM):=(af az.out 3).trans rfl;have DF:BB.cell? ⟨aY,4,none⟩=some (.int .i64 bS):=(af az.out 4).trans rfl;have DG:BB.cell? ⟨aY,5,none⟩=some (.bool cr):=(af az.out 5).trans rfl;have DI:BB.cell? ⟨aY,6,none⟩=some (.slice dL cw.length dM):=(af az.out 6).trans rfl;have DJ:BB.cell? ⟨aY,7,none⟩=some (.string iJ):=(af az.out 7).trans rfl;have DK:BB.cell? ⟨aY,8,none⟩=some (.string cx):=(af az.out 8).trans rfl;have ayD:BB.cell? ⟨aY,9,none⟩=some (.bool iK):=(af az.out 9).trans rfl;have ak9:BB.cell? ⟨aY,10,none⟩=some (.slice jJ eK.length jK):=(af az.out 10).trans rfl;have ala:BB.cell? ⟨aY,11,none⟩=some (.slice jL eN.length jM):=(af az.out 11).trans rfl;have alb:BB.cell? ⟨aY,12,none⟩=some (.int .i64 eY):=(af az.out 12).trans rfl;have Ax:=aa az.out 0;have Ay:=aa az.out 1;have Az:=aa az.out 2;have DL:=aa az.out 3;have DM:=aa az.out 4;have DN:=aa az.out 5;have DR:=aa az.out 6;have DT:=aa az.out 7;have DU:=aa az.out 8;have ayE:=aa az.out 9;have alc:=aa az.out 10;have ald:=aa az.out 11;have ale:=aa az.out 12)|(go_at_call 63;(with_reducible refine (eB.calls bS cr _ _ cw iJ cx iK _ _ eK _ _ eN eY false _ ?aX ?bF ?dU ?jt ?ju ?jv A22.out).mono ?_);(case aX=>repeat (exact (Kd.bG sN.out dG)));(case bF=>exact sO.out);(case dU=>repeat (exact (Kd.bG xg.out dG)));(case jt=>exact xh.out);(case ju=>repeat (exact (Kd.bG xj.out dG)));(case jv=>exact xk.out);rintro e pY ⟨rfl,hb⟩;replace iO:=ah.mk (Kd.aM Ag hb);replace az:=ah.mk (aC nC hb);replace HB:=ah.mk (aA dG hb);(try clear hb);have NZ:pY.cell? ⟨aY,0,none⟩=some (.int .u8 bB):=(af az.out 0).trans rfl;have N0:pY.cell? ⟨aY,1,none⟩=some (.int .i64 b7):=(af az.out 1).trans rfl;have N1:pY.cell? ⟨aY,2,none⟩=some (.int .i64 cD):=(af az.out 2).trans rfl;have ZT:pY.cell? ⟨aY,3,none⟩=some (.int .i64 bM):=(af az.out 3).trans rfl;have ZU:pY.cell? ⟨aY,4,none⟩=some (.int .i64 bS):=(af az.out 4).trans rfl;have ZV:pY.cell? ⟨aY,5,none⟩=some (.bool cr):=(af az.out 5).trans rfl;have ZW:pY.cell? ⟨aY,6,none⟩=some (.slice dL cw.length dM):=(af az.out 6).trans rfl;have ZX:pY.cell? ⟨aY,7,none⟩=some (.string iJ):=(af az.out 7).trans rfl;have ZY:pY.cell? ⟨aY,8,none⟩=some (.string cx):=(af az.out 8).trans rfl;have ayF:pY.cell? ⟨aY,9,none⟩=some (.bool iK):=(af az.out 9).trans rfl;have alf:pY.cell? ⟨aY,10,none⟩=some (.slice jJ eK.length jK):=(af az.out 10).trans rfl;have alg:pY.cell? ⟨aY,11,none⟩=some (.slice jL eN.length jM):=(af az.out 11).trans rfl;have alh:pY.cell? ⟨aY,12,none⟩=some (.int .i64 eY):=(af az.out 12).trans rfl;have N2:=aa az.out 0;have N3:=aa az.out 1;have N4:=aa az.out 2;have ZZ:=aa az.out 3;have Z0:=aa az.out 4;have Z1:=aa az.out 5;have Z2:=aa az.out 6;have Z3:=aa az.out 7;have Z4:=aa az.out 8;have ayG:=aa az.out 9;have ali:=aa az.out 10;have alj:=aa az.out 11;have alk:=aa az.out 12)|(go_at_call 71;(with_reducible refine (jq.calls k bS cr _ _ cw iJ cx iK _ _ eK _ _ eN eY t244 _ ?aX ?bF ?dU ?jt ?ju ?jv ?pP A31.out).mono ?_);(case aX=>repeat (exact (Kd.bG sN.out HB.out)));(case bF=>exact sO.out);(case dU=>repeat (exact (Kd.bG xg.out HB.out)));(case jt=>exact xh.out);(case ju=>repeat (exact (Kd.bG xj.out HB.out)));(case jv=>exact xk.out);(case pP=>exact bp.below HG.out aD);rintro e w40 ⟨rfl,hb⟩;replace iO:=ah.mk (Kd.aM (by exact iO.out) hb);replace az:=ah.mk (aC nC hb);replace HB:=ah.mk (aA aD hb);(try clear hb)))
      go_ret
      exact ⟨by rfl,aD⟩
    ·rw [if_neg c21] at H
     have akV:=beq_eq_false_iff_ne.mpr c21
     have akW:=bne_iff_ne.mpr c21
     obtain rfl:=Option.some.inj H
     go_enter Tryz.func58,Tryz.ntmps58
     go_wp2_with (first|((with_reducible refine bI (N:=1) rfl ?_);refine bR ?hg (N:=1) ?hd (cs:=#[.int .u8 bB,.int .i64 b7,.int .i64 cD,.int .i64 bM,.int .i64 bS,.bool cr,.slice dL cw.length dM,.string iJ,.string cx,.bool iK,.slice jJ eK.length jK,.slice jL eN.length jM,.int .i64 eY]) (t:=46) ?hr ?_;(case hd=>rfl);(case hg=>rfl);(case hr=>(go_simp;done));intro aY hg BC b9 hb;have az:=ah.mk (b9);have BG:=ah.mk ((bZ:w.heap.size≤aY));have BH:=ah.mk ((bZ:w.heap.size≤aY));replace HB:=ah.mk (aA aD hb);clear hb b9 hg;have Mv:BC.cell? ⟨aY,0,none⟩=some (.int .u8 bB):=(af az.out 0).trans rfl;have Mw:BC.cell? ⟨aY,1,none⟩=some (.int .i64 b7):=(af az.out 1).trans rfl;have Mx:BC.cell? ⟨aY,2,none⟩=some (.int .i64 cD):=(af az.out 2).trans rfl;have My:BC.cell? ⟨aY,3,none⟩=some (.int .i64 bM):=(af az.out 3).trans rfl;have Mz:BC.cell? ⟨aY,4,none⟩=some (.int .i64 bS):=(af az.out 4).trans rfl;have MA:BC.cell? ⟨aY,5,none⟩=some (.bool cr):=(af az.out 5).trans rfl;have MB:BC.cell? ⟨aY,6,none⟩=some (.slice dL cw.length dM):=(af az.out 6).trans rfl;have MC:BC.cell? ⟨aY,7,none⟩=some (.string iJ):=(af az.out 7).trans rfl;have MD:BC.cell? ⟨aY,8,none⟩=some (.string cx):=(af az.out 8).trans rfl;have WV:BC.cell? ⟨aY,9,none⟩=some (.bool iK):=(af az.out 9).trans rfl;have Rs:BC.cell? ⟨aY,10,none⟩=some (.slice jJ eK.length jK):=(af az.out 10).trans rfl;have Ru:BC.cell? ⟨aY,11,none⟩=some (.slice jL eN.length jM):=(af az.out 11).trans rfl;have Rv:BC.cell? ⟨aY,12,none⟩=some (.int .i64 eY):=(af az.out 12).trans rfl;have ME:=aa az.out 0;have MF:=aa az.out 1;have MG:=aa az.out 2;have MH:=aa az.out 3;have MI:=aa az.out 4;have MJ:=aa az.out 5;have MK:=aa az.out 6;have ML:=aa az.out 7;have MM:=aa az.out 8;have WW:=aa az.out 9;have Rw:=aa az.out 10;have Rx:=aa az.out 11;have Ry:=aa az.out 12)|((with_reducible refine bI (N:=9) rfl ?_);refine Kd.kZ (Kd.int .i64) _ 3 ?hg (N:=9) ?hd (xs:=([b7,cD,bM]:List Int)) (inner:=[.int .i64 b7,.int .i64 cD,.int .i64 bM]) (ok:=fun _ =>True) (oQ:=fun _ =>True) ?hr ?hp (fun _ hk=>hk) trivial (Below.refl _ _) (Nat.le_refl _) cO ?_;(case hd=>rfl);(case hg=>rfl);(case hr=>(go_simp;done));(case hp=>exact (dn.one (show Kd.M (Kd.int .i64) _ _ _ b7 [.int .i64 b7] from rfl) (dn.one (show Kd.M (Kd.int .i64) _ _ _ cD [.int .i64 cD] from rfl) (dn.one (show Kd.M (Kd.int .i64) _ _ _ bM [.int .i64 bM] from rfl) (dn.none _ _)))));intro Kf BD Kb hb qc fV;clear qc fV;(rw [← zY.out] at Kb);have iO:=ah.mk (Kd.cN Kb (bL aD));replace az:=ah.mk (aC nC hb);replace HB:=ah.mk (aA aD hb);clear hb Kb;obtain ⟨ajz,ajA,aex⟩:=Kd.cM iO.out;subst aex)|((with_reducible refine bq (f:=102) rfl ?_);refine cK (some 10) rfl rfl Tryz.func102 aR rfl #[.slice ajz vo.length ajA] rfl dc ?_;(with_reducible refine (cV.calls k _ _ vo true _ ?aX ?bF A2.out).mono ?_);(case aX=>repeat (exact (Kd.aZ iO.out).2.2));(case bF=>exact (Kd.aZ iO.out).2.1);rintro e w' ⟨rfl,⟨nd,rfl⟩⟩;refine ⟨_,rfl,?_⟩;have EZ:BD.cell? ⟨aY,0,none⟩=some (.int .u8 bB):=(af az.out 0).trans rfl;have E0:BD.cell? ⟨aY,1,none⟩=some (.int .i64 b7):=(af az.out 1).trans rfl;have E1:BD.cell? ⟨aY,2,none⟩=some (.int .i64 cD):=(af az.out 2).trans rfl;have E2:BD.cell? ⟨aY,3,none⟩=some (.int .i64 bM):=(af az.out 3).trans rfl;have E3:BD.cell? ⟨aY,4,none⟩=some (.int .i64 bS):=(af az.out 4).trans rfl;have E4:BD.cell? ⟨aY,5,none⟩=some (.bool cr):=(af az.out 5).trans rfl;have E5:BD.cell? ⟨aY,6,none⟩=some (.slice dL cw.length dM):=(af az.out 6).trans rfl;have E6:BD.cell? ⟨aY,7,none⟩=some (.string iJ):=(af az.out 7).trans rfl;have E7:BD.cell? ⟨aY,8,none⟩=some (.string cx):=(af az.out 8).trans rfl;have ayH:BD.cell? ⟨aY,9,none⟩=some (.bool iK):=(af az.out 9).trans rfl;have alm:BD.cell? ⟨aY,10,none⟩=some (.slice jJ eK.length jK):=(af az.out 10).trans rfl;have aln:BD.cell? ⟨aY,11,none⟩=some (.slice jL eN.length jM):=(af az.out 11).trans rfl;have alo:BD.cell? ⟨aY,12,none⟩=some (.int .i64 eY):=(af az.out 12).trans rfl;have E8:=aa az.out 0;have E9:=aa az.out 1;have Fa:=aa az.out 2;have Fb:=aa az.out 3;have Fe:=aa az.out 4;have Ff:=aa az.out 5;have Fg:=aa az.out 6;have Fh:=aa az.out 7;have Fi:=aa az.out 8;have ayI:=aa az.out 9;have alp:=aa az.out 10;have alq:=aa az.out 11;have alr:=aa az.out 12))
     go_ret
     exact ⟨by rfl,dG⟩
   ·rw [if_neg c20] at H
    have NC:=beq_eq_false_iff_ne.mpr c20
    have ND:=bne_iff_ne.mpr c20
    by_cases Ic:bB=2
    ·rw [if_pos Ic] at H
     have MN:=beq_iff_eq.mpr Ic
     have als:=bne_eq_false_iff_eq.mpr Ic
     clear Ic
     obtain ⟨t245,A48,H⟩:=bd_ H
     obtain rfl:=Option.some.inj H
     go_enter Tryz.func58,Tryz.ntmps58
     go_wp2_with (first|((with_reducible refine bI (N:=1) rfl ?_);refine bR ?hg (N:=1) ?hd (cs:=#[.int .u8 bB,.int .i64 b7,.int .i64 cD,.int .i64 bM,.int .i64 bS,.bool cr,.slice dL cw.length dM,.string iJ,.string cx,.bool iK,.slice jJ eK.length jK,.slice jL eN.length jM,.int .i64 eY]) (t:=46) ?hr ?_;(case hd=>rfl);(case hg=>rfl);(case hr=>(go_simp;done));intro aY hg BF b9 hb;have az:=ah.mk (b9);have BG:=ah.mk ((bZ:w.heap.size≤aY));have BH:=ah.mk ((bZ:w.heap.size≤aY));replace HB:=ah.mk (aA aD hb);clear hb b9 hg;have MO:BF.cell? ⟨aY,0,none⟩=some (.int .u8 bB):=(af az.out 0).trans rfl;have MP:BF.cell? ⟨aY,1,none⟩=some (.int .i64 b7):=(af az.out 1).trans rfl;have MQ:BF.cell? ⟨aY,2,none⟩=some (.int .i64 cD):=(af az.out 2).trans rfl;have MS:BF.cell? ⟨aY,3,none⟩=some (.int .i64 bM):=(af az.out 3).trans rfl;have MT:BF.cell? ⟨aY,4,none⟩=some (.int .i64 bS):=(af az.out 4).trans rfl;have MU:BF.cell? ⟨aY,5,none⟩=some (.bool cr):=(af az.out 5).trans rfl;have MV:BF.cell? ⟨aY,6,none⟩=some (.slice dL cw.length dM):=(af az.out 6).trans rfl;have MW:BF.cell? ⟨aY,7,none⟩=some (.string iJ):=(af az.out 7).trans rfl;have MX:BF.cell? ⟨aY,8,none⟩=some (.string cx):=(af az.out 8).trans rfl;have ayJ:BF.cell? ⟨aY,9,none⟩=some (.bool iK):=(af az.out 9).trans rfl;have alu:BF.cell? ⟨aY,10,none⟩=some (.slice jJ eK.length jK):=(af az.out 10).trans rfl;have alv:BF.cell? ⟨aY,11,none⟩=some (.slice jL eN.length jM):=(af az.out 11).trans rfl;have alx:BF.cell? ⟨aY,12,none⟩=some (.int .i64 eY):=(af az.out 12).trans rfl;have MZ:=aa az.out 0;have M0:=aa az.out 1;have M3:=aa az.out 2;have M4:=aa az.out 3;have M5:=aa az.out 4;have M6:=aa az.out 5;have M7:=aa az.out 6;have M8:=aa az.out 7;have M9:=aa az.out 8;have ayK:=aa az.out 9;have aly:=aa az.out 10;have alz:=aa az.out 11;have alA:=aa az.out 12)|((with_reducible refine bI (N:=9) rfl ?_);refine Kd.kZ (Kd.int .i64) _ 3 ?hg (N:=9) ?hd (xs:=([b7,cD,bM]:List Int)) (inner:=[.int .i64 b7,.int .i64 cD,.int .i64 bM]) (ok:=fun _ =>True) (oQ:=fun _ =>True) ?hr ?hp (fun _ hk=>hk) trivial (Below.refl _ _) (Nat.le_refl _) cO ?_;(case hd=>rfl);(case hg=>rfl);(case hr=>(go_simp;done));(case hp=>exact (dn.one (show Kd.M (Kd.int .i64) _ _ _ b7 [.int .i64 b7] from rfl) (dn.one (show Kd.M (Kd.int .i64) _ _ _ cD [.int .i64 cD] from rfl) (dn.one (show Kd.M (Kd.int .i64) _ _ _ bM [.int .i64 bM] from rfl) (dn.none _ _)))));intro Kf nT Ke hb qc fV;clear qc fV;(rw [← zY.out] at Ke);have iO:=ah.mk (Kd.cN Ke (bL aD));replace az:=ah.mk (aC nC hb);replace HB:=ah.mk (aA aD hb);clear hb Ke;obtain ⟨ajB,ajC,aey⟩:=Kd.cM iO.out;subst aey)|((with_reducible refine bq (f:=102) rfl ?_);refine cK (some 10) rfl rfl Tryz.func102 aR rfl #[.slice ajB vo.length ajC] rfl dc ?_;(with_reducible refine (cV.calls k _ _ vo true _ ?aX ?bF A2.out).mono ?_);(case aX=>repeat (exact (Kd.aZ iO.out).2.2));(case bF=>exact (Kd.aZ iO.out).2.1);rintro e w' ⟨rfl,⟨nd,rfl⟩⟩;refine ⟨_,rfl,?_⟩;have Ef:nT.cell? ⟨aY,0,none⟩=some (.int .u8 bB):=(af az.out 0).trans rfl;have Eg:nT.cell? ⟨aY,1,none⟩=some (.int .i64 b7):=(af az.out 1).trans rfl;have Eh:nT.cell? ⟨aY,2,none⟩=some (.int .i64 cD):=(af az.out 2).trans rfl;have Ei:nT.cell? ⟨aY,3,none⟩=some (.int .i64 bM):=(af az.out 3).trans rfl;have Ej:nT.cell? ⟨aY,4,none⟩=some (.int .i64 bS):=(af az.out 4).trans rfl;have Ek:nT.cell? ⟨aY,5,none⟩=some (.bool cr):=(af az.out 5).trans rfl;have El:nT.cell? ⟨aY,6,none⟩=some (.slice dL cw.length dM):=(af az.out 6).trans rfl;have Em:nT.cell? ⟨aY,7,none⟩=some (.string iJ):=(af az.out 7).trans rfl;have En:nT.cell? ⟨aY,8,none⟩=some (.string cx):=(af az.out 8).trans rfl;have Na:nT.cell? ⟨aY,9,none⟩=some (.bool iK):=(af az.out 9).trans rfl;have Ie:nT.cell? ⟨aY,10,none⟩=some (.slice jJ eK.length jK):=(af az.out 10).trans rfl;have Ig:nT.cell? ⟨aY,11,none⟩=some (.slice jL eN.length jM):=(af az.out 11).trans rfl;have Ih:nT.cell? ⟨aY,12,none⟩=some (.int .i64 eY):=(af az.out 12).trans rfl;have Eo:=aa az.out 0;have Ep:=aa az.out 1;have Er:=aa az.out 2;have Es:=aa az.out 3;have Et:=aa az.out 4;have Eu:=aa az.out 5;have Ew:=aa az.out 6;have Ex:=aa az.out 7;have Ey:=aa az.out 8;have Nb:=aa az.out 9;have Ii:=aa az.out 10;have Ij:=aa az.out 11;have Ik:=aa az.out 12)|((with_reducible refine bq (f:=63) rfl ?_);refine cK (some 52) rfl rfl Tryz.func63 aR rfl #[.agg #[.int .i64 bS,.bool cr,.slice dL cw.length dM,.string iJ,.string cx,.bool iK,.slice jJ eK.length jK,.slice jL eN.length jM,.int .i64 eY]] rfl dc ?_;(with_reducible refine (eB.calls bS cr _ _ cw iJ cx iK _ _ eK _ _ eN eY t245 _ ?aX ?bF ?dU ?jt ?ju ?jv A48.out).mono ?_);(case aX=>repeat (exact (Kd.bG sN.out dG)));(case bF=>exact sO.out);(case dU=>repeat (exact (Kd.bG xg.out dG)));(case jt=>exact xh.out);(case ju=>repeat (exact (Kd.bG xj.out dG)));(case jv=>exact xk.out);rintro e Ud ⟨rfl,hb⟩;refine ⟨_,rfl,?_⟩;replace iO:=ah.mk (Kd.aM Ag hb);replace az:=ah.mk (aC nC hb);replace HB:=ah.mk (aA dG hb);(try clear hb)))
     go_ret
     exact ⟨by rfl,aD⟩
    ·rw [if_neg Ic] at H
     have MN:=beq_eq_false_iff_ne.mpr Ic
     have als:=bne_iff_ne.mpr Ic
     have aeH:=ah.mk H
     clear H
     go_enter Tryz.func58,Tryz.ntmps58
     go_upto_if 53 with (first|((with_reducible refine bI (N:=1) rfl ?_);refine bR ?hg (N:=1) ?hd (cs:=#[.int .u8 bB,.int .i64 b7,.int .i64 cD,.int .i64 bM,.int .i64 bS,.bool cr,.slice dL cw.length dM,.string iJ,.string cx,.bool iK,.slice jJ eK.length jK,.slice jL eN.length jM,.int .i64 eY]) (t:=46) ?hr ?_;(case hd=>rfl);(case hg=>rfl);(case hr=>(go_simp;done));intro aY hg PI b9 hb;have az:=ah.mk (b9);have BG:=ah.mk ((bZ:w.heap.size≤aY));have BH:=ah.mk ((bZ:w.heap.size≤aY));replace HB:=ah.mk (aA aD hb);clear hb b9 hg;have WX:PI.cell? ⟨aY,0,none⟩=some (.int .u8 bB):=(af az.out 0).trans rfl;have WY:PI.cell? ⟨aY,1,none⟩=some (.int .i64 b7):=(af az.out 1).trans rfl;have WZ:PI.cell? ⟨aY,2,none⟩=some (.int .i64 cD):=(af az.out 2).trans rfl;have W4:PI.cell? ⟨aY,3,none⟩=some (.int .i64 bM):=(af az.out 3).trans rfl;have W5:PI.cell? ⟨aY,4,none⟩=some (.int .i64 bS):=(af az.out 4).trans rfl;have W6:PI.cell? ⟨aY,5,none⟩=some (.bool cr):=(af az.out 5).trans rfl;have W7:PI.cell? ⟨aY,6,none⟩=some (.slice dL cw.length dM):=(af az.out 6).trans rfl;have W8:PI.cell? ⟨aY,7,none⟩=some (.string iJ):=(af az.out 7).trans rfl;have W9:PI.cell? ⟨aY,8,none⟩=some (.string cx):=(af az.out 8).trans rfl;have Xa:PI.cell? ⟨aY,9,none⟩=some (.bool iK):=(af az.out 9).trans rfl;have RA:PI.cell? ⟨aY,10,none⟩=some (.slice jJ eK.length jK):=(af az.out 10).trans rfl;have RB:PI.cell? ⟨aY,11,none⟩=some (.slice jL eN.length jM):=(af az.out 11).trans rfl;have RD:PI.cell? ⟨aY,12,none⟩=some (.int .i64 eY):=(af az.out 12).trans rfl;have Xb:=aa az.out 0;have Xc:=aa az.out 1;have Xd:=aa az.out 2;have Xe:=aa az.out 3;have Xf:=aa az.out 4;have Xg:=aa az.out 5;have Xh:=aa az.out 6;have Xi:=aa az.out 7;have Xj:=aa az.out 8;have Xk:=aa az.out 9;have RF:=aa az.out 10;have RG:=aa az.out 11;have RH:=aa az.out 12)|((with_reducible refine bI (N:=9) rfl ?_);refine Kd.kZ (Kd.int .i64) _ 3 ?hg (N:=9) ?hd (xs:=([b7,cD,bM]:List Int)) (inner:=[.int .i64 b7,.int .i64 cD,.int .i64 bM]) (ok:=fun _ =>True) (oQ:=fun _ =>True) ?hr ?hp (fun _ hk=>hk) trivial (Below.refl _ _) (Nat.le_refl _) cO ?_;(case hd=>rfl);(case hg=>rfl);(case hr=>(go_simp;done));(case hp=>exact (dn.one (show Kd.M (Kd.int .i64) _ _ _ b7 [.int .i64 b7] from rfl) (dn.one (show Kd.M (Kd.int .i64) _ _ _ cD [.int .i64 cD] from rfl) (dn.one (show Kd.M (Kd.int .i64) _ _ _ bM [.int .i64 bM] from rfl) (dn.none _ _)))));intro Kf NG aeI hb qc fV;clear qc fV;(rw [← zY.out] at aeI);have iO:=ah.mk (Kd.cN aeI (bL aD));replace az:=ah.mk (aC nC hb);replace HB:=ah.mk (aA aD hb);clear hb aeI;obtain ⟨alB,alC,aeJ⟩:=Kd.cM iO.out;subst aeJ)|((with_reducible refine bq (f:=102) rfl ?_);refine cK (some 10) rfl rfl Tryz.func102 aR rfl #[.slice alB vo.length alC] rfl dc ?_;(with_reducible refine (cV.calls k _ _ vo true _ ?aX ?bF A2.out).mono ?_);(case aX=>repeat (exact (Kd.aZ iO.out).2.2));(case bF=>exact (Kd.aZ iO.out).2.1);rintro e w' ⟨rfl,⟨nd,rfl⟩⟩;refine ⟨_,rfl,?_⟩;have ayL:NG.cell? ⟨aY,0,none⟩=some (.int .u8 bB):=(af az.out 0).trans rfl;have ayM:NG.cell? ⟨aY,1,none⟩=some (.int .i64 b7):=(af az.out 1).trans rfl;have ayN:NG.cell? ⟨aY,2,none⟩=some (.int .i64 cD):=(af az.out 2).trans rfl;have ayO:NG.cell? ⟨aY,3,none⟩=some (.int .i64 bM):=(af az.out 3).trans rfl;have ayP:NG.cell? ⟨aY,4,none⟩=some (.int .i64 bS):=(af az.out 4).trans rfl;have ayQ:NG.cell? ⟨aY,5,none⟩=some (.bool cr):=(af az.out 5).trans rfl;have ayR:NG.cell? ⟨aY,6,none⟩=some (.slice dL cw.length dM):=(af az.out 6).trans rfl;have ayS:NG.cell? ⟨aY,7,none⟩=some (.string iJ):=(af az.out 7).trans rfl;have ayT:NG.cell? ⟨aY,8,none⟩=some (.string cx):=(af az.out 8).trans rfl;have ayU:NG.cell? ⟨aY,9,none⟩=some (.bool iK):=(af az.out 9).trans rfl;have alD:NG.cell? ⟨aY,10,none⟩=some (.slice jJ eK.length jK):=(af az.out 10).trans rfl;have alE:NG.cell? ⟨aY,11,none⟩=some (.slice jL eN.length jM):=(af az.out 11).trans rfl;have alF:NG.cell? ⟨aY,12,none⟩=some (.int .i64 eY):=(af az.out 12).trans rfl;have ayV:=aa az.out 0;have ayW:=aa az.out 1;have ayX:=aa az.out 2;have ayY:=aa az.out 3;have ayZ:=aa az.out 4;have ay0:=aa az.out 5;have ay1:=aa az.out 6;have ay2:=aa az.out 7;have ay3:=aa az.out 8;have ay4:=aa az.out 9;have alG:=aa az.out 10;have alH:=aa az.out 11;have alI:=aa az.out 12))
     go_cut [53] (fun v53 wc=>∃ (kq:Nat) (F9:Bool),v53= .bool F9∧ah (eX.j0 kq bB F9 bB b7 cD bM bS cr cw iJ cx iK eK eN eY=some r)∧ah (kq≤k)∧ah (wc.heap[aY]? =some (.cells #[.int .u8 bB,.int .i64 b7,.int .i64 cD,.int .i64 bM,.int .i64 bS,.bool cr,(.slice dL cw.length dM),.string iJ,.string cx,.bool iK,(.slice jJ eK.length jK),(.slice jL eN.length jM),.int .i64 eY] 46 (0,0)))∧ah (Below w.heap.size w wc))
     case first=>
      have H:=aeH.out
      clear aeH
      by_cases c63:bB=3
      ·rw [if_pos c63] at H
       have Ty:=beq_iff_eq.mpr c63
       have alJ:=bne_eq_false_iff_eq.mpr c63
       clear c63
       (rw [Ty])
       have H':=ah.mk H
       clear H
       go_wp2
       go_meet
       case rel=>exact ⟨_,((bB == 3)),(by (simp [*];done)),H',⟨ay⟩,⟨K1⟩,⟨dG⟩⟩
      ·rw [if_neg c63] at H
       have Ty:=beq_eq_false_iff_ne.mpr c63
       have alJ:=bne_iff_ne.mpr c63
       (rw [Ty])
       have H':=ah.mk H
       clear H
       go_wp2
       go_meet
       case rel=>exact ⟨_,((bB == 4)),(by rfl),H',⟨ay⟩,⟨K1⟩,⟨dG⟩⟩
     case rest=>
      clear aeH
      obtain ⟨kq,F9,rfl,HA,aJ1,az,HB⟩:=hcut
      cases kq with
      |zero=>exact absurd HA.out (by simp [eX.j0])
      |succ aJ2=>
       have H:=HA.out
       clear HA
       simp only [eX.j0] at H
       by_cases c64:F9=true
       ·subst c64
        rw [if_pos rfl] at H
        by_cases c65:bM=0
        ·rw [if_pos c65] at H
         have alK:=beq_iff_eq.mpr c65
         have alL:=bne_eq_false_iff_eq.mpr c65
         clear c65
         obtain ⟨t246,A66,H⟩:=bd_ H
         obtain rfl:=Option.some.inj H
         have ay6:wc.cell? ⟨aY,0,none⟩=some (.int .u8 bB):=(af az.out 0).trans rfl
         have ay7:wc.cell? ⟨aY,1,none⟩=some (.int .i64 b7):=(af az.out 1).trans rfl
         have ay8:wc.cell? ⟨aY,2,none⟩=some (.int .i64 cD):=(af az.out 2).trans rfl
         have ay9:wc.cell? ⟨aY,3,none⟩=some (.int .i64 bM):=(af az.out 3).trans rfl
         have aza:wc.cell? ⟨aY,4,none⟩=some (.int .i64 bS):=(af az.out 4).trans rfl
         have azb:wc.cell? ⟨aY,5,none⟩=some (.bool cr):=(af az.out 5).trans rfl
         have azc:wc.cell? ⟨aY,6,none⟩=some (.slice dL cw.length dM):=(af az.out 6).trans rfl
         have azd:wc.cell? ⟨aY,7,none⟩=some (.string iJ):=(af az.out 7).trans rfl
         have aze:wc.cell? ⟨aY,8,none⟩=some (.string cx):=(af az.out 8).trans rfl
         have azf:wc.cell? ⟨aY,9,none⟩=some (.bool iK):=(af az.out 9).trans rfl
         have alM:wc.cell? ⟨aY,10,none⟩=some (.slice jJ eK.length jK):=(af az.out 10).trans rfl
         have alN:wc.cell? ⟨aY,11,none⟩=some (.slice jL eN.length jM):=(af az.out 11).trans rfl
         have alO:wc.cell? ⟨aY,12,none⟩=some (.int .i64 eY):=(af az.out 12).trans rfl
         have azg:=aa az.out 0
         have azh:=aa az.out 1
         have azi:=aa az.out 2
         have azj:=aa az.out 3
         have azk:=aa az.out 4
         have azl:=aa az.out 5
         have azm:=aa az.out 6
         have azn:=aa az.out 7
         have azo:=aa az.out 8
         have azp:=aa az.out 9
         have alP:=aa az.out 10
         have alQ:=aa az.out 11
         have alR:=aa az.out 12
         go_wp2_with ((go_at_call 63;(with_reducible refine (eB.calls bS cr _ _ cw iJ cx iK _ _ eK _ _ eN eY t246 _ ?aX ?bF ?dU ?jt ?ju ?jv A66.out).mono ?_);(case aX=>repeat (exact (Kd.bG sN.out HB.out)));(case bF=>exact sO.out);(case dU=>repeat (exact (Kd.bG xg.out HB.out)));(case jt=>exact xh.out);(case ju=>repeat (exact (Kd.bG xj.out HB.out)));(case jv=>exact xk.out);rintro e w68 ⟨rfl,hb⟩;replace az:=ah.mk (aC nC hb);replace HB:=ah.mk (aA aD hb);(try clear hb)))
         go_ret
         exact ⟨by rfl,aD⟩
        ·rw [if_neg c65] at H
         have alK:=beq_eq_false_iff_ne.mpr c65
         have alL:=bne_iff_ne.mpr c65
         obtain rfl:=Option.some.inj H
         have azq:wc.cell? ⟨aY,0,none⟩=some (.int .u8 bB):=(af az.out 0).trans rfl
         have azr:wc.cell? ⟨aY,1,none⟩=some (.int .i64 b7):=(af az.out 1).trans rfl
         have azs:wc.cell? ⟨aY,2,none⟩=some (.int .i64 cD):=(af az.out 2).trans rfl
         have azt:wc.cell? ⟨aY,3,none⟩=some (.int .i64 bM):=(af az.out 3).trans rfl
         have azu:wc.cell? ⟨aY,4,none⟩=some (.int .i64 bS):=(af az.out 4).trans rfl
         have azv:wc.cell? ⟨aY,5,none⟩=some (.bool cr):=(af az.out 5).trans rfl
         have azw:wc.cell? ⟨aY,6,none⟩=some (.slice dL cw.length dM):=(af az.out 6).trans rfl
         have azx:wc.cell? ⟨aY,7,none⟩=some (.string iJ):=(af az.out 7).trans rfl
         have azy:wc.cell? ⟨aY,8,none⟩=some (.string cx):=(af az.out 8).trans rfl
         have azz:wc.cell? ⟨aY,9,none⟩=some (.bool iK):=(af az.out 9).trans rfl
         have alS:wc.cell? ⟨aY,10,none⟩=some (.slice jJ eK.length jK):=(af az.out 10).trans rfl
         have alT:wc.cell? ⟨aY,11,none⟩=some (.slice jL eN.length jM):=(af az.out 11).trans rfl
         have alU:wc.cell? ⟨aY,12,none⟩=some (.int .i64 eY):=(af az.out 12).trans rfl
         have azA:=aa az.out 0
         have azB:=aa az.out 1
         have azC:=aa az.out 2
         have azD:=aa az.out 3
         have azE:=aa az.out 4
         have azF:=aa az.out 5
         have azG:=aa az.out 6
         have azH:=aa az.out 7
         have azI:=aa az.out 8
         have azJ:=aa az.out 9
         have alV:=aa az.out 10
         have alW:=aa az.out 11
         have alX:=aa az.out 12
         go_wp2
         go_ret
         exact ⟨by rfl,aD⟩
       ·replace c64:=Bool.eq_false_iff.mpr c64
        subst c64
        rw [if_neg (show ¬ (false=true) by decide)] at H
        by_cases c70:bB=6
        ·rw [if_pos c70] at H
         have acm:=beq_iff_eq.mpr c70
         have acn:=bne_eq_false_iff_eq.mpr c70
         clear c70
         by_cases c71:(wrap64 (cD + bM))=0
         ·rw [if_pos c71] at H
          have alY:=beq_iff_eq.mpr c71
          have alZ:=bne_eq_false_iff_eq.mpr c71
          clear c71
          obtain ⟨t247,A72,H⟩:=bd_ H
          obtain rfl:=Option.some.inj H
          have Ym:wc.cell? ⟨aY,0,none⟩=some (.int .u8 bB):=(af az.out 0).trans rfl
          have Yn:wc.cell? ⟨aY,1,none⟩=some (.int .i64 b7):=(af az.out 1).trans rfl
          have Yo:wc.cell? ⟨aY,2,none⟩=some (.int .i64 cD):=(af az.out 2).trans rfl
          have Yp:wc.cell? ⟨aY,3,none⟩=some (.int .i64 bM):=(af az.out 3).trans rfl
          have Yq:wc.cell? ⟨aY,4,none⟩=some (.int .i64 bS):=(af az.out 4).trans rfl
          have Yr:wc.cell? ⟨aY,5,none⟩=some (.bool cr):=(af az.out 5).trans rfl
          have Yt:wc.cell? ⟨aY,6,none⟩=some (.slice dL cw.length dM):=(af az.out 6).trans rfl
          have Yu:wc.cell? ⟨aY,7,none⟩=some (.string iJ):=(af az.out 7).trans rfl
          have Yv:wc.cell? ⟨aY,8,none⟩=some (.string cx):=(af az.out 8).trans rfl
          have azK:wc.cell? ⟨aY,9,none⟩=some (.bool iK):=(af az.out 9).trans rfl
          have al0:wc.cell? ⟨aY,10,none⟩=some (.slice jJ eK.length jK):=(af az.out 10).trans rfl
          have al1:wc.cell? ⟨aY,11,none⟩=some (.slice jL eN.length jM):=(af az.out 11).trans rfl
          have al2:wc.cell? ⟨aY,12,none⟩=some (.int .i64 eY):=(af az.out 12).trans rfl
          have Yw:=aa az.out 0
          have Yx:=aa az.out 1
          have Yy:=aa az.out 2
          have Yz:=aa az.out 3
          have YA:=aa az.out 4
          have YB:=aa az.out 5
          have YC:=aa az.out 6
          have YD:=aa az.out 7
          have YE:=aa az.out 8
          have azL:=aa az.out 9
          have al3:=aa az.out 10
          have al4:=aa az.out 11
          have al5:=aa az.out 12
          go_wp2_with ((go_at_call 63;(with_reducible refine (eB.calls bS cr _ _ cw iJ cx iK _ _ eK _ _ eN eY t247 _ ?aX ?bF ?dU ?jt ?ju ?jv A72.out).mono ?_);(case aX=>repeat (exact (Kd.bG sN.out HB.out)));(case bF=>exact sO.out);(case dU=>repeat (exact (Kd.bG xg.out HB.out)));(case jt=>exact xh.out);(case ju=>repeat (exact (Kd.bG xj.out HB.out)));(case jv=>exact xk.out);rintro e w74 ⟨rfl,hb⟩;replace az:=ah.mk (aC nC hb);replace HB:=ah.mk (aA aD hb);(try clear hb)))
          go_ret
          exact ⟨by rfl,aD⟩
         ·rw [if_neg c71] at H
          have alY:=beq_eq_false_iff_ne.mpr c71
          have alZ:=bne_iff_ne.mpr c71
          obtain rfl:=Option.some.inj H
          have azM:wc.cell? ⟨aY,0,none⟩=some (.int .u8 bB):=(af az.out 0).trans rfl
          have azN:wc.cell? ⟨aY,1,none⟩=some (.int .i64 b7):=(af az.out 1).trans rfl
          have azO:wc.cell? ⟨aY,2,none⟩=some (.int .i64 cD):=(af az.out 2).trans rfl
          have azP:wc.cell? ⟨aY,3,none⟩=some (.int .i64 bM):=(af az.out 3).trans rfl
          have azQ:wc.cell? ⟨aY,4,none⟩=some (.int .i64 bS):=(af az.out 4).trans rfl
          have azR:wc.cell? ⟨aY,5,none⟩=some (.bool cr):=(af az.out 5).trans rfl
          have azS:wc.cell? ⟨aY,6,none⟩=some (.slice dL cw.length dM):=(af az.out 6).trans rfl
          have azT:wc.cell? ⟨aY,7,none⟩=some (.string iJ):=(af az.out 7).trans rfl
          have azU:wc.cell? ⟨aY,8,none⟩=some (.string cx):=(af az.out 8).trans rfl
          have azV:wc.cell? ⟨aY,9,none⟩=some (.bool iK):=(af az.out 9).trans rfl
          have al6:wc.cell? ⟨aY,10,none⟩=some (.slice jJ eK.length jK):=(af az.out 10).trans rfl
          have al7:wc.cell? ⟨aY,11,none⟩=some (.slice jL eN.length jM):=(af az.out 11).trans rfl
          have al8:wc.cell? ⟨aY,12,none⟩=some (.int .i64 eY):=(af az.out 12).trans rfl
          have azW:=aa az.out 0
          have azX:=aa az.out 1
          have azY:=aa az.out 2
          have azZ:=aa az.out 3
          have az0:=aa az.out 4
          have az1:=aa az.out 5
          have az2:=aa az.out 6
          have az3:=aa az.out 7
          have az4:=aa az.out 8
          have az5:=aa az.out 9
          have al9:=aa az.out 10
          have ama:=aa az.out 11
          have amb:=aa az.out 12
          go_wp2
          go_ret
          exact ⟨by rfl,aD⟩
        ·rw [if_neg c70] at H
         have acm:=beq_eq_false_iff_ne.mpr c70
         have acn:=bne_iff_ne.mpr c70
         obtain rfl:=Option.some.inj H
         go_wp2
         go_ret
         exact ⟨by rfl,aD⟩
 ·replace c3:=Bool.eq_false_iff.mpr c3
  subst c3
  rw [if_neg (show ¬ (false=true) by decide)] at H
  obtain rfl:=Option.some.inj H
  go_enter Tryz.func58,Tryz.ntmps58
  go_wp2_with (first|((with_reducible refine bI (N:=1) rfl ?_);refine bR ?hg (N:=1) ?hd (cs:=#[.int .u8 bB,.int .i64 b7,.int .i64 cD,.int .i64 bM,.int .i64 bS,.bool cr,.slice dL cw.length dM,.string iJ,.string cx,.bool iK,.slice jJ eK.length jK,.slice jL eN.length jM,.int .i64 eY]) (t:=46) ?hr ?_;(case hd=>rfl);(case hg=>rfl);(case hr=>(go_simp;done));intro aY hg PJ b9 hb;have az:=ah.mk (b9);have BG:=ah.mk ((bZ:w.heap.size≤aY));have BH:=ah.mk ((bZ:w.heap.size≤aY));replace HB:=ah.mk (aA aD hb);clear hb b9 hg;have aay:PJ.cell? ⟨aY,0,none⟩=some (.int .u8 bB):=(af az.out 0).trans rfl;have aaz:PJ.cell? ⟨aY,1,none⟩=some (.int .i64 b7):=(af az.out 1).trans rfl;have az6:PJ.cell? ⟨aY,2,none⟩=some (.int .i64 cD):=(af az.out 2).trans rfl;have az7:PJ.cell? ⟨aY,3,none⟩=some (.int .i64 bM):=(af az.out 3).trans rfl;have az8:PJ.cell? ⟨aY,4,none⟩=some (.int .i64 bS):=(af az.out 4).trans rfl;have az9:PJ.cell? ⟨aY,5,none⟩=some (.bool cr):=(af az.out 5).trans rfl;have aAa:PJ.cell? ⟨aY,6,none⟩=some (.slice dL cw.length dM):=(af az.out 6).trans rfl;have aAb:PJ.cell? ⟨aY,7,none⟩=some (.string iJ):=(af az.out 7).trans rfl;have aAc:PJ.cell? ⟨aY,8,none⟩=some (.string cx):=(af az.out 8).trans rfl;have aAd:PJ.cell? ⟨aY,9,none⟩=some (.bool iK):=(af az.out 9).trans rfl;have amc:PJ.cell? ⟨aY,10,none⟩=some (.slice jJ eK.length jK):=(af az.out 10).trans rfl;have amd:PJ.cell? ⟨aY,11,none⟩=some (.slice jL eN.length jM):=(af az.out 11).trans rfl;have ame:PJ.cell? ⟨aY,12,none⟩=some (.int .i64 eY):=(af az.out 12).trans rfl;have aaA:=aa az.out 0;have aaB:=aa az.out 1;have aAe:=aa az.out 2;have aAf:=aa az.out 3;have aAg:=aa az.out 4;have aAh:=aa az.out 5;have aAi:=aa az.out 6;have aAj:=aa az.out 7;have aAk:=aa az.out 8;have aAl:=aa az.out 9;have amf:=aa az.out 10;have amg:=aa az.out 11;have amh:=aa az.out 12)|((with_reducible refine bI (N:=9) rfl ?_);refine Kd.kZ (Kd.int .i64) _ 3 ?hg (N:=9) ?hd (xs:=([b7,cD,bM]:List Int)) (inner:=[.int .i64 b7,.int .i64 cD,.int .i64 bM]) (ok:=fun _ =>True) (oQ:=fun _ =>True) ?hr ?hp (fun _ hk=>hk) trivial (Below.refl _ _) (Nat.le_refl _) cO ?_;(case hd=>rfl);(case hg=>rfl);(case hr=>(go_simp;done));(case hp=>exact (dn.one (show Kd.M (Kd.int .i64) _ _ _ b7 [.int .i64 b7] from rfl) (dn.one (show Kd.M (Kd.int .i64) _ _ _ cD [.int .i64 cD] from rfl) (dn.one (show Kd.M (Kd.int .i64) _ _ _ bM [.int .i64 bM] from rfl) (dn.none _ _)))));intro Kf Ue aeN hb qc fV;clear qc fV;(rw [← zY.out] at aeN);have iO:=ah.mk (Kd.cN aeN (bL aD));replace az:=ah.mk (aC nC hb);replace HB:=ah.mk (aA aD hb);clear hb aeN;obtain ⟨aC1,aC2,aC3⟩:=Kd.cM iO.out;subst aC3)|((with_reducible refine bq (f:=102) rfl ?_);refine cK (some 10) rfl rfl Tryz.func102 aR rfl #[.slice aC1 vo.length aC2] rfl dc ?_;(with_reducible refine (cV.calls k _ _ vo false _ ?aX ?bF A2.out).mono ?_);(case aX=>repeat (exact (Kd.aZ iO.out).2.2));(case bF=>exact (Kd.aZ iO.out).2.1);rintro e w' ⟨rfl,⟨nd,rfl⟩⟩;refine ⟨_,rfl,?_⟩))
  go_ret
  exact ⟨by rfl,dG⟩
end Go.Proofs.YtbjjaaodfbjkfaaGreatDoor.qb
