import Derived.Test.YtokpnfljjjjikaaGreatDoorQPtx11
set_option maxHeartbeats 8000000
set_option maxRecDepth 100000
namespace Go.Proofs.YtokpnfljjjjikaaGreatDoor.lO
open Go.RowKit Go.Proofs.YtokpnfljjjjikaaGreatDoor.sL Go.Proofs.aj.bw Go.Proofs.aj.eU Go.Proofs.aj.cj
attribute [local go_sem] gL gM iL iM fZ gf gP gQ
set_option linter.unusedVariables false
set_option linter.unusedSimpArgs false
attribute [local go_sem high] NI
def gU.f (k:Nat) (a0:ByteArray):Option (Bool):=(iT.f k a0).bind fun Ju=>(some (!Ju))
theorem gU.calls (k:Nat) (a0:ByteArray) (r:Bool) (w:World) (hG:aQ w) (h:gU.f k a0=some r):
 Calls Tryz.prog 64 #[.string a0] w fun e w'=>e= .returned (.bool r)∧Below w.heap.size w w':=by
 have HB:=af.mk (Below.refl w.heap.size w)
 have HG:=af.mk hG
 clear hG
 have H:((iT.f k a0).bind fun Ju=>(some (!Ju)))=some r:=h
 clear h
 obtain ⟨Ju,A2,H⟩:=bd_ H
 obtain rfl:=Option.some.inj H
 go_enter Tryz.func64,Tryz.ntmps64
 go_wp2_with (first|((with_reducible refine aU (f:=65) rfl ?_);refine bY (some 4) rfl rfl Tryz.func65 ay rfl #[.string a0] rfl cr ?_;(with_reducible refine (iT.calls k a0 Ju _ ?aX A2.out).mono ?_);(case aX=>exact aQ.below HG.out bS);rintro e w3 ⟨rfl,hb⟩;refine ⟨_,rfl,?_⟩;replace HB:=af.mk (aH bS hb);(try clear hb)))
 go_ret
 exact ⟨cM,bS⟩
def bp.l0:Nat→List ByteArray→Int→Int→Option (Int)
 | 0,_,_,_ =>none
 |k + 1,x0,x7,x8=>if x8 < x7 then (if 0≤x8 then (if x8 < (x0.length:Int) then ((gU.f k (jv ByteArray.empty x0 x8)).bind fun O4=>(if O4=true then (some x8) else (bp.l0 k x0 x7 (wrap64 (x8 + 1))))) else (none)) else (none)) else (some (-1))
def bp.f (k:Nat) (l0:List ByteArray):Option (Int):=bp.l0 k l0 (l0.length:Int) 0
theorem bp.calls (k:Nat) (A0:Option Addr) (c0:Nat) (l0:List ByteArray) (r:Int) (w:World) (tX:Kd.C Kd.string w A0 l0.length l0) (hc0:l0.length≤c0) (hG:aQ w) (h:bp.f k l0=some r):
 Calls Tryz.prog 117 #[.slice A0 l0.length c0,.func (.func 64) #[] #[]] w fun e w'=>e= .returned (.int .i64 r)∧Below w.heap.size w w':=by
 have rE:=af.mk tX
 have IU:=af.mk hc0
 clear tX hc0
 have HB:=af.mk (Below.refl w.heap.size w)
 have HG:=af.mk hG
 clear hG
 have H:(bp.l0 k l0 (l0.length:Int) 0)=some r:=h
 clear h
 have H':=af.mk H
 clear H
 go_enter Tryz.func117,Tryz.ntmps117
 go_wp2
 go_loopg [8] k (fun kq v8 w'=>∃ (fE:Int),v8= .int .i64 fE∧af (bp.l0 kq l0 (l0.length:Int) fE=some r)∧af (kq≤k)∧af (Below w.heap.size w w'))
 case atStart=>exact ⟨(0),dG,H',⟨Nat.le_refl _⟩,⟨bS⟩⟩
 case round=>
  clear H'
  obtain ⟨fE,rfl,HA,sI,HB⟩:=hrel
  cases gk with
  |zero=>exact absurd HA.out (by simp [bp.l0])
  |succ k1=>
   have H:=HA.out
   clear HA
   simp only [bp.l0] at H
   by_cases c3:fE < (l0.length:Int)
   ·rw [if_pos c3] at H
    have mh:=decide_eq_true c3
    clear c3
    obtain ⟨c4,H⟩:=jA H
    have nj:=decide_eq_true c4
    clear c4
    obtain ⟨c5,H⟩:=jA H
    have pG:=decide_eq_true c5
    clear c5
    obtain ⟨O4,A6,H⟩:=bd_ H
    by_cases c7:O4=true
    ·subst c7
     rw [if_pos rfl] at H
     obtain rfl:=Option.some.inj H
     have Dm: 0≤(fE:Int):=of_decide_eq_true cE
     have Dn:fE < (l0.length:Int):=of_decide_eq_true cE
     obtain ⟨QY,O5,oH⟩:=Kd.gB rE.out fE Dm Dn
     cases O5
     replace oH:=(HB.out.cell (World.block_lt_of_cell? w _ oH)).trans oH
     replace Dm:=eq_true Dm
     replace Dn:=eq_true Dn
     go_wp2_with (first|(go_at_call 64;(with_reducible refine (gU.calls k1 (jv ByteArray.empty l0 fE) true _ ?aX A6.out).mono ?_);(case aX=>exact aQ.below HG.out bS);rintro e w8 ⟨rfl,hb⟩;replace HB:=af.mk (aH bS hb);(try clear hb)))
     go_ret
     exact ⟨cM,bS⟩
    ·replace c7:=Bool.eq_false_iff.mpr c7
     subst c7
     rw [if_neg (show ¬ (false=true) by decide)] at H
     have H':=af.mk H
     clear H
     have Dm: 0≤(fE:Int):=of_decide_eq_true cE
     have Dn:fE < (l0.length:Int):=of_decide_eq_true cE
     obtain ⟨QY,O5,oH⟩:=Kd.gB rE.out fE Dm Dn
     cases O5
     replace oH:=(HB.out.cell (World.block_lt_of_cell? w _ oH)).trans oH
     replace Dm:=eq_true Dm
     replace Dn:=eq_true Dn
     go_wp2_with (first|(go_at_call 64;(with_reducible refine (gU.calls k1 (jv ByteArray.empty l0 fE) false _ ?aX A6.out).mono ?_);(case aX=>exact aQ.below HG.out bS);rintro e w9 ⟨rfl,hb⟩;replace HB:=af.mk (aH bS hb);(try clear hb)))
     go_roundg k1
     case measure=>have:=sI.out;omega
     case rel=>exact ⟨(wrap64 (fE + 1)),dG,H',⟨kV⟩,⟨bS⟩⟩
   ·rw [if_neg c3] at H
    have mh:=decide_eq_false c3
    clear c3
    obtain rfl:=Option.some.inj H
    go_wp2
    go_ret
    exact ⟨cM,bS⟩
def bR.f (k:Nat) (l0:List ByteArray):Option (Bool):=(bp.f k l0).bind fun Jv=>(some (decide (Jv≥0)))
theorem bR.calls (k:Nat) (A0:Option Addr) (c0:Nat) (l0:List ByteArray) (r:Bool) (w:World) (tX:Kd.C Kd.string w A0 l0.length l0) (hc0:l0.length≤c0) (hG:aQ w) (h:bR.f k l0=some r):
 Calls Tryz.prog 59 #[.slice A0 l0.length c0,.func (.func 64) #[] #[]] w fun e w'=>e= .returned (.bool r)∧Below w.heap.size w w':=by
 have rE:=af.mk tX
 have IU:=af.mk hc0
 clear tX hc0
 have HB:=af.mk (Below.refl w.heap.size w)
 have HG:=af.mk hG
 clear hG
 have H:((bp.f k l0).bind fun Jv=>(some (decide (Jv≥0))))=some r:=h
 clear h
 obtain ⟨Jv,A3,H⟩:=bd_ H
 obtain rfl:=Option.some.inj H
 go_enter Tryz.func59,Tryz.ntmps59
 go_wp2_with (first|((with_reducible refine aU (f:=117) rfl ?_);refine bY (some 7) rfl rfl Tryz.func117 ay rfl #[.slice A0 l0.length c0,.func (.func 64) #[] #[]] rfl cr ?_;(with_reducible refine (bp.calls k _ _ l0 Jv _ ?aX ?bL ?eF A3.out).mono ?_);(case aX=>repeat (first|exact rE.out|(with_reducible refine Kd.gu ?_ _)|(with_reducible refine Kd.gv ?_ _)|(with_reducible refine Kd.iB ?_)));(case bL=>exact IU.out);(case eF=>exact aQ.below HG.out bS);rintro e w4 ⟨rfl,hb⟩;refine ⟨_,rfl,?_⟩;replace HB:=af.mk (aH bS hb);(try clear hb)))
 go_ret
 exact ⟨cM,bS⟩
def dZ.f (k:Nat) (bD:Bool) (bG:List ByteArray) (bC:ByteArray) (bI:ByteArray) (bJ:Bool):Option (Bool):=if bD=true then (if (bG.length:Int)=0 then (some (bC.toList == ([]:List UInt8) && (bI.toList == ([]:List UInt8) && (!bJ)))) else (some false)) else (if (bC.toList == ([112,111,115,116,109,97,115,116,101,114]:List UInt8) && (bI.toList == ([]:List UInt8) && (!bJ)))=true then (some ((bG.length:Int) == 0)) else ((cC.f k bC bI bJ).bind fun Jw=>(if Jw=true then (if (bG.length:Int)≤20 then ((bR.f k bG).bind fun Jx=>(some (!Jx))) else (some false)) else (some false))))
theorem dZ.calls (k:Nat) (bD:Bool) (cI:Option Addr) (cJ:Nat) (bG:List ByteArray) (bC:ByteArray) (bI:ByteArray) (bJ:Bool) (r:Bool) (w:World) (nB:Kd.C Kd.string w cI bG.length bG) (nC:bG.length≤cJ) (hG:aQ w) (h:dZ.f k bD bG bC bI bJ=some r):
 Calls Tryz.prog 20 #[.agg #[.bool bD,.slice cI bG.length cJ,.string bC,.string bI,.bool bJ]] w fun e w'=>e= .returned (.bool r)∧Below w.heap.size w w':=by
 have Dh:=Tryz.underlying32
 have Bf:=Tryz.underlying30
 have jK:=af.mk nB
 have kF:=af.mk nC
 clear nB nC
 have HB:=af.mk (Below.refl w.heap.size w)
 have HG:=af.mk hG
 clear hG
 have H:(if bD=true then (if (bG.length:Int)=0 then (some (bC.toList == ([]:List UInt8) && (bI.toList == ([]:List UInt8) && (!bJ)))) else (some false)) else (if (bC.toList == ([112,111,115,116,109,97,115,116,101,114]:List UInt8) && (bI.toList == ([]:List UInt8) && (!bJ)))=true then (some ((bG.length:Int) == 0)) else ((cC.f k bC bI bJ).bind fun Jw=>(if Jw=true then (if (bG.length:Int)≤20 then ((bR.f k bG).bind fun Jx=>(some (!Jx))) else (some false)) else (some false)))))=some r:=h
 clear h
 by_cases c2:bD=true
 ·subst c2
  rw [if_pos rfl] at H
  by_cases c3:(bG.length:Int)=0
  ·rw [if_pos c3] at H
   have mh:=beq_iff_eq.mpr c3
   have CV:=bne_eq_false_iff_eq.mpr c3
   clear c3
   obtain rfl:=Option.some.inj H
   go_enter Tryz.func20,Tryz.ntmps20
   go_wp2_with (first|((with_reducible refine cU (N:=1) rfl ?_);(try (refine cW (by rfl) ?_;dsimp only));refine cL ?hg (N:=1) ?hd (cs:=#[.bool true,.slice cI bG.length cJ,.string bC,.string bI,.bool bJ]) (t:=32) ?hr ?_;(case hd=>rfl);(case hg=>rfl);(case hr=>first|(go_simp;done)|(go_simp;rfl));intro eu hg w4 dg hb;have cO:=af.mk (dg);have Bp:=af.mk ((eo:w.heap.size≤eu));have xB:=af.mk ((eo:w.heap.size≤eu));replace HB:=af.mk (aH bS hb);clear hb dg hg;have C5:w4.cell? ⟨eu,0,none⟩=some (.bool true):=(ah cO.out 0).trans rfl;have C6:w4.cell? ⟨eu,1,none⟩=some (.slice cI bG.length cJ):=(ah cO.out 1).trans rfl;have I6:w4.cell? ⟨eu,2,none⟩=some (.string bC):=(ah cO.out 2).trans rfl;have OO:w4.cell? ⟨eu,3,none⟩=some (.string bI):=(ah cO.out 3).trans rfl;have OP:w4.cell? ⟨eu,4,none⟩=some (.bool bJ):=(ah cO.out 4).trans rfl;have C7:=aa cO.out 0;have C8:=aa cO.out 1;have I7:=aa cO.out 2;have OQ:=aa cO.out 3;have OS:=aa cO.out 4))
   go_ret
   exact ⟨cM,ku⟩
  ·rw [if_neg c3] at H
   have mh:=beq_eq_false_iff_ne.mpr c3
   have CV:=bne_iff_ne.mpr c3
   have aaQ: ¬ (bG= []):=fun h_ =>c3 (by rw [h_];rfl)
   obtain rfl:=Option.some.inj H
   go_enter Tryz.func20,Tryz.ntmps20
   go_wp2_with (first|((with_reducible refine cU (N:=1) rfl ?_);(try (refine cW (by rfl) ?_;dsimp only));refine cL ?hg (N:=1) ?hd (cs:=#[.bool true,.slice cI bG.length cJ,.string bC,.string bI,.bool bJ]) (t:=32) ?hr ?_;(case hd=>rfl);(case hg=>rfl);(case hr=>first|(go_simp;done)|(go_simp;rfl));intro eu hg w6 dg hb;have cO:=af.mk (dg);have Bp:=af.mk ((eo:w.heap.size≤eu));have xB:=af.mk ((eo:w.heap.size≤eu));replace HB:=af.mk (aH bS hb);clear hb dg hg;have IL:w6.cell? ⟨eu,0,none⟩=some (.bool true):=(ah cO.out 0).trans rfl;have IM:w6.cell? ⟨eu,1,none⟩=some (.slice cI bG.length cJ):=(ah cO.out 1).trans rfl;have aa0:w6.cell? ⟨eu,2,none⟩=some (.string bC):=(ah cO.out 2).trans rfl;have aa1:w6.cell? ⟨eu,3,none⟩=some (.string bI):=(ah cO.out 3).trans rfl;have aa2:w6.cell? ⟨eu,4,none⟩=some (.bool bJ):=(ah cO.out 4).trans rfl;have IP:=aa cO.out 0;have IQ:=aa cO.out 1;have aa3:=aa cO.out 2;have aa4:=aa cO.out 3;have aa5:=aa cO.out 4))
   go_ret
   exact ⟨cM,ku⟩
 ·replace c2:=Bool.eq_false_iff.mpr c2
  subst c2
  rw [if_neg (show ¬ (false=true) by decide)] at H
  by_cases c8:(bC.toList == ([112,111,115,116,109,97,115,116,101,114]:List UInt8) && (bI.toList == ([]:List UInt8) && (!bJ)))=true
  ·rw [if_pos c8] at H
   have qN:(bC.toList == ([112,111,115,116,109,97,115,116,101,114]:List UInt8) && (bI.toList == ([]:List UInt8) && (!bJ)))=true:=c8
   have QZ:(bC.toList == ([112,111,115,116,109,97,115,116,101,114]:List UInt8))=true∧bI.toList.isEmpty=true∧(!bJ)=true:=by {have c_ :=c8;simp only [Bool.and_eq_true] at c_;obtain ⟨h1_,V2,h3_⟩:=c_;exact ⟨h1_,by rw [beq_iff_eq] at V2;rw [V2];rfl,h3_⟩}
   obtain ⟨c8f,c8g,c8h⟩:=QZ
   (try (have zz:decide (bC.toList=([112,111,115,116,109,97,115,116,101,114]:List UInt8) && (bI.toList == ([]:List UInt8) && (!bJ)))=true:=by simpa using c8))
   (try (have aa8:(bC.toList == ([112,111,115,116,109,97,115,116,101,114]:List UInt8) && (bI.toList == ([]:List UInt8) && (!bJ)))=true:=by simpa using c8))
   clear c8
   obtain rfl:=Option.some.inj H
   go_enter Tryz.func20,Tryz.ntmps20
   go_wp2_with (first|((with_reducible refine cU (N:=1) rfl ?_);(try (refine cW (by rfl) ?_;dsimp only));refine cL ?hg (N:=1) ?hd (cs:=#[.bool false,.slice cI bG.length cJ,.string bC,.string bI,.bool bJ]) (t:=32) ?hr ?_;(case hd=>rfl);(case hg=>rfl);(case hr=>first|(go_simp;done)|(go_simp;rfl));intro eu hg w9 dg hb;have cO:=af.mk (dg);have Bp:=af.mk ((eo:w.heap.size≤eu));have xB:=af.mk ((eo:w.heap.size≤eu));replace HB:=af.mk (aH bS hb);clear hb dg hg;have V3:w9.cell? ⟨eu,0,none⟩=some (.bool false):=(ah cO.out 0).trans rfl;have V4:w9.cell? ⟨eu,1,none⟩=some (.slice cI bG.length cJ):=(ah cO.out 1).trans rfl;have V5:w9.cell? ⟨eu,2,none⟩=some (.string bC):=(ah cO.out 2).trans rfl;have V6:w9.cell? ⟨eu,3,none⟩=some (.string bI):=(ah cO.out 3).trans rfl;have V7:w9.cell? ⟨eu,4,none⟩=some (.bool bJ):=(ah cO.out 4).trans rfl;have V8:=aa cO.out 0;have V9:=aa cO.out 1;have Wa:=aa cO.out 2;have Wb:=aa cO.out 3;have Wc:=aa cO.out 4))
   go_ret
   exact ⟨cM,ku⟩
  ·rw [if_neg c8] at H
   have QZ:((bC.toList == ([112,111,115,116,109,97,115,116,101,114]:List UInt8))=true∧bI.toList.isEmpty=true∧(!bJ)=true)=False:=eq_false (fun ⟨h1_,V2,h3_⟩=>c8 (by rw [h1_,show (bI.toList == ([]:List UInt8))=true from by rw [beq_iff_eq];exact List.isEmpty_iff.mp V2,h3_];rfl))
   have qN:(bC.toList == ([112,111,115,116,109,97,115,116,101,114]:List UInt8) && (bI.toList == ([]:List UInt8) && (!bJ)))=false:=by simpa using c8
   (try (have zz:decide (bC.toList=([112,111,115,116,109,97,115,116,101,114]:List UInt8) && (bI.toList == ([]:List UInt8) && (!bJ)))=false:=by simpa using c8))
   (try (have aa8:(bC.toList == ([112,111,115,116,109,97,115,116,101,114]:List UInt8) && (bI.toList == ([]:List UInt8) && (!bJ)))=false:=by simpa using c8))
   (try (have aeK: ¬ (bC.toList=([112,111,115,116,109,97,115,116,101,114]:List UInt8) && (bI.toList == ([]:List UInt8) && (!bJ))):=by simpa using c8))
   clear c8
   obtain ⟨Jw,Q0,H⟩:=bd_ H
   by_cases c12:Jw=true
   ·subst c12
    rw [if_pos rfl] at H
    by_cases c13:(bG.length:Int)≤20
    ·rw [if_pos c13] at H
     have tE:=decide_eq_true c13
     have xK:decide (bG.length≤20)=true:=decide_eq_true ak
     clear c13
     obtain ⟨Jx,IV,H⟩:=bd_ H
     obtain rfl:=Option.some.inj H
     go_enter Tryz.func20,Tryz.ntmps20
     go_wp2_with (first|((with_reducible refine cU (N:=1) rfl ?_);(try (refine cW (by rfl) ?_;dsimp only));refine cL ?hg (N:=1) ?hd (cs:=#[.bool false,.slice cI bG.length cJ,.string bC,.string bI,.bool bJ]) (t:=32) ?hr ?_;(case hd=>rfl);(case hg=>rfl);(case hr=>first|(go_simp;done)|(go_simp;rfl));intro eu hg Kw dg hb;have cO:=af.mk (dg);have Bp:=af.mk ((eo:w.heap.size≤eu));have xB:=af.mk ((eo:w.heap.size≤eu));replace HB:=af.mk (aH bS hb);clear hb dg hg;have uC:Kw.cell? ⟨eu,0,none⟩=some (.bool false):=(ah cO.out 0).trans rfl;have uD:Kw.cell? ⟨eu,1,none⟩=some (.slice cI bG.length cJ):=(ah cO.out 1).trans rfl;have Fp:Kw.cell? ⟨eu,2,none⟩=some (.string bC):=(ah cO.out 2).trans rfl;have Fq:Kw.cell? ⟨eu,3,none⟩=some (.string bI):=(ah cO.out 3).trans rfl;have Fu:Kw.cell? ⟨eu,4,none⟩=some (.bool bJ):=(ah cO.out 4).trans rfl;have uE:=aa cO.out 0;have uF:=aa cO.out 1;have Fv:=aa cO.out 2;have Fw:=aa cO.out 3;have Fx:=aa cO.out 4)|((with_reducible refine aU (f:=63) rfl ?_);refine bY (some 25) rfl rfl Tryz.func63 ay rfl #[.agg #[.string bC,.string bI,.bool bJ]] rfl cr ?_;(with_reducible refine (cC.calls k bC bI bJ true _ ?aX Q0.out).mono ?_);(case aX=>exact aQ.below HG.out ku);rintro e Pz ⟨rfl,hb⟩;refine ⟨_,rfl,?_⟩;replace cO:=af.mk (bq yY hb);replace HB:=af.mk (aH ku hb);(try clear hb);have K8:Pz.cell? ⟨eu,0,none⟩=some (.bool false):=(ah cO.out 0).trans rfl;have K9:Pz.cell? ⟨eu,1,none⟩=some (.slice cI bG.length cJ):=(ah cO.out 1).trans rfl;have Wd:Pz.cell? ⟨eu,2,none⟩=some (.string bC):=(ah cO.out 2).trans rfl;have We:Pz.cell? ⟨eu,3,none⟩=some (.string bI):=(ah cO.out 3).trans rfl;have Wf:Pz.cell? ⟨eu,4,none⟩=some (.bool bJ):=(ah cO.out 4).trans rfl;have La:=aa cO.out 0;have Lb:=aa cO.out 1;have Wh:=aa cO.out 2;have Wi:=aa cO.out 3;have Wj:=aa cO.out 4)|(go_at_call 59;(with_reducible refine (bR.calls k _ _ bG Jx _ ?aX ?bL ?eF IV.out).mono ?_);(case aX=>repeat (first|exact (Kd.fR jK.out HB.out)|(with_reducible refine Kd.gu ?_ _)|(with_reducible refine Kd.gv ?_ _)|(with_reducible refine Kd.iB ?_)));(case bL=>exact kF.out);(case eF=>exact aQ.below HG.out ku);rintro e Qj ⟨rfl,hb⟩;replace cO:=af.mk (bq yY hb);replace HB:=af.mk (aH ku hb);(try clear hb)))
     try any_goals (exact (QZ.mp (by assumption)).elim)
     go_ret
     exact ⟨cM,ku⟩
    ·rw [if_neg c13] at H
     have tE:=decide_eq_false c13
     have xK:decide (bG.length≤20)=false:=decide_eq_false ak
     clear c13
     obtain rfl:=Option.some.inj H
     go_enter Tryz.func20,Tryz.ntmps20
     go_wp2_with (first|((with_reducible refine cU (N:=1) rfl ?_);(try (refine cW (by rfl) ?_;dsimp only));refine cL ?hg (N:=1) ?hd (cs:=#[.bool false,.slice cI bG.length cJ,.string bC,.string bI,.bool bJ]) (t:=32) ?hr ?_;(case hd=>rfl);(case hg=>rfl);(case hr=>first|(go_simp;done)|(go_simp;rfl));intro eu hg PE dg hb;have cO:=af.mk (dg);have Bp:=af.mk ((eo:w.heap.size≤eu));have xB:=af.mk ((eo:w.heap.size≤eu));replace HB:=af.mk (aH bS hb);clear hb dg hg;have Wk:PE.cell? ⟨eu,0,none⟩=some (.bool false):=(ah cO.out 0).trans rfl;have Wl:PE.cell? ⟨eu,1,none⟩=some (.slice cI bG.length cJ):=(ah cO.out 1).trans rfl;have Wm:PE.cell? ⟨eu,2,none⟩=some (.string bC):=(ah cO.out 2).trans rfl;have Wn:PE.cell? ⟨eu,3,none⟩=some (.string bI):=(ah cO.out 3).trans rfl;have Wo:PE.cell? ⟨eu,4,none⟩=some (.bool bJ):=(ah cO.out 4).trans rfl;have Wp:=aa cO.out 0;have Wq:=aa cO.out 1;have Ws:=aa cO.out 2;have Wt:=aa cO.out 3;have Wu:=aa cO.out 4)|((with_reducible refine aU (f:=63) rfl ?_);refine bY (some 25) rfl rfl Tryz.func63 ay rfl #[.agg #[.string bC,.string bI,.bool bJ]] rfl cr ?_;(with_reducible refine (cC.calls k bC bI bJ true _ ?aX Q0.out).mono ?_);(case aX=>exact aQ.below HG.out ku);rintro e GA ⟨rfl,hb⟩;refine ⟨_,rfl,?_⟩;replace cO:=af.mk (bq yY hb);replace HB:=af.mk (aH ku hb);(try clear hb);have Md:GA.cell? ⟨eu,0,none⟩=some (.bool false):=(ah cO.out 0).trans rfl;have Me:GA.cell? ⟨eu,1,none⟩=some (.slice cI bG.length cJ):=(ah cO.out 1).trans rfl;have Mf:GA.cell? ⟨eu,2,none⟩=some (.string bC):=(ah cO.out 2).trans rfl;have Mg:GA.cell? ⟨eu,3,none⟩=some (.string bI):=(ah cO.out 3).trans rfl;have Mh:GA.cell? ⟨eu,4,none⟩=some (.bool bJ):=(ah cO.out 4).trans rfl;have Mi:=aa cO.out 0;have Mj:=aa cO.out 1;have Mk:=aa cO.out 2;have Ml:=aa cO.out 3;have Mm:=aa cO.out 4))
     try any_goals (exact (QZ.mp (by assumption)).elim)
     go_ret
     exact ⟨cM,ku⟩
   ·replace c12:=Bool.eq_false_iff.mpr c12
    subst c12
    rw [if_neg (show ¬ (false=true) by decide)] at H
    obtain rfl:=Option.some.inj H
    go_enter Tryz.func20,Tryz.ntmps20
    go_wp2_with (first|((with_reducible refine cU (N:=1) rfl ?_);(try (refine cW (by rfl) ?_;dsimp only));refine cL ?hg (N:=1) ?hd (cs:=#[.bool false,.slice cI bG.length cJ,.string bC,.string bI,.bool bJ]) (t:=32) ?hr ?_;(case hd=>rfl);(case hg=>rfl);(case hr=>first|(go_simp;done)|(go_simp;rfl));intro eu hg Hr dg hb;have cO:=af.mk (dg);have Bp:=af.mk ((eo:w.heap.size≤eu));have xB:=af.mk ((eo:w.heap.size≤eu));replace HB:=af.mk (aH bS hb);clear hb dg hg;have uG:Hr.cell? ⟨eu,0,none⟩=some (.bool false):=(ah cO.out 0).trans rfl;have uH:Hr.cell? ⟨eu,1,none⟩=some (.slice cI bG.length cJ):=(ah cO.out 1).trans rfl;have uI:Hr.cell? ⟨eu,2,none⟩=some (.string bC):=(ah cO.out 2).trans rfl;have Fz:Hr.cell? ⟨eu,3,none⟩=some (.string bI):=(ah cO.out 3).trans rfl;have FA:Hr.cell? ⟨eu,4,none⟩=some (.bool bJ):=(ah cO.out 4).trans rfl;have uJ:=aa cO.out 0;have uK:=aa cO.out 1;have uL:=aa cO.out 2;have FB:=aa cO.out 3;have FC:=aa cO.out 4)|((with_reducible refine aU (f:=63) rfl ?_);refine bY (some 25) rfl rfl Tryz.func63 ay rfl #[.agg #[.string bC,.string bI,.bool bJ]] rfl cr ?_;(with_reducible refine (cC.calls k bC bI bJ false _ ?aX Q0.out).mono ?_);(case aX=>exact aQ.below HG.out ku);rintro e Lr ⟨rfl,hb⟩;refine ⟨_,rfl,?_⟩;replace cO:=af.mk (bq yY hb);replace HB:=af.mk (aH ku hb);(try clear hb)))
    try any_goals (exact (QZ.mp (by assumption)).elim)
    go_ret
    exact ⟨cM,ku⟩
end Go.Proofs.YtokpnfljjjjikaaGreatDoor.lO
