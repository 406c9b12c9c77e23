import Derived.Test.YtokpnfljjjjikaaGreatDoorQPtx11
set_option maxHeartbeats 8000000
set_option maxRecDepth 100000
namespace Go.Proofs.YtokpnfljjjjikaaGreatDoor.mY
open Go.RowKit Go.Proofs.YtokpnfljjjjikaaGreatDoor.qP Go.Proofs.aj.bO Go.Proofs.aj.fA Go.Proofs.aj.cK
attribute [local go_sem] ia ig iU iV gf gh ij iq
set_option linter.unusedVariables false
set_option linter.unusedSimpArgs false
attribute [local go_sem high] QW
def lf.f (k:Nat) (a0:ByteArray):Option (Bool):=(mE.f k a0).bind fun Wc=>(some (!Wc))
theorem lf.calls (k:Nat) (a0:ByteArray) (r:Bool) (w:World) (hG:aJ w) (h:lf.f k a0=some r):
 Calls Tryz.prog 64 #[.string a0] w fun e w'=>e= .returned (.bool r)∧Below w.heap.size w w':=by
 have HB:=aa.mk (Below.refl w.heap.size w)
 have HG:=aa.mk hG
 clear hG
 have H:((mE.f k a0).bind fun Wc=>(some (!Wc)))=some r:=h
 clear h
 obtain ⟨Wc,A2,H⟩:=bd_ H
 obtain rfl:=Option.some.inj H
 go_enter Tryz.func64,Tryz.ntmps64
 go_wp2_with (first|((with_reducible refine aK (f:=65) rfl ?_);refine bU (some 4) rfl rfl Tryz.func65 aq rfl #[.string a0] rfl cz ?_;(with_reducible refine (mE.calls k a0 Wc _ ?aT A2.out).mono ?_);(case aT=>exact aJ.below HG.out bG);rintro e w3 ⟨rfl,hb⟩;refine ⟨_,rfl,?_⟩;replace HB:=aa.mk (aA bG hb);(try clear hb)))
 go_ret
 exact ⟨cH,bG⟩
def bQ.l0:Nat→List ByteArray→Int→Int→Option (Int)
 | 0,_,_,_ =>none
 |k + 1,x0,x7,x8=>if x8 < x7 then (if 0≤x8 then (if x8 < (x0.length:Int) then ((lf.f k (cV ByteArray.empty x0 x8)).bind fun adD=>(if adD=true then (some x8) else (bQ.l0 k x0 x7 (wrap64 (x8 + 1))))) else (none)) else (none)) else (some (-1))
def bQ.f (k:Nat) (l0:List ByteArray):Option (Int):=bQ.l0 k l0 (l0.length:Int) 0
theorem bQ.calls (k:Nat) (A0:Option Addr) (c0:Nat) (l0:List ByteArray) (r:Int) (w:World) (Dn:Kd.C Kd.string w A0 l0.length l0) (hc0:l0.length≤c0) (hG:aJ w) (h:bQ.f k l0=some r):
 Calls Tryz.prog 117 #[.slice A0 l0.length c0,.func (.func 64) #[] #[]] w fun e w'=>e= .returned (.int .i64 r)∧Below w.heap.size w w':=by
 have Ce:=aa.mk Dn
 have Vs:=aa.mk hc0
 clear Dn hc0
 have HB:=aa.mk (Below.refl w.heap.size w)
 have HG:=aa.mk hG
 clear hG
 have H:(bQ.l0 k l0 (l0.length:Int) 0)=some r:=h
 clear h
 have H':=aa.mk H
 clear H
 go_enter Tryz.func117,Tryz.ntmps117
 go_wp2
 go_loopg [8] k (fun kq v8 w'=>∃ (jl:Int),v8= .int .i64 jl∧aa (bQ.l0 kq l0 (l0.length:Int) jl=some r)∧aa (kq≤k)∧aa (Below w.heap.size w w'))
 case atStart=>exact ⟨(0),b9,H',⟨Nat.le_refl _⟩,⟨bG⟩⟩
 case round=>
  clear H'
  obtain ⟨jl,rfl,HA,p9,HB⟩:=hrel
  cases gk with
  |zero=>exact absurd HA.out (by simp [bQ.l0])
  |succ k1=>
   have H:=HA.out
   clear HA
   simp only [bQ.l0] at H
   by_cases c3:jl < (l0.length:Int)
   ·rw [if_pos c3] at H
    have mg:=decide_eq_true c3
    clear c3
    obtain ⟨c4,H⟩:=iA H
    have nB:=decide_eq_true c4
    clear c4
    obtain ⟨c5,H⟩:=iA H
    have lF:=decide_eq_true c5
    clear c5
    obtain ⟨adD,A6,H⟩:=bd_ H
    by_cases c7:adD=true
    ·subst c7
     rw [if_pos rfl] at H
     obtain rfl:=Option.some.inj H
     have Ox: 0≤(jl:Int):=of_decide_eq_true bp
     have Oy:jl < (l0.length:Int):=of_decide_eq_true bp
     obtain ⟨agh,adE,vw⟩:=Kd.cY Ce.out jl Ox Oy
     cases adE
     replace vw:=(HB.out.cell (World.block_lt_of_cell? w _ vw)).trans vw
     replace Ox:=eq_true Ox
     replace Oy:=eq_true Oy
     go_wp2_with (first|(go_at_call 64;(with_reducible refine (lf.calls k1 (cV ByteArray.empty l0 jl) true _ ?aT A6.out).mono ?_);(case aT=>exact aJ.below HG.out bG);rintro e w8 ⟨rfl,hb⟩;replace HB:=aa.mk (aA bG hb);(try clear hb)))
     go_ret
     exact ⟨cH,bG⟩
    ·replace c7:=Bool.eq_false_iff.mpr c7
     subst c7
     rw [if_neg (show ¬ (false=true) by decide)] at H
     have H':=aa.mk H
     clear H
     have Ox: 0≤(jl:Int):=of_decide_eq_true bp
     have Oy:jl < (l0.length:Int):=of_decide_eq_true bp
     obtain ⟨agh,adE,vw⟩:=Kd.cY Ce.out jl Ox Oy
     cases adE
     replace vw:=(HB.out.cell (World.block_lt_of_cell? w _ vw)).trans vw
     replace Ox:=eq_true Ox
     replace Oy:=eq_true Oy
     go_wp2_with (first|(go_at_call 64;(with_reducible refine (lf.calls k1 (cV ByteArray.empty l0 jl) false _ ?aT A6.out).mono ?_);(case aT=>exact aJ.below HG.out bG);rintro e w9 ⟨rfl,hb⟩;replace HB:=aa.mk (aA bG hb);(try clear hb)))
     go_roundg k1
     case measure=>have:=p9.out;omega
     case rel=>exact ⟨(wrap64 (jl + 1)),b9,H',⟨je⟩,⟨bG⟩⟩
   ·rw [if_neg c3] at H
    have mg:=decide_eq_false c3
    clear c3
    obtain rfl:=Option.some.inj H
    go_wp2
    go_ret
    exact ⟨cH,bG⟩
def cM.f (k:Nat) (l0:List ByteArray):Option (Bool):=(bQ.f k l0).bind fun Wd=>(some (decide (Wd≥0)))
theorem cM.calls (k:Nat) (A0:Option Addr) (c0:Nat) (l0:List ByteArray) (r:Bool) (w:World) (Dn:Kd.C Kd.string w A0 l0.length l0) (hc0:l0.length≤c0) (hG:aJ w) (h:cM.f k l0=some r):
 Calls Tryz.prog 59 #[.slice A0 l0.length c0,.func (.func 64) #[] #[]] w fun e w'=>e= .returned (.bool r)∧Below w.heap.size w w':=by
 have Ce:=aa.mk Dn
 have Vs:=aa.mk hc0
 clear Dn hc0
 have HB:=aa.mk (Below.refl w.heap.size w)
 have HG:=aa.mk hG
 clear hG
 have H:((bQ.f k l0).bind fun Wd=>(some (decide (Wd≥0))))=some r:=h
 clear h
 obtain ⟨Wd,A3,H⟩:=bd_ H
 obtain rfl:=Option.some.inj H
 go_enter Tryz.func59,Tryz.ntmps59
 go_wp2_with (first|((with_reducible refine aK (f:=117) rfl ?_);refine bU (some 7) rfl rfl Tryz.func117 aq rfl #[.slice A0 l0.length c0,.func (.func 64) #[] #[]] rfl cz ?_;(with_reducible refine (bQ.calls k _ _ l0 Wd _ ?aT ?cw ?fO A3.out).mono ?_);(case aT=>repeat (first|exact Ce.out|(with_reducible refine Kd.jg ?_ _)|(with_reducible refine Kd.jh ?_ _)|(with_reducible refine Kd.kL ?_)));(case cw=>exact Vs.out);(case fO=>exact aJ.below HG.out bG);rintro e w4 ⟨rfl,hb⟩;refine ⟨_,rfl,?_⟩;replace HB:=aa.mk (aA bG hb);(try clear hb)))
 go_ret
 exact ⟨cH,bG⟩
def gq.f (k:Nat) (bS:Bool) (cC:List ByteArray) (cg:ByteArray) (cN:ByteArray) (cR:Bool):Option (Bool):=if bS=true then (if (cC.length:Int)=0 then (some (cg.toList == ([]:List UInt8) && (cN.toList == ([]:List UInt8) && (!cR)))) else (some false)) else (if (cg.toList == ([112,111,115,116,109,97,115,116,101,114]:List UInt8) && (cN.toList == ([]:List UInt8) && (!cR)))=true then (some ((cC.length:Int) == 0)) else ((dN.f k cg cN cR).bind fun We=>(if We=true then (if (cC.length:Int)≤20 then ((cM.f k cC).bind fun Wf=>(some (!Wf))) else (some false)) else (some false))))
theorem gq.calls (k:Nat) (bS:Bool) (fC:Option Addr) (fD:Nat) (cC:List ByteArray) (cg:ByteArray) (cN:ByteArray) (cR:Bool) (r:Bool) (w:World) (oX:Kd.C Kd.string w fC cC.length cC) (oY:cC.length≤fD) (hG:aJ w) (h:gq.f k bS cC cg cN cR=some r):
 Calls Tryz.prog 20 #[.agg #[.bool bS,.slice fC cC.length fD,.string cg,.string cN,.bool cR]] w fun e w'=>e= .returned (.bool r)∧Below w.heap.size w w':=by
 have DA:=Tryz.underlying32
 have wT:=Tryz.underlying30
 have mI:=aa.mk oX
 have oZ:=aa.mk oY
 clear oX oY
 have HB:=aa.mk (Below.refl w.heap.size w)
 have HG:=aa.mk hG
 clear hG
 have H:(if bS=true then (if (cC.length:Int)=0 then (some (cg.toList == ([]:List UInt8) && (cN.toList == ([]:List UInt8) && (!cR)))) else (some false)) else (if (cg.toList == ([112,111,115,116,109,97,115,116,101,114]:List UInt8) && (cN.toList == ([]:List UInt8) && (!cR)))=true then (some ((cC.length:Int) == 0)) else ((dN.f k cg cN cR).bind fun We=>(if We=true then (if (cC.length:Int)≤20 then ((cM.f k cC).bind fun Wf=>(some (!Wf))) else (some false)) else (some false)))))=some r:=h
 clear h
 by_cases c2:bS=true
 ·subst c2
  rw [if_pos rfl] at H
  by_cases c3:(cC.length:Int)=0
  ·rw [if_pos c3] at H
   have mg:=beq_iff_eq.mpr c3
   have E7:=bne_eq_false_iff_eq.mpr c3
   clear c3
   obtain rfl:=Option.some.inj H
   go_enter Tryz.func20,Tryz.ntmps20
   go_wp2_with (first|((with_reducible refine cB (N:=1) rfl ?_);(try (refine cL (by rfl) ?_;dsimp only));refine cj ?hg (N:=1) ?hd (cs:=#[.bool true,.slice fC cC.length fD,.string cg,.string cN,.bool cR]) (t:=32) ?hr ?_;(case hd=>rfl);(case hg=>rfl);(case hr=>first|(go_simp;done)|(go_simp;rfl));intro gT hg w4 cE hb;have ez:=aa.mk (cE);have Mg:=aa.mk ((dI:w.heap.size≤gT));have Hf:=aa.mk ((dI:w.heap.size≤gT));replace HB:=aa.mk (aA bG hb);clear hb cE hg;have Ch:w4.cell? ⟨gT,0,none⟩=some (.bool true):=(ah ez.out 0).trans rfl;have Ci:w4.cell? ⟨gT,1,none⟩=some (.slice fC cC.length fD):=(ah ez.out 1).trans rfl;have Fm:w4.cell? ⟨gT,2,none⟩=some (.string cg):=(ah ez.out 2).trans rfl;have VW:w4.cell? ⟨gT,3,none⟩=some (.string cN):=(ah ez.out 3).trans rfl;have VX:w4.cell? ⟨gT,4,none⟩=some (.bool cR):=(ah ez.out 4).trans rfl;have Cj:=af ez.out 0;have Ck:=af ez.out 1;have Fp:=af ez.out 2;have VY:=af ez.out 3;have VZ:=af ez.out 4))
   go_ret
   exact ⟨cH,pM⟩
  ·rw [if_neg c3] at H
   have mg:=beq_eq_false_iff_ne.mpr c3
   have E7:=bne_iff_ne.mpr c3
   have api: ¬ (cC= []):=fun h_ =>c3 (by rw [h_];rfl)
   obtain rfl:=Option.some.inj H
   go_enter Tryz.func20,Tryz.ntmps20
   go_wp2_with (first|((with_reducible refine cB (N:=1) rfl ?_);(try (refine cL (by rfl) ?_;dsimp only));refine cj ?hg (N:=1) ?hd (cs:=#[.bool true,.slice fC cC.length fD,.string cg,.string cN,.bool cR]) (t:=32) ?hr ?_;(case hd=>rfl);(case hg=>rfl);(case hr=>first|(go_simp;done)|(go_simp;rfl));intro gT hg w6 cE hb;have ez:=aa.mk (cE);have Mg:=aa.mk ((dI:w.heap.size≤gT));have Hf:=aa.mk ((dI:w.heap.size≤gT));replace HB:=aa.mk (aA bG hb);clear hb cE hg;have Jq:w6.cell? ⟨gT,0,none⟩=some (.bool true):=(ah ez.out 0).trans rfl;have Jr:w6.cell? ⟨gT,1,none⟩=some (.slice fC cC.length fD):=(ah ez.out 1).trans rfl;have Wh:w6.cell? ⟨gT,2,none⟩=some (.string cg):=(ah ez.out 2).trans rfl;have Wi:w6.cell? ⟨gT,3,none⟩=some (.string cN):=(ah ez.out 3).trans rfl;have Wj:w6.cell? ⟨gT,4,none⟩=some (.bool cR):=(ah ez.out 4).trans rfl;have Js:=af ez.out 0;have Jt:=af ez.out 1;have Wk:=af ez.out 2;have Wl:=af ez.out 3;have Wm:=af ez.out 4))
   go_ret
   exact ⟨cH,pM⟩
 ·replace c2:=Bool.eq_false_iff.mpr c2
  subst c2
  rw [if_neg (show ¬ (false=true) by decide)] at H
  by_cases c8:(cg.toList == ([112,111,115,116,109,97,115,116,101,114]:List UInt8) && (cN.toList == ([]:List UInt8) && (!cR)))=true
  ·rw [if_pos c8] at H
   have rK:(cg.toList == ([112,111,115,116,109,97,115,116,101,114]:List UInt8) && (cN.toList == ([]:List UInt8) && (!cR)))=true:=c8
   have c8e:(cg.toList == ([112,111,115,116,109,97,115,116,101,114]:List UInt8))=true∧cN.toList.isEmpty=true∧(!cR)=true:=by {have c_ :=c8;simp only [Bool.and_eq_true] at c_;obtain ⟨h1_,h2_,h3_⟩:=c_;exact ⟨h1_,by rw [beq_iff_eq] at h2_;rw [h2_];rfl,h3_⟩}
   obtain ⟨c8f,c8g,c8h⟩:=c8e
   (try (have Fg:decide (cg.toList=([112,111,115,116,109,97,115,116,101,114]:List UInt8) && (cN.toList == ([]:List UInt8) && (!cR)))=true:=by simpa using c8))
   (try (have apv:(cg.toList == ([112,111,115,116,109,97,115,116,101,114]:List UInt8) && (cN.toList == ([]:List UInt8) && (!cR)))=true:=by simpa using c8))
   clear c8
   obtain rfl:=Option.some.inj H
   go_enter Tryz.func20,Tryz.ntmps20
   go_wp2_with (first|((with_reducible refine cB (N:=1) rfl ?_);(try (refine cL (by rfl) ?_;dsimp only));refine cj ?hg (N:=1) ?hd (cs:=#[.bool false,.slice fC cC.length fD,.string cg,.string cN,.bool cR]) (t:=32) ?hr ?_;(case hd=>rfl);(case hg=>rfl);(case hr=>first|(go_simp;done)|(go_simp;rfl));intro gT hg w9 cE hb;have ez:=aa.mk (cE);have Mg:=aa.mk ((dI:w.heap.size≤gT));have Hf:=aa.mk ((dI:w.heap.size≤gT));replace HB:=aa.mk (aA bG hb);clear hb cE hg;have Es:w9.cell? ⟨gT,0,none⟩=some (.bool false):=(ah ez.out 0).trans rfl;have Et:w9.cell? ⟨gT,1,none⟩=some (.slice fC cC.length fD):=(ah ez.out 1).trans rfl;have Eu:w9.cell? ⟨gT,2,none⟩=some (.string cg):=(ah ez.out 2).trans rfl;have RS:w9.cell? ⟨gT,3,none⟩=some (.string cN):=(ah ez.out 3).trans rfl;have RT:w9.cell? ⟨gT,4,none⟩=some (.bool cR):=(ah ez.out 4).trans rfl;have Ew:=af ez.out 0;have Ex:=af ez.out 1;have Ey:=af ez.out 2;have RU:=af ez.out 3;have RV:=af ez.out 4))
   go_ret
   exact ⟨cH,pM⟩
  ·rw [if_neg c8] at H
   have c8e:((cg.toList == ([112,111,115,116,109,97,115,116,101,114]:List UInt8))=true∧cN.toList.isEmpty=true∧(!cR)=true)=False:=eq_false (fun ⟨h1_,h2_,h3_⟩=>c8 (by rw [h1_,show (cN.toList == ([]:List UInt8))=true from by rw [beq_iff_eq];exact List.isEmpty_iff.mp h2_,h3_];rfl))
   have rK:(cg.toList == ([112,111,115,116,109,97,115,116,101,114]:List UInt8) && (cN.toList == ([]:List UInt8) && (!cR)))=false:=by simpa using c8
   (try (have Fg:decide (cg.toList=([112,111,115,116,109,97,115,116,101,114]:List UInt8) && (cN.toList == ([]:List UInt8) && (!cR)))=false:=by simpa using c8))
   (try (have apv:(cg.toList == ([112,111,115,116,109,97,115,116,101,114]:List UInt8) && (cN.toList == ([]:List UInt8) && (!cR)))=false:=by simpa using c8))
   (try (have avA: ¬ (cg.toList=([112,111,115,116,109,97,115,116,101,114]:List UInt8) && (cN.toList == ([]:List UInt8) && (!cR))):=by simpa using c8))
   clear c8
   obtain ⟨We,ZQ,H⟩:=bd_ H
   by_cases c12:We=true
   ·subst c12
    rw [if_pos rfl] at H
    by_cases c13:(cC.length:Int)≤20
    ·rw [if_pos c13] at H
     have vW:=decide_eq_true c13
     have Fb:decide (cC.length≤20)=true:=decide_eq_true ak
     clear c13
     obtain ⟨Wf,UK,H⟩:=bd_ H
     obtain rfl:=Option.some.inj H
     go_enter Tryz.func20,Tryz.ntmps20
     go_wp2_with (first|((with_reducible refine cB (N:=1) rfl ?_);(try (refine cL (by rfl) ?_;dsimp only));refine cj ?hg (N:=1) ?hd (cs:=#[.bool false,.slice fC cC.length fD,.string cg,.string cN,.bool cR]) (t:=32) ?hr ?_;(case hd=>rfl);(case hg=>rfl);(case hr=>first|(go_simp;done)|(go_simp;rfl));intro gT hg QX cE hb;have ez:=aa.mk (cE);have Mg:=aa.mk ((dI:w.heap.size≤gT));have Hf:=aa.mk ((dI:w.heap.size≤gT));replace HB:=aa.mk (aA bG hb);clear hb cE hg;have AV:QX.cell? ⟨gT,0,none⟩=some (.bool false):=(ah ez.out 0).trans rfl;have AW:QX.cell? ⟨gT,1,none⟩=some (.slice fC cC.length fD):=(ah ez.out 1).trans rfl;have JO:QX.cell? ⟨gT,2,none⟩=some (.string cg):=(ah ez.out 2).trans rfl;have JP:QX.cell? ⟨gT,3,none⟩=some (.string cN):=(ah ez.out 3).trans rfl;have JQ:QX.cell? ⟨gT,4,none⟩=some (.bool cR):=(ah ez.out 4).trans rfl;have AX:=af ez.out 0;have AY:=af ez.out 1;have JR:=af ez.out 2;have JS:=af ez.out 3;have JT:=af ez.out 4)|((with_reducible refine aK (f:=63) rfl ?_);refine bU (some 25) rfl rfl Tryz.func63 aq rfl #[.agg #[.string cg,.string cN,.bool cR]] rfl cz ?_;(with_reducible refine (dN.calls k cg cN cR true _ ?aT ZQ.out).mono ?_);(case aT=>exact aJ.below HG.out pM);rintro e w17 ⟨rfl,hb⟩;refine ⟨_,rfl,?_⟩;replace ez:=aa.mk (aC DU hb);replace HB:=aa.mk (aA pM hb);(try clear hb);have Jz:w17.cell? ⟨gT,0,none⟩=some (.bool false):=(ah ez.out 0).trans rfl;have JA:w17.cell? ⟨gT,1,none⟩=some (.slice fC cC.length fD):=(ah ez.out 1).trans rfl;have RX:w17.cell? ⟨gT,2,none⟩=some (.string cg):=(ah ez.out 2).trans rfl;have ZR:w17.cell? ⟨gT,3,none⟩=some (.string cN):=(ah ez.out 3).trans rfl;have ZT:w17.cell? ⟨gT,4,none⟩=some (.bool cR):=(ah ez.out 4).trans rfl;have JB:=af ez.out 0;have JC:=af ez.out 1;have RY:=af ez.out 2;have ZU:=af ez.out 3;have ZV:=af ez.out 4)|(go_at_call 59;(with_reducible refine (cM.calls k _ _ cC Wf _ ?aT ?cw ?fO UK.out).mono ?_);(case aT=>repeat (first|exact (Kd.jK mI.out HB.out)|(with_reducible refine Kd.jg ?_ _)|(with_reducible refine Kd.jh ?_ _)|(with_reducible refine Kd.kL ?_)));(case cw=>exact oZ.out);(case fO=>exact aJ.below HG.out pM);rintro e w19 ⟨rfl,hb⟩;replace ez:=aa.mk (aC DU hb);replace HB:=aa.mk (aA pM hb);(try clear hb)))
     try any_goals (exact (c8e.mp (by assumption)).elim)
     go_ret
     exact ⟨cH,pM⟩
    ·rw [if_neg c13] at H
     have vW:=decide_eq_false c13
     have Fb:decide (cC.length≤20)=false:=decide_eq_false ak
     clear c13
     obtain rfl:=Option.some.inj H
     go_enter Tryz.func20,Tryz.ntmps20
     go_wp2_with (first|((with_reducible refine cB (N:=1) rfl ?_);(try (refine cL (by rfl) ?_;dsimp only));refine cj ?hg (N:=1) ?hd (cs:=#[.bool false,.slice fC cC.length fD,.string cg,.string cN,.bool cR]) (t:=32) ?hr ?_;(case hd=>rfl);(case hg=>rfl);(case hr=>first|(go_simp;done)|(go_simp;rfl));intro gT hg Rj cE hb;have ez:=aa.mk (cE);have Mg:=aa.mk ((dI:w.heap.size≤gT));have Hf:=aa.mk ((dI:w.heap.size≤gT));replace HB:=aa.mk (aA bG hb);clear hb cE hg;have RZ:Rj.cell? ⟨gT,0,none⟩=some (.bool false):=(ah ez.out 0).trans rfl;have R3:Rj.cell? ⟨gT,1,none⟩=some (.slice fC cC.length fD):=(ah ez.out 1).trans rfl;have R4:Rj.cell? ⟨gT,2,none⟩=some (.string cg):=(ah ez.out 2).trans rfl;have ZW:Rj.cell? ⟨gT,3,none⟩=some (.string cN):=(ah ez.out 3).trans rfl;have ZX:Rj.cell? ⟨gT,4,none⟩=some (.bool cR):=(ah ez.out 4).trans rfl;have R5:=af ez.out 0;have R6:=af ez.out 1;have R7:=af ez.out 2;have ZY:=af ez.out 3;have ZZ:=af ez.out 4)|((with_reducible refine aK (f:=63) rfl ?_);refine bU (some 25) rfl rfl Tryz.func63 aq rfl #[.agg #[.string cg,.string cN,.bool cR]] rfl cz ?_;(with_reducible refine (dN.calls k cg cN cR true _ ?aT ZQ.out).mono ?_);(case aT=>exact aJ.below HG.out pM);rintro e BN ⟨rfl,hb⟩;refine ⟨_,rfl,?_⟩;replace ez:=aa.mk (aC DU hb);replace HB:=aa.mk (aA pM hb);(try clear hb);have Kr:BN.cell? ⟨gT,0,none⟩=some (.bool false):=(ah ez.out 0).trans rfl;have Ks:BN.cell? ⟨gT,1,none⟩=some (.slice fC cC.length fD):=(ah ez.out 1).trans rfl;have Kt:BN.cell? ⟨gT,2,none⟩=some (.string cg):=(ah ez.out 2).trans rfl;have Ku:BN.cell? ⟨gT,3,none⟩=some (.string cN):=(ah ez.out 3).trans rfl;have Kv:BN.cell? ⟨gT,4,none⟩=some (.bool cR):=(ah ez.out 4).trans rfl;have Kw:=af ez.out 0;have Ky:=af ez.out 1;have Kz:=af ez.out 2;have KA:=af ez.out 3;have KB:=af ez.out 4))
     try any_goals (exact (c8e.mp (by assumption)).elim)
     go_ret
     exact ⟨cH,pM⟩
   ·replace c12:=Bool.eq_false_iff.mpr c12
    subst c12
    rw [if_neg (show ¬ (false=true) by decide)] at H
    obtain rfl:=Option.some.inj H
    go_enter Tryz.func20,Tryz.ntmps20
    go_wp2_with (first|((with_reducible refine cB (N:=1) rfl ?_);(try (refine cL (by rfl) ?_;dsimp only));refine cj ?hg (N:=1) ?hd (cs:=#[.bool false,.slice fC cC.length fD,.string cg,.string cN,.bool cR]) (t:=32) ?hr ?_;(case hd=>rfl);(case hg=>rfl);(case hr=>first|(go_simp;done)|(go_simp;rfl));intro gT hg RR cE hb;have ez:=aa.mk (cE);have Mg:=aa.mk ((dI:w.heap.size≤gT));have Hf:=aa.mk ((dI:w.heap.size≤gT));replace HB:=aa.mk (aA bG hb);clear hb cE hg;have yc:RR.cell? ⟨gT,0,none⟩=some (.bool false):=(ah ez.out 0).trans rfl;have yf:RR.cell? ⟨gT,1,none⟩=some (.slice fC cC.length fD):=(ah ez.out 1).trans rfl;have yg:RR.cell? ⟨gT,2,none⟩=some (.string cg):=(ah ez.out 2).trans rfl;have Rq:RR.cell? ⟨gT,3,none⟩=some (.string cN):=(ah ez.out 3).trans rfl;have Rs:RR.cell? ⟨gT,4,none⟩=some (.bool cR):=(ah ez.out 4).trans rfl;have yh:=af ez.out 0;have yj:=af ez.out 1;have yl:=af ez.out 2;have Rt:=af ez.out 3;have Ru:=af ez.out 4)|((with_reducible refine aK (f:=63) rfl ?_);refine bU (some 25) rfl rfl Tryz.func63 aq rfl #[.agg #[.string cg,.string cN,.bool cR]] rfl cz ?_;(with_reducible refine (dN.calls k cg cN cR false _ ?aT ZQ.out).mono ?_);(case aT=>exact aJ.below HG.out pM);rintro e VG ⟨rfl,hb⟩;refine ⟨_,rfl,?_⟩;replace ez:=aa.mk (aC DU hb);replace HB:=aa.mk (aA pM hb);(try clear hb)))
    try any_goals (exact (c8e.mp (by assumption)).elim)
    go_ret
    exact ⟨cH,pM⟩
end Go.Proofs.YtokpnfljjjjikaaGreatDoor.mY
