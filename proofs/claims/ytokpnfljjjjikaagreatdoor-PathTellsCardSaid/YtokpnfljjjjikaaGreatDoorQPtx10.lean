import Derived.Test.YtokpnfljjjjikaaGreatDoorQPtx9
import Derived.Test.YtokpnfljjjjikaaGreatDoorWRepsOne
set_option maxHeartbeats 8000000
set_option maxRecDepth 100000
namespace Go.Proofs.YtokpnfljjjjikaaGreatDoor.mY
open Go.RowKit Go.Proofs.YtokpnfljjjjikaaGreatDoor.qP Go.Proofs.aj.bO Go.Proofs.aj.fA Go.Proofs.aj.cK
attribute [local go_sem] ia ig iU iV gf gh ij iq
set_option linter.unusedVariables false
set_option linter.unusedSimpArgs false
def cr.l0:Nat→List ByteArray→Int→Int→Option (Bool)
 | 0,_,_,_ =>none
 |k + 1,x6,x7,x8=>if x8 < x7 then (if 0≤x8 then (if x8 < (x6.length:Int) then ((bZ.f k (cV ByteArray.empty x6 x8)).bind fun FA=>(if FA.2.2.2.2.2.2=150 then (if FA.2.2.2.2.2.1=0 then ((br.f k FA.1 FA.2.1 FA.2.2.1 FA.2.2.2.1 FA.2.2.2.2.1 false ([]:List ByteArray) (⟨#[]⟩:ByteArray) (⟨#[]⟩:ByteArray) false).bind fun t252=>(if t252=true then (cr.l0 k x6 x7 (wrap64 (x8 + 1))) else (none))) else (none)) else (none))) else (none)) else (none)) else ((cT.f k (⟨#[60,65,46,98,64,88,45,49,46,79,114,103,62]⟩:ByteArray) false ([]:List ByteArray) (⟨#[65,46,98]⟩:ByteArray) (⟨#[120,45,49,46,111,114,103]⟩:ByteArray) false).bind fun t253=>(if t253=true then ((cT.f k (⟨#[60,34,97,92,34,98,32,99,34,64,91,49,50,55,46,48,46,48,46,49,93,62]⟩:ByteArray) false ([]:List ByteArray) (⟨#[97,34,98,32,99]⟩:ByteArray) (⟨#[49,50,55,46,48,46,48,46,49]⟩:ByteArray) true).bind fun t254=>(if t254=true then ((cT.f k (⟨#[60,64,97,46,98,44,64,67,58,100,64,101,62]⟩:ByteArray) false (([(⟨#[97,46,98]⟩:ByteArray),(⟨#[99]⟩:ByteArray)]:List ByteArray)) (⟨#[100]⟩:ByteArray) (⟨#[101]⟩:ByteArray) false).bind fun t258=>(if t258=true then ((cT.f k (⟨#[60,62]⟩:ByteArray) true ([]:List ByteArray) (⟨#[]⟩:ByteArray) (⟨#[]⟩:ByteArray) false).bind fun t259=>(if t259=true then ((cT.f k (⟨#[60,80,111,115,116,109,97,115,116,101,114,62]⟩:ByteArray) false ([]:List ByteArray) (⟨#[112,111,115,116,109,97,115,116,101,114]⟩:ByteArray) (⟨#[]⟩:ByteArray) false).bind fun t260=>(some t260)) else (none))) else (none))) else (none))) else (none)))
def cr.f (k:Nat):Option (Bool):=(some (([(⟨#[60,97,64,98]⟩:ByteArray),(⟨#[60,97,46,46,98,64,99,62]⟩:ByteArray),(⟨#[60,97,64,45,98,62]⟩:ByteArray),(⟨#[60,97,64,98,95,62]⟩:ByteArray),(⟨#[60,97,64,91,49,46,50,46,51,93,62]⟩:ByteArray),(⟨#[60,32,97,64,98,62]⟩:ByteArray),(⟨#[]⟩:ByteArray)]:List ByteArray):List ByteArray)).bind fun wY=>(cr.l0 k wY (wY.length:Int) 0)
theorem cr.dF:∀ k,(∀ y0 y1 y2,bL (cr.l0 k y0 y1 y2) (cr.l0 (k + 1) y0 y1 y2))
 | 0=>fun _ _ _ r h=>by simp [cr.l0] at h
 |k + 1=>by
  have fV:=cr.dF k
  ·intro y0 y1 y2
   unfold cr.l0
   repeat' first
   |(with_reducible first|exact fV _ _ _|exact br.mono _ _ _ _ _ _ _ _ _ _ _|exact cT.mono _ _ _ _ _ _ _|exact bZ.mono _ _|exact bL.refl _|exact bL.none _|refine bL.ite ?_ ?_|refine bL.bind ?_ (fun _ =>?_))
   |exact fV _ _ _
   |exact br.mono _ _ _ _ _ _ _ _ _ _ _
   |exact cT.mono _ _ _ _ _ _ _
   |exact bZ.mono _ _
   |exact bL.none _
   |refine bL.ite ?_ ?_
   |refine bL.bind ?_ (fun _ =>?_)
theorem cr.mono:∀ k,bL (cr.f k) (cr.f (k + 1)):=by
 intro k
 have fV:=cr.dF k
 unfold cr.f
 repeat' first
  |(with_reducible first|exact fV _ _ _|exact br.mono _ _ _ _ _ _ _ _ _ _ _|exact cT.mono _ _ _ _ _ _ _|exact bZ.mono _ _|exact bL.refl _|exact bL.none _|refine bL.ite ?_ ?_|refine bL.bind ?_ (fun _ =>?_))
  |exact fV _ _ _
  |exact br.mono _ _ _ _ _ _ _ _ _ _ _
  |exact cT.mono _ _ _ _ _ _ _
  |exact bZ.mono _ _
  |exact bL.none _
  |refine bL.ite ?_ ?_
  |refine bL.bind ?_ (fun _ =>?_)
theorem cr.calls (k:Nat) (r:Bool) (w:World) (hG:aJ w) (h:cr.f k=some r):
 Calls Tryz.prog 19 #[] w fun e w'=>e= .returned (.bool r)∧Below w.heap.size w w':=by
 have DA:=Tryz.underlying32
 have wT:=Tryz.underlying30
 have HB:=aa.mk (Below.refl w.heap.size w)
 have HG:=aa.mk hG
 clear hG
 have H:((some (([(⟨#[60,97,64,98]⟩:ByteArray),(⟨#[60,97,46,46,98,64,99,62]⟩:ByteArray),(⟨#[60,97,64,45,98,62]⟩:ByteArray),(⟨#[60,97,64,98,95,62]⟩:ByteArray),(⟨#[60,97,64,91,49,46,50,46,51,93,62]⟩:ByteArray),(⟨#[60,32,97,64,98,62]⟩:ByteArray),(⟨#[]⟩:ByteArray)]:List ByteArray):List ByteArray)).bind fun wY=>(cr.l0 k wY (wY.length:Int) 0))=some r:=h
 clear h
 obtain ⟨wY,Mc⟩:∃ y_:List ByteArray,y_=(([(⟨#[60,97,64,98]⟩:ByteArray),(⟨#[60,97,46,46,98,64,99,62]⟩:ByteArray),(⟨#[60,97,64,45,98,62]⟩:ByteArray),(⟨#[60,97,64,98,95,62]⟩:ByteArray),(⟨#[60,97,64,91,49,46,50,46,51,93,62]⟩:ByteArray),(⟨#[60,32,97,64,98,62]⟩:ByteArray),(⟨#[]⟩:ByteArray)]:List ByteArray)):=⟨_,rfl⟩
 replace H:(cr.l0 k wY (wY.length:Int) 0)=some r:=by first|(rw [Mc];with_reducible exact H)|(have uY:=(Option.bind_some _ _).symm.trans H;rw [Mc];with_reducible exact uY)|(have uY:=(Option.bind_some _ _).symm.trans H;with_reducible exact uY)|with_reducible exact H|(rw [Mc];exact H)|exact H
 have abY:=aa.mk Mc
 clear Mc
 have H':=aa.mk H
 clear H
 go_enter Tryz.func19,Tryz.ntmps19
 go_wp2_with (first|((with_reducible refine cB (N:=6) rfl ?_);(try (refine cL (by rfl) ?_;dsimp only));refine Kd.abA Kd.string _ 9 ?hg (N:=6) ?hd (xs:=([(⟨#[60,97,64,98]⟩:ByteArray),(⟨#[60,97,46,46,98,64,99,62]⟩:ByteArray),(⟨#[60,97,64,45,98,62]⟩:ByteArray),(⟨#[60,97,64,98,95,62]⟩:ByteArray),(⟨#[60,97,64,91,49,46,50,46,51,93,62]⟩:ByteArray),(⟨#[60,32,97,64,98,62]⟩:ByteArray),(⟨#[]⟩:ByteArray)]:List ByteArray)) (inner:=[.string (⟨#[60,97,64,98]⟩:ByteArray),.string (⟨#[60,97,46,46,98,64,99,62]⟩:ByteArray),.string (⟨#[60,97,64,45,98,62]⟩:ByteArray),.string (⟨#[60,97,64,98,95,62]⟩:ByteArray),.string (⟨#[60,97,64,91,49,46,50,46,51,93,62]⟩:ByteArray),.string (⟨#[60,32,97,64,98,62]⟩:ByteArray),.string (⟨#[]⟩:ByteArray)]) (ok:=fun _ =>True) (Lc:=fun _ =>True) ?hr ?hp (fun _ hk=>hk) trivial (Below.refl _ _) (Nat.le_refl _) bw ?_;(case hd=>rfl);(case hg=>rfl);(case hr=>first|(go_simp;done)|(go_simp;rfl));(case hp=>exact (iN.one (show Kd.M Kd.string _ _ _ (⟨#[60,97,64,98]⟩:ByteArray) [.string (⟨#[60,97,64,98]⟩:ByteArray)] from rfl) (iN.one (show Kd.M Kd.string _ _ _ (⟨#[60,97,46,46,98,64,99,62]⟩:ByteArray) [.string (⟨#[60,97,46,46,98,64,99,62]⟩:ByteArray)] from rfl) (iN.one (show Kd.M Kd.string _ _ _ (⟨#[60,97,64,45,98,62]⟩:ByteArray) [.string (⟨#[60,97,64,45,98,62]⟩:ByteArray)] from rfl) (iN.one (show Kd.M Kd.string _ _ _ (⟨#[60,97,64,98,95,62]⟩:ByteArray) [.string (⟨#[60,97,64,98,95,62]⟩:ByteArray)] from rfl) (iN.one (show Kd.M Kd.string _ _ _ (⟨#[60,97,64,91,49,46,50,46,51,93,62]⟩:ByteArray) [.string (⟨#[60,97,64,91,49,46,50,46,51,93,62]⟩:ByteArray)] from rfl) (iN.one (show Kd.M Kd.string _ _ _ (⟨#[60,32,97,64,98,62]⟩:ByteArray) [.string (⟨#[60,32,97,64,98,62]⟩:ByteArray)] from rfl) (iN.one (show Kd.M Kd.string _ _ _ (⟨#[]⟩:ByteArray) [.string (⟨#[]⟩:ByteArray)] from rfl) (iN.none _ _)))))))));intro avr w1 ho2 hb hg_ V8;clear hg_ V8;(first|rw [← abY.out] at ho2|(simp only [Int.reduceToNat] at ho2;rw [← abY.out] at ho2));have abZ:=aa.mk (Kd.kD ho2 (dm bG));replace HB:=aa.mk (aA bG hb);clear hb ho2;obtain ⟨Ao3,co3,eo3⟩:=Kd.gQ abZ.out;subst eo3))
 go_loopg [8] k (fun kq v8 w'=>∃ (jl:Int),v8= .int .i64 jl∧aa (cr.l0 kq wY (wY.length:Int) jl=some r)∧aa (kq≤k)∧aa (Kd.R Kd.string 9 w' w.heap.size (fun _ =>True) (.slice Ao3 wY.length co3) wY)∧aa (Below w.heap.size w w'))
 case atStart=>exact ⟨(0),b9,H',⟨Nat.le_refl _⟩,⟨by (with_reducible repeat (first|apply Kd.dQ|apply Kd.dR|apply Kd.dV));exact abZ.out⟩,⟨bG⟩⟩
 case round=>
  clear H'
  obtain ⟨jl,rfl,HA,p9,nJ,HB⟩:=hrel
  cases gk with
  |zero=>exact absurd HA.out (by simp [cr.l0])
  |succ k1=>
   have H:=HA.out
   clear HA
   simp only [cr.l0] at H
   by_cases c4:jl < (wY.length:Int)
   ·rw [if_pos c4] at H
    have nB:=decide_eq_true c4
    clear c4
    obtain ⟨c5,H⟩:=iA H
    have lF:=decide_eq_true c5
    clear c5
    obtain ⟨c6,H⟩:=iA H
    have nL:=decide_eq_true c6
    clear c6
    obtain ⟨⟨t242,t243,t246,t247,t248,t249,t250⟩,A7,H⟩:=bd_ H
    (try dsimp only at H)
    obtain ⟨c8,H⟩:=iA H
    have rK:=beq_iff_eq.mpr c8
    have Fg:=bne_eq_false_iff_eq.mpr c8
    clear c8
    obtain ⟨c9,H⟩:=iA H
    have Cg:=beq_iff_eq.mpr c9
    have TB:=bne_eq_false_iff_eq.mpr c9
    clear c9
    obtain ⟨t252,Vt,H⟩:=bd_ H
    by_cases c11:t252=true
    ·subst c11
     rw [if_pos rfl] at H
     have H':=aa.mk H
     clear H
     have adw: 0≤(jl:Int):=of_decide_eq_true bp
     have adx:jl < (wY.length:Int):=of_decide_eq_true bp
     obtain ⟨age,apl,alC⟩:=Kd.cY (Kd.cP nJ.out).2.2 jl adw adx
     cases apl
     replace adw:=eq_true adw
     replace adx:=eq_true adx
     go_wp2_with (first|((with_reducible refine aK (f:=17) rfl ?_);refine bU (some 14) rfl rfl Tryz.func17 aq rfl #[.string (cV ByteArray.empty wY jl)] rfl cz ?_;(with_reducible refine (bZ.calls k1 (cV ByteArray.empty wY jl) t242 t243 t246 t247 t248 t249 t250 _ ?aT A7.out).mono ?_);(case aT=>exact aJ.below HG.out bG);rintro e Ld ⟨avu,rfl,ho0,hb⟩;refine ⟨_,rfl,?_⟩;have Hj:=aa.mk (Kd.kD (Kd.NU ho0 (Kd.Vf uj)) (dm bG));replace nJ:=aa.mk (Kd.EY uj (Kd.NT ho0) hb);replace HB:=aa.mk (aA bG hb);(try clear hb);(try clear ho0))|((with_reducible refine cB (N:=3) rfl ?_);(try (refine cL (by rfl) ?_;dsimp only));refine cj ?hg (N:=3) ?hd (cs:=#[.bool false,.slice none 0 0,.string (⟨#[]⟩:ByteArray),.string (⟨#[]⟩:ByteArray),.bool false]) (t:=32) ?hr ?_;(case hd=>rfl);(case hg=>rfl);(case hr=>first|(go_simp;done)|(go_simp;rfl));intro qa hg Hq cE hb;replace nJ:=aa.mk (Kd.ck uj hb);replace Hj:=aa.mk (Kd.ck (by (with_reducible repeat (first|apply Kd.dQ|apply Kd.dR|apply Kd.dV));exact Hj.out) hb);have tH:=aa.mk (cE);have asr:=aa.mk ((dI:w.heap.size≤qa));have aft:=aa.mk ((dI:w.heap.size≤qa));replace HB:=aa.mk (aA bG hb);clear hb cE hg;have AP:Hq.cell? ⟨qa,0,none⟩=some (.bool false):=(ah tH.out 0).trans rfl;have AQ:Hq.cell? ⟨qa,1,none⟩=some (.slice none 0 0):=(ah tH.out 1).trans rfl;have Eo:Hq.cell? ⟨qa,2,none⟩=some (.string (⟨#[]⟩:ByteArray)):=(ah tH.out 2).trans rfl;have Kn:Hq.cell? ⟨qa,3,none⟩=some (.string (⟨#[]⟩:ByteArray)):=(ah tH.out 3).trans rfl;have Ko:Hq.cell? ⟨qa,4,none⟩=some (.bool false):=(ah tH.out 4).trans rfl;have AR:=af tH.out 0;have AU:=af tH.out 1;have Ep:=af tH.out 2;have Kp:=af tH.out 3;have Kq:=af tH.out 4;obtain ⟨Tj,NI,apm⟩:=Kd.gQ Hj.out;subst apm)|(go_at_call 18;(refine (br.calls k1 t242 _ _ t243 t246 t247 t248 false _ _ ([]:List ByteArray) (⟨#[]⟩:ByteArray) (⟨#[]⟩:ByteArray) false true _ ?aT ?cw ?fO ?sW Vt.out).mono ?_);(case aT=>refine (Kd.cP (e:=9) (base:=w.heap.size) (ok:=fun k_ =>(True∧some k_≠(.slice (some age) wY.length co3:Value).ownBlock)) (n:=t243.length) (c:=NI) ?_).2.2;exact PZ);(case cw=>exact (Kd.cP Hj.out).2.1);(case fO=>exact Kd.CP _ _);(case sW=>exact Nat.le_refl _);rintro e G5 ⟨rfl,hb⟩;replace nJ:=aa.mk (Kd.ck (by (with_reducible repeat (first|apply Kd.dQ|apply Kd.dR|apply Kd.dV));exact (Kd.fS (Kd.eB (p:=⟨qa,4,none⟩) (Kd.eB (p:=⟨qa,3,none⟩) (Kd.eB (p:=⟨qa,2,none⟩) (Kd.eB (p:=⟨qa,1,none⟩) (Kd.eB (p:=⟨qa,0,none⟩) (Kd.jW nJ.out tH.out bh) (fun _ hk=>hk.2) (.bool t242)) (fun _ hk=>hk.2) (.slice Tj t243.length NI)) (fun _ hk=>hk.2) (.string t246)) (fun _ hk=>hk.2) (.string t247)) (fun _ hk=>hk.2) (.bool t248)) (fun _ h_ =>h_.1))) hb);replace Hj:=aa.mk (Kd.ck PZ hb);replace tH:=aa.mk (aC (g:=qa) (o:= .cells #[.bool t242,.slice Tj t243.length NI,.string t246,.string t247,.bool t248] 32 (0,0)) (by (with_reducible repeat (first|refine ay ?_ _|refine az ?_|refine av ?_ _));refine bR (cs:=#[.bool t242,.slice Tj t243.length NI,.string t246,.string t247,.bool false]) ?_ 4 _ rfl;(with_reducible repeat (first|refine ay ?_ _|refine az ?_|refine av ?_ _));refine bR (cs:=#[.bool t242,.slice Tj t243.length NI,.string t246,.string (⟨#[]⟩:ByteArray),.bool false]) ?_ 3 _ rfl;(with_reducible repeat (first|refine ay ?_ _|refine az ?_|refine av ?_ _));refine bR (cs:=#[.bool t242,.slice Tj t243.length NI,.string (⟨#[]⟩:ByteArray),.string (⟨#[]⟩:ByteArray),.bool false]) ?_ 2 _ rfl;(with_reducible repeat (first|refine ay ?_ _|refine az ?_|refine av ?_ _));refine bR (cs:=#[.bool t242,.slice none 0 0,.string (⟨#[]⟩:ByteArray),.string (⟨#[]⟩:ByteArray),.bool false]) ?_ 1 _ rfl;(with_reducible repeat (first|refine ay ?_ _|refine az ?_|refine av ?_ _));refine bR (cs:=#[.bool false,.slice none 0 0,.string (⟨#[]⟩:ByteArray),.string (⟨#[]⟩:ByteArray),.bool false]) ?_ 0 _ rfl;(with_reducible repeat (first|refine ay ?_ _|refine az ?_|refine av ?_ _));exact tH.out) hb);replace HB:=aa.mk (aA Qs hb);(try clear hb);(try clear hk)))
     go_roundg k1
     case measure=>have:=p9.out;omega
     case rel=>exact ⟨(wrap64 (jl + 1)),b9,H',⟨je⟩,⟨by (with_reducible repeat (first|apply Kd.dQ|apply Kd.dR|apply Kd.dV));exact Kd.fS nJ.out (fun _ hk=>trivial)⟩,⟨Qs⟩⟩
    ·replace c11:=Bool.eq_false_iff.mpr c11
     subst c11
     rw [if_neg (show ¬ (false=true) by decide)] at H
     exact absurd H bw
   ·rw [if_neg c4] at H
    have nB:=decide_eq_false c4
    clear c4
    obtain ⟨t253,A17,H⟩:=bd_ H
    by_cases c18:t253=true
    ·subst c18
     rw [if_pos rfl] at H
     obtain ⟨t254,A19,H⟩:=bd_ H
     by_cases c20:t254=true
     ·subst c20
      rw [if_pos rfl] at H
      obtain ⟨agf,Md⟩:∃ y_:List ByteArray,y_=(([(⟨#[97,46,98]⟩:ByteArray),(⟨#[99]⟩:ByteArray)]:List ByteArray)):=⟨_,rfl⟩
      replace H:((cT.f k1 (⟨#[60,64,97,46,98,44,64,67,58,100,64,101,62]⟩:ByteArray) false agf (⟨#[100]⟩:ByteArray) (⟨#[101]⟩:ByteArray) false).bind fun t258=>(if t258=true then ((cT.f k1 (⟨#[60,62]⟩:ByteArray) true ([]:List ByteArray) (⟨#[]⟩:ByteArray) (⟨#[]⟩:ByteArray) false).bind fun t259=>(if t259=true then ((cT.f k1 (⟨#[60,80,111,115,116,109,97,115,116,101,114,62]⟩:ByteArray) false ([]:List ByteArray) (⟨#[112,111,115,116,109,97,115,116,101,114]⟩:ByteArray) (⟨#[]⟩:ByteArray) false).bind fun t260=>(some t260)) else (none))) else (none)))=some r:=by first|(rw [Md];with_reducible exact H)|(have uY:=(Option.bind_some _ _).symm.trans H;rw [Md];with_reducible exact uY)|(have uY:=(Option.bind_some _ _).symm.trans H;with_reducible exact uY)|with_reducible exact H|(rw [Md];exact H)|exact H
      have ab0:=aa.mk Md
      clear Md
      obtain ⟨t258,A21,H⟩:=bd_ H
      by_cases GU:t258=true
      ·subst GU
       rw [if_pos rfl] at H
       obtain ⟨t259,A23,H⟩:=bd_ H
       by_cases c24:t259=true
       ·subst c24
        rw [if_pos rfl] at H
        obtain ⟨t260,A25,H⟩:=bd_ H
        obtain rfl:=Option.some.inj H
        go_wp2_with (first|((with_reducible refine aK (f:=62) rfl ?_);refine bU (some 33) rfl rfl Tryz.func62 aq rfl #[.string (⟨#[60,65,46,98,64,88,45,49,46,79,114,103,62]⟩:ByteArray),.agg #[.bool false,.slice none 0 0,.string (⟨#[65,46,98]⟩:ByteArray),.string (⟨#[120,45,49,46,111,114,103]⟩:ByteArray),.bool false]] rfl cz ?_;(refine (cT.calls k1 (⟨#[60,65,46,98,64,88,45,49,46,79,114,103,62]⟩:ByteArray) false _ _ ([]:List ByteArray) (⟨#[65,46,98]⟩:ByteArray) (⟨#[120,45,49,46,111,114,103]⟩:ByteArray) false true _ ?aT ?cw ?fO A17.out).mono ?_);(case aT=>exact Kd.CP _ _);(case cw=>exact Nat.le_refl _);(case fO=>exact aJ.below HG.out bG);rintro e VG ⟨rfl,hb⟩;refine ⟨_,rfl,?_⟩;replace nJ:=aa.mk (Kd.ck uj hb);replace HB:=aa.mk (aA bG hb);(try clear hb))|(go_at_call 62;guard_target=Calls _ _ #[.string (⟨#[60,34,97,92,34,98,32,99,34,64,91,49,50,55,46,48,46,48,46,49,93,62]⟩:ByteArray),_] _ _;(refine (cT.calls k1 (⟨#[60,34,97,92,34,98,32,99,34,64,91,49,50,55,46,48,46,48,46,49,93,62]⟩:ByteArray) false _ _ ([]:List ByteArray) (⟨#[97,34,98,32,99]⟩:ByteArray) (⟨#[49,50,55,46,48,46,48,46,49]⟩:ByteArray) true true _ ?aT ?cw ?fO A19.out).mono ?_);(case aT=>exact Kd.CP _ _);(case cw=>exact Nat.le_refl _);(case fO=>exact aJ.below HG.out bG);rintro e w27 ⟨rfl,hb⟩;replace nJ:=aa.mk (Kd.ck uj hb);replace HB:=aa.mk (aA bG hb);(try clear hb))|((with_reducible refine cB (N:=40) rfl ?_);(try (refine cL (by rfl) ?_;dsimp only));refine Kd.abA Kd.string _ 9 ?hg (N:=40) ?hd (xs:=([(⟨#[97,46,98]⟩:ByteArray),(⟨#[99]⟩:ByteArray)]:List ByteArray)) (inner:=[.string (⟨#[97,46,98]⟩:ByteArray),.string (⟨#[99]⟩:ByteArray)]) (ok:=fun _ =>True) (Lc:=fun _ =>True) ?hr ?hp (fun _ hk=>hk) trivial (Below.refl _ _) (Nat.le_refl _) bw ?_;(case hd=>rfl);(case hg=>rfl);(case hr=>first|(go_simp;done)|(go_simp;rfl));(case hp=>exact (iN.one (show Kd.M Kd.string _ _ _ (⟨#[97,46,98]⟩:ByteArray) [.string (⟨#[97,46,98]⟩:ByteArray)] from rfl) (iN.one (show Kd.M Kd.string _ _ _ (⟨#[99]⟩:ByteArray) [.string (⟨#[99]⟩:ByteArray)] from rfl) (iN.none _ _))));intro avx w28 TE hb hg_ V8;clear hg_ V8;(first|rw [← ab0.out] at TE|(simp only [Int.reduceToNat] at TE;rw [← ab0.out] at TE));have EP:=aa.mk (Kd.kD (Kd.NU TE (Kd.Vf uj)) (dm bG));replace nJ:=aa.mk (Kd.EY uj (Kd.NT TE) hb);replace HB:=aa.mk (aA bG hb);clear hb TE;obtain ⟨avy,avz,apo⟩:=Kd.gQ EP.out;subst apo)|(go_at_call 62;(with_reducible refine (cT.calls k1 (⟨#[60,64,97,46,98,44,64,67,58,100,64,101,62]⟩:ByteArray) false _ _ agf (⟨#[100]⟩:ByteArray) (⟨#[101]⟩:ByteArray) false true _ ?aT ?cw ?fO A21.out).mono ?_);(case aT=>repeat (first|exact (Kd.cP EP.out).2.2|(with_reducible refine Kd.jg ?_ _)|(with_reducible refine Kd.jh ?_ _)|(with_reducible refine Kd.kL ?_)));(case cw=>exact (Kd.cP EP.out).2.1);(case fO=>exact aJ.below HG.out bG);rintro e TF ⟨rfl,hb⟩;replace nJ:=aa.mk (Kd.ck uj hb);replace EP:=aa.mk (Kd.ck I7 hb);replace HB:=aa.mk (aA bG hb);(try clear hb))|(go_at_call 62;guard_target=Calls _ _ #[.string (⟨#[60,62]⟩:ByteArray),_] _ _;(refine (cT.calls k1 (⟨#[60,62]⟩:ByteArray) true _ _ ([]:List ByteArray) (⟨#[]⟩:ByteArray) (⟨#[]⟩:ByteArray) false true _ ?aT ?cw ?fO A23.out).mono ?_);(case aT=>exact Kd.CP _ _);(case cw=>exact Nat.le_refl _);(case fO=>exact aJ.below HG.out bG);rintro e JH ⟨rfl,hb⟩;replace nJ:=aa.mk (Kd.ck uj hb);replace EP:=aa.mk (Kd.ck I7 hb);replace HB:=aa.mk (aA bG hb);(try clear hb))|(go_at_call 62;guard_target=Calls _ _ #[.string (⟨#[60,80,111,115,116,109,97,115,116,101,114,62]⟩:ByteArray),_] _ _;(refine (cT.calls k1 (⟨#[60,80,111,115,116,109,97,115,116,101,114,62]⟩:ByteArray) false _ _ ([]:List ByteArray) (⟨#[112,111,115,116,109,97,115,116,101,114]⟩:ByteArray) (⟨#[]⟩:ByteArray) false t260 _ ?aT ?cw ?fO A25.out).mono ?_);(case aT=>exact Kd.CP _ _);(case cw=>exact Nat.le_refl _);(case fO=>exact aJ.below HG.out bG);rintro e TC ⟨rfl,hb⟩;replace nJ:=aa.mk (Kd.ck uj hb);replace EP:=aa.mk (Kd.ck I7 hb);replace HB:=aa.mk (aA bG hb);(try clear hb)))
        go_ret
        exact ⟨cH,bG⟩
       ·replace c24:=Bool.eq_false_iff.mpr c24
        subst c24
        rw [if_neg (show ¬ (false=true) by decide)] at H
        exact absurd H bw
      ·replace GU:=Bool.eq_false_iff.mpr GU
       subst GU
       rw [if_neg (show ¬ (false=true) by decide)] at H
       exact absurd H bw
     ·replace c20:=Bool.eq_false_iff.mpr c20
      subst c20
      rw [if_neg (show ¬ (false=true) by decide)] at H
      exact absurd H bw
    ·replace c18:=Bool.eq_false_iff.mpr c18
     subst c18
     rw [if_neg (show ¬ (false=true) by decide)] at H
     exact absurd H bw
def jk.f (k:Nat) (a0:ByteArray):Option (Bool):=(cv.f k a0 0).bind fun Me=>(if Me.2.1=true then (if Me.2.2.2=(a0.size:Int) then ((fJ.f k a0).bind fun t266=>(some t266)) else (some false)) else (some false))
theorem jk.calls (k:Nat) (a0:ByteArray) (r:Bool) (w:World) (hG:aJ w) (h:jk.f k a0=some r):
 Calls Tryz.prog 25 #[.string a0] w fun e w'=>e= .returned (.bool r)∧Below w.heap.size w w':=by
 have afW:=Tryz.underlying82
 have HB:=aa.mk (Below.refl w.heap.size w)
 have HG:=aa.mk hG
 clear hG
 have H:((cv.f k a0 0).bind fun Me=>(if Me.2.1=true then (if Me.2.2.2=(a0.size:Int) then ((fJ.f k a0).bind fun t266=>(some t266)) else (some false)) else (some false)))=some r:=h
 clear h
 obtain ⟨⟨t262,t263,t264,t265⟩,A2,H⟩:=bd_ H
 (try dsimp only at H)
 by_cases c3:t263=true
 ·subst c3
  rw [if_pos rfl] at H
  by_cases c4:t265=(a0.size:Int)
  ·rw [if_pos c4] at H
   have nB:=beq_iff_eq.mpr c4
   have LJ:=bne_eq_false_iff_eq.mpr c4
   clear c4
   obtain ⟨t266,A5,H⟩:=bd_ H
   obtain rfl:=Option.some.inj H
   go_enter Tryz.func25,Tryz.ntmps25
   go_wp2_with (first|((with_reducible refine cB (N:=8) rfl ?_);(try (refine cL (by rfl) ?_;dsimp only));refine cj ?hg (N:=8) ?hd (cs:=#[.string a0,.int .i64 0]) (t:=82) ?hr ?_;(case hd=>rfl);(case hg=>rfl);(case hr=>first|(go_simp;done)|(go_simp;rfl));intro qZ hg w6 cE hb;have oU:=aa.mk ((⟨cE,dI⟩:aD w w6 qZ a0 0));have ab1:=aa.mk ((dI:w.heap.size≤qZ));have ab2:=aa.mk ((dI:w.heap.size≤qZ));replace HB:=aa.mk (aA bG hb);clear hb cE hg)|((with_reducible refine aK (f:=80) rfl ?_);refine bU (some 11) rfl rfl Tryz.func80 aq rfl #[.pointer (some ⟨qZ,0,none⟩)] rfl cz ?_;(with_reducible refine (cv.calls k qZ a0 0 t262 true t264 t265 w _ ?aT ?cw A2.out).mono ?_);(case aT=>repeat (first|(with_reducible first|exact oU.out|apply aD.alloc|apply aD.drewN|apply aD.drew|apply aD.gm|apply aD.gi)|exact oU.out));(case cw=>repeat (first|(with_reducible first|exact HB.out|apply aV|apply aN|apply bf|refine aZ ?_ (aD.ge oU.out))|exact HB.out));rintro e w7 ⟨rfl,hi,hb,hk⟩;refine ⟨_,rfl,?_⟩;replace HB:=aa.mk (hb);replace oU:=aa.mk (hi);(try clear hb);(try clear hk);(try clear hi);obtain ⟨E9,adj⟩:=oU.out;have zy:=dU E9;have zz:=dP E9;have zA:=af E9 0;have zB:=af E9 1;clear E9 adj)|(go_at_call 61;(with_reducible refine (fJ.calls k a0 t266 _ ?aT A5.out).mono ?_);(case aT=>exact aJ.below HG.out Af);rintro e w9 ⟨rfl,hb⟩;replace HB:=aa.mk (aA Af hb);replace oU:=aa.mk (aD.below (by repeat (first|(with_reducible first|exact oU.out|apply aD.alloc|apply aD.drewN|apply aD.drew|apply aD.gm|apply aD.gi)|exact oU.out)) hb);(try clear hb)))
   go_ret
   exact ⟨cH,Af⟩
  ·rw [if_neg c4] at H
   have nB:=beq_eq_false_iff_ne.mpr c4
   have LJ:=bne_iff_ne.mpr c4
   obtain rfl:=Option.some.inj H
   go_enter Tryz.func25,Tryz.ntmps25
   go_wp2_with (first|((with_reducible refine cB (N:=8) rfl ?_);(try (refine cL (by rfl) ?_;dsimp only));refine cj ?hg (N:=8) ?hd (cs:=#[.string a0,.int .i64 0]) (t:=82) ?hr ?_;(case hd=>rfl);(case hg=>rfl);(case hr=>first|(go_simp;done)|(go_simp;rfl));intro qZ hg um cE hb;have oU:=aa.mk ((⟨cE,dI⟩:aD w um qZ a0 0));have ab1:=aa.mk ((dI:w.heap.size≤qZ));have ab2:=aa.mk ((dI:w.heap.size≤qZ));replace HB:=aa.mk (aA bG hb);clear hb cE hg)|((with_reducible refine aK (f:=80) rfl ?_);refine bU (some 11) rfl rfl Tryz.func80 aq rfl #[.pointer (some ⟨qZ,0,none⟩)] rfl cz ?_;(with_reducible refine (cv.calls k qZ a0 0 t262 true t264 t265 w _ ?aT ?cw A2.out).mono ?_);(case aT=>repeat (first|(with_reducible first|exact oU.out|apply aD.alloc|apply aD.drewN|apply aD.drew|apply aD.gm|apply aD.gi)|exact oU.out));(case cw=>repeat (first|(with_reducible first|exact HB.out|apply aV|apply aN|apply bf|refine aZ ?_ (aD.ge oU.out))|exact HB.out));rintro e UJ ⟨rfl,hi,hb,hk⟩;refine ⟨_,rfl,?_⟩;replace HB:=aa.mk (hb);replace oU:=aa.mk (hi);(try clear hb);(try clear hk);(try clear hi);obtain ⟨wZ,V9⟩:=oU.out;have yu:=dU wZ;have yw:=dP wZ;have yx:=af wZ 0;have yz:=af wZ 1;clear wZ V9))
   go_ret
   exact ⟨cH,Af⟩
 ·replace c3:=Bool.eq_false_iff.mpr c3
  subst c3
  rw [if_neg (show ¬ (false=true) by decide)] at H
  obtain rfl:=Option.some.inj H
  go_enter Tryz.func25,Tryz.ntmps25
  go_wp2_with (first|((with_reducible refine cB (N:=8) rfl ?_);(try (refine cL (by rfl) ?_;dsimp only));refine cj ?hg (N:=8) ?hd (cs:=#[.string a0,.int .i64 0]) (t:=82) ?hr ?_;(case hd=>rfl);(case hg=>rfl);(case hr=>first|(go_simp;done)|(go_simp;rfl));intro qZ hg Hq cE hb;have oU:=aa.mk ((⟨cE,dI⟩:aD w Hq qZ a0 0));have ab1:=aa.mk ((dI:w.heap.size≤qZ));have ab2:=aa.mk ((dI:w.heap.size≤qZ));replace HB:=aa.mk (aA bG hb);clear hb cE hg)|((with_reducible refine aK (f:=80) rfl ?_);refine bU (some 11) rfl rfl Tryz.func80 aq rfl #[.pointer (some ⟨qZ,0,none⟩)] rfl cz ?_;(with_reducible refine (cv.calls k qZ a0 0 t262 false t264 t265 w _ ?aT ?cw A2.out).mono ?_);(case aT=>repeat (first|(with_reducible first|exact oU.out|apply aD.alloc|apply aD.drewN|apply aD.drew|apply aD.gm|apply aD.gi)|exact oU.out));(case cw=>repeat (first|(with_reducible first|exact HB.out|apply aV|apply aN|apply bf|refine aZ ?_ (aD.ge oU.out))|exact HB.out));rintro e w14 ⟨rfl,hi,hb,hk⟩;refine ⟨_,rfl,?_⟩;replace HB:=aa.mk (hb);replace oU:=aa.mk (hi);(try clear hb);(try clear hk);(try clear hi)))
  go_ret
  exact ⟨cH,Af⟩
def mE.f (k:Nat) (a0:ByteArray):Option (Bool):=(jk.f k a0).bind fun t267=>(if t267=true then ((cS.f a0).bind fun t268=>(some (t268.toList == a0.toList))) else (some false))
theorem mE.calls (k:Nat) (a0:ByteArray) (r:Bool) (w:World) (hG:aJ w) (h:mE.f k a0=some r):
 Calls Tryz.prog 65 #[.string a0] w fun e w'=>e= .returned (.bool r)∧Below w.heap.size w w':=by
 have HB:=aa.mk (Below.refl w.heap.size w)
 have HG:=aa.mk hG
 clear hG
 have H:((jk.f k a0).bind fun t267=>(if t267=true then ((cS.f a0).bind fun t268=>(some (t268.toList == a0.toList))) else (some false)))=some r:=h
 clear h
 obtain ⟨t267,A2,H⟩:=bd_ H
 by_cases c3:t267=true
 ·subst c3
  rw [if_pos rfl] at H
  obtain ⟨t268,A4,H⟩:=bd_ H
  obtain rfl:=Option.some.inj H
  go_enter Tryz.func65,Tryz.ntmps65
  go_wp2_with (first|((with_reducible refine aK (f:=25) rfl ?_);refine bU (some 4) rfl rfl Tryz.func25 aq rfl #[.string a0] rfl cz ?_;(with_reducible refine (jk.calls k a0 true _ ?aT A2.out).mono ?_);(case aT=>exact aJ.below HG.out bG);rintro e w5 ⟨rfl,hb⟩;refine ⟨_,rfl,?_⟩;replace HB:=aa.mk (aA bG hb);(try clear hb))|(go_at_call 81;(with_reducible refine (cS.calls a0 t268 _ A4.out).mono ?_);rintro e w6 ⟨rfl,hb⟩;replace HB:=aa.mk (aA bG hb);(try clear hb)))
  go_ret
  exact ⟨cH,bG⟩
 ·replace c3:=Bool.eq_false_iff.mpr c3
  subst c3
  rw [if_neg (show ¬ (false=true) by decide)] at H
  obtain rfl:=Option.some.inj H
  go_enter Tryz.func65,Tryz.ntmps65
  go_wp2_with (first|((with_reducible refine aK (f:=25) rfl ?_);refine bU (some 4) rfl rfl Tryz.func25 aq rfl #[.string a0] rfl cz ?_;(with_reducible refine (jk.calls k a0 false _ ?aT A2.out).mono ?_);(case aT=>exact aJ.below HG.out bG);rintro e w7 ⟨rfl,hb⟩;refine ⟨_,rfl,?_⟩;replace HB:=aa.mk (aA bG hb);(try clear hb)))
  go_ret
  exact ⟨cH,bG⟩
end Go.Proofs.YtokpnfljjjjikaaGreatDoor.mY
