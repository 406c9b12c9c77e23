import Derived.Test.YtokpnfljjjjikaaGreatDoorZo
import Derived.Test.YtokpnfljjjjikaaGreatDoorQCbx0
import Derived.Test.YtokpnfljjjjikaaGreatDoorQCbx3
import Derived.Test.YtokpnfljjjjikaaGreatDoorQCbx4
import Derived.Test.YtokpnfljjjjikaaGreatDoorQCbx5
import Derived.Test.YtokpnfljjjjikaaGreatDoorQCbx7
import Derived.Test.YtokpnfljjjjikaaGreatDoorESmall
namespace Go.Proofs.YtokpnfljjjjikaaGreatDoor.pJ
open Go.RowKit Go.Proofs.aj.bV Go.Proofs.aj.gq Go.Proofs.aj.dB
attribute [local go_sem] jo jq kM kN iO iP jr jt
set_option linter.unusedVariables false
set_option linter.unusedSimpArgs false
def cz.j0:Nat→ByteArray→Bool→ByteArray→Int→Option (ByteArray×ByteArray×Bool×Bool×ByteArray×Int)
 | 0,_,_,_,_ =>none
 |k + 1,x4,x20,iB,gi=>if x20=true then (some ((⟨#[]⟩:ByteArray),(⟨#[]⟩:ByteArray),false,false,iB,gi)) else ((bq.f iB gi 91).bind fun xz=>(if xz.1=true then ((aR.f k xz.2.1 xz.2.2).bind fun qa=>((cH.f qa.1).bind fun t194=>((bq.f qa.2.2.1 qa.2.2.2 93).bind fun kr=>(if kr.1=true then ((bZ.f k qa.1).bind fun t198=>(some (x4,t194,true,t198,kr.2.1,kr.2.2))) else (some (x4,t194,true,false,kr.2.1,kr.2.2)))))) else ((cm.f k xz.2.1 xz.2.2).bind fun qb=>(some (x4,qb.1,false,qb.2.1,qb.2.2.1,qb.2.2.2)))))
def cz.f (k:Nat) (fD:ByteArray) (cS:Int):Option (ByteArray×ByteArray×Bool×Bool×ByteArray×Int):=(cr.f k fD cS).bind fun sK=>(if sK.2.1=true then ((bq.f sK.2.2.1 sK.2.2.2 64).bind fun sL=>(cz.j0 k sK.1 (!sL.1) sL.2.1 sL.2.2)) else (cz.j0 k sK.1 true sK.2.2.1 sK.2.2.2))
theorem cz.gf:∀ k,(∀ y0 y1 y2 y3,cN (cz.j0 k y0 y1 y2 y3) (cz.j0 (k + 1) y0 y1 y2 y3))
 | 0=>fun _ _ _ _ r h=>by simp [cz.j0] at h
 |k + 1=>by
  have oo:=cz.gf k
  ·intro y0 y1 y2 y3
   unfold cz.j0
   repeat' first
   |(with_reducible exact oo _ _ _ _)
   |(with_reducible exact bZ.mono _ _)
   |(with_reducible exact cm.mono _ _ _)
   |(with_reducible exact cr.mono _ _ _)
   |(with_reducible exact aR.mono _ _ _)
   |(with_reducible exact cN.refl _)
   |(with_reducible exact cN.none _)
   |(with_reducible refine cN.ite ?_ ?_)
   |(with_reducible refine cN.bind ?_ (fun _ =>?_))
   |refine cN.ite ?_ ?_
   |refine cN.bind ?_ (fun _ =>?_)
theorem cz.mono:∀ a0 a1 k,cN (cz.f k a0 a1) (cz.f (k + 1) a0 a1):=by
 intro a0 a1 k
 have oo:=cz.gf k
 unfold cz.f
 repeat' first
  |(with_reducible exact oo _ _ _ _)
  |(with_reducible exact bZ.mono _ _)
  |(with_reducible exact cm.mono _ _ _)
  |(with_reducible exact cr.mono _ _ _)
  |(with_reducible exact aR.mono _ _ _)
  |(with_reducible exact cN.refl _)
  |(with_reducible exact cN.none _)
  |(with_reducible refine cN.ite ?_ ?_)
  |(with_reducible refine cN.bind ?_ (fun _ =>?_))
  |refine cN.ite ?_ ?_
  |refine cN.bind ?_ (fun _ =>?_)
set_option maxHeartbeats 8000000 in
set_option maxRecDepth 100000 in
theorem cz.calls (k:Nat) (g:Nat) (fD:ByteArray) (cS:Int) (r1:ByteArray) (r2:ByteArray) (r3:Bool) (r4:Bool) (r5:ByteArray) (r6:Int) (w0 w:World) (hI:aA w0 w g fD cS) (hB:Below w0.heap.size w0 w) (hG:aU w0) (h:cz.f k fD cS=some (r1,r2,r3,r4,r5,r6)):
 Calls Tryz.prog 71 #[.pointer (some ⟨g,0,none⟩)] w fun e w'=>e= .returned (.tuple #[.agg #[.string r1,.string r2,.bool r3],.bool r4])∧aA w0 w' g r5 r6∧Below w0.heap.size w0 w'∧bC w w' g none:=by
 have LP:=Tryz.underlying30
 have dI:=ah.mk hI
 have HK:=ah.mk (bC.refl w g none)
 have HL:=ah.mk hB.size
 clear hI
 have T9:=ah.mk hB.size
 have HB:=ah.mk hB
 clear hB
 have HG:=ah.mk hG
 clear hG
 have H:((cr.f k fD cS).bind fun sK=>(if sK.2.1=true then ((bq.f sK.2.2.1 sK.2.2.2 64).bind fun sL=>(cz.j0 k sK.1 (!sL.1) sL.2.1 sL.2.2)) else (cz.j0 k sK.1 true sK.2.2.1 sK.2.2.2)))=some (r1,r2,r3,r4,r5,r6):=h
 clear h
 replace H:=Option.bind_eq_some_iff.mp H
 obtain ⟨⟨t180,t181,t182,t183⟩,nU,H⟩:=H
 replace H:(if t181=true then ((bq.f t182 t183 64).bind fun sL=>(cz.j0 k t180 (!sL.1) sL.2.1 sL.2.2)) else (cz.j0 k t180 true t182 t183))=some (r1,r2,r3,r4,r5,r6):=H
 have A2:=ah.mk nU
 clear nU
 have Vn:=ah.mk H
 clear H
 go_enter Tryz.func71,Tryz.ntmps71
 go_upto_region 2 with (first|((with_reducible refine cC (N:=2) rfl ?_);refine b9 ?hg (N:=2) ?hd (cs:=#[.string (⟨#[]⟩:ByteArray),.string (⟨#[]⟩:ByteArray),.bool false]) (t:=30) ?hr ?_;(case hd=>rfl);(case hg=>rfl);(case hr=>first|(go_simp;done)|(go_simp;rfl));intro ku hg w4 cJ hb;have bB:=ah.mk (aA.below iG hb);have bL:=ah.mk (bC.trans eP (bC.of_below hb g none) (.inl rfl));have bY:=ah.mk (ay iF hb);have cK:=ah.mk (cJ);have gY:=ah.mk ((PV:w.heap.size≤ku));have jc:=ah.mk ((Nat.le_trans T9.out (PV:w.heap.size≤ku):w0.heap.size≤ku));have nH:=ah.mk ((by rw [hg];exact Nat.ne_of_lt (aA.lt (show aA w0 _ g fD cS from by repeat (first|(with_reducible first|exact dI.out|apply aA.alloc|apply aA.drewN|apply aA.drew|apply aA.fZ|apply aA.fV)|exact dI.out))):g≠ku));have zq:=ah.mk ((by rw [hg];exact Nat.ne_of_gt (aA.lt (show aA w0 _ g fD cS from by repeat (first|(with_reducible first|exact dI.out|apply aA.alloc|apply aA.drewN|apply aA.drew|apply aA.fZ|apply aA.fV)|exact dI.out))):ku≠g));clear dI;clear HK;clear HB;have dI:=bB;have HK:=bL;have HB:=bY;have gQ:=cK;have adn:=gY;have wT:=jc;have mo:=nH;have nA:=zq;clear bB bL bY cK gY jc nH zq;clear hb cJ hg)|((with_reducible refine aQ (f:=123) rfl ?_);refine cu (some 11) rfl rfl Tryz.func123 av rfl #[.pointer (some ⟨g,0,none⟩)] rfl cT ?_;(with_reducible refine (cr.calls k g fD cS t180 t181 t182 t183 w0 _ ?aX ?bT A2.out).mono ?_);(case aX=>repeat (first|(with_reducible first|exact dI.out|apply aA.alloc|apply aA.drewN|apply aA.drew|apply aA.fZ|apply aA.fV|refine aA.far ?_ mo.out _)|exact dI.out));(case bT=>repeat (first|(with_reducible first|exact HB.out|apply aB|apply aC|apply br|refine bh ?_ (aA.ge dI.out)|refine bh ?_ wT.out)|exact HB.out));rintro e w5 ⟨rfl,hi,hb,hk⟩;refine ⟨_,rfl,?_⟩;have bB:=ah.mk (bC.blk hk (g':=ku) (o:= .cells #[.string (⟨#[]⟩:ByteArray),.string (⟨#[]⟩:ByteArray),.bool false] 30 (0,0)) oZ nA.out bn);have bL:=ah.mk (bC.trans mh hk (.inl rfl));have bY:=ah.mk (hb);have cK:=ah.mk (hi);clear gQ;clear HK;clear HB;clear dI;have gQ:=bB;have HK:=bL;have HB:=bY;have dI:=cK;clear bB bL bY cK;(try clear hb);(try clear hb2);(try clear hk);(try clear hi)))
 (try simp only [Act.put,List.setIfInBounds_toArray,List.set_cons_zero,List.set_cons_succ])
 go_cut [20] (fun v20 wc=>∃ (kq:Nat) (RI:Bool) (um:ByteArray) (uo:Int),v20= .bool RI∧ah (cz.j0 kq t180 RI um uo=some (r1,r2,r3,r4,r5,r6))∧ah (kq≤k)∧ah (wc.heap[ku]? =some (.cells #[.string (⟨#[]⟩:ByteArray),.string (⟨#[]⟩:ByteArray),.bool false] 30 (0,0)))∧ah (aA w0 wc g um uo)∧ah (bC w wc g none)∧ah (Below w0.heap.size w0 wc))
 case first=>
  have H:=Vn.out
  clear Vn
  by_cases c6:t181=true
  ·subst c6
   have H1:((bq.f t182 t183 64).bind fun sL=>(cz.j0 k t180 (!sL.1) sL.2.1 sL.2.2))=some (r1,r2,r3,r4,r5,r6):=by rw [if_pos rfl] at H;exact H
   clear H
   have H:=H1
   clear H1
   replace H:=Option.bind_eq_some_iff.mp H
   obtain ⟨⟨t184,t185,t186⟩,Hg,H⟩:=H
   replace H:(cz.j0 k t180 (!t184) t185 t186)=some (r1,r2,r3,r4,r5,r6):=H
   have A7:=ah.mk Hg
   clear Hg
   have H':=ah.mk H
   clear H
   go_wp2_with (first|(go_at_call 56;(with_reducible refine (bq.calls g t182 t183 64 t184 t185 t186 w0 _ ?aX ?bT A7.out).mono ?_);(case aX=>repeat (first|(with_reducible first|exact dI.out|apply aA.alloc|apply aA.drewN|apply aA.drew|apply aA.fZ|apply aA.fV|refine aA.far ?_ mo.out _)|exact dI.out));(case bT=>repeat (first|(with_reducible first|exact HB.out|apply aB|apply aC|apply br|refine bh ?_ (aA.ge dI.out)|refine bh ?_ wT.out)|exact HB.out));rintro e w8 ⟨rfl,hi,hb,hk⟩;have bB:=ah.mk (bC.blk hk (g':=ku) (o:= .cells #[.string (⟨#[]⟩:ByteArray),.string (⟨#[]⟩:ByteArray),.bool false] 30 (0,0)) oZ nA.out bn);have bL:=ah.mk (bC.trans mh hk (.inl rfl));have bY:=ah.mk (hb);have cK:=ah.mk (hi);clear gQ;clear HK;clear HB;clear dI;have gQ:=bB;have HK:=bL;have HB:=bY;have dI:=cK;clear bB bL bY cK;(try clear hb);(try clear hb2);(try clear hk);(try clear hi)))
   go_meet
   case rel=>exact ⟨_,(!t184),(t185),(t186),ey,H',⟨lU⟩,⟨oZ⟩,⟨uT⟩,⟨mh⟩,⟨uu⟩⟩
  ·replace c6:=Bool.eq_false_iff.mpr c6
   subst c6
   have H1:(cz.j0 k t180 true t182 t183)=some (r1,r2,r3,r4,r5,r6):=by rw [if_neg (show ¬ (false=true) by decide)] at H;exact H
   clear H
   have H:=H1
   clear H1
   have H':=ah.mk H
   clear H
   go_wp2
   go_meet
   case rel=>exact ⟨_,(true),(t182),(t183),ey,H',⟨lU⟩,⟨oZ⟩,⟨uT⟩,⟨mh⟩,⟨uu⟩⟩
 case rest=>
  clear Vn
  try clear c1
  try clear p2
  try clear c6
  try clear c7
  obtain ⟨kq,RI,um,uo,rfl,HA,HJ2,gQ,dI,HK,HB⟩:=hcut
  cases kq with
  |zero=>exact absurd HA.out (by simp [cz.j0])
  |succ Di=>
   have H:=HA.out
   clear HA
   simp only [cz.j0] at H
   by_cases c9:RI=true
   ·subst c9
    have H1:(some ((⟨#[]⟩:ByteArray),(⟨#[]⟩:ByteArray),false,false,um,uo))=some (r1,r2,r3,r4,r5,r6):=by rw [if_pos rfl] at H;exact H
    clear H
    have H:=H1
    clear H1
    simp only [Option.some.injEq,Prod.mk.injEq] at H
    obtain ⟨rfl,rfl,rfl,rfl,rfl,rfl⟩:=H
    have adN:=nA.out
    have adO:=mo.out
    have tD:wc.cell? ⟨ku,0,none⟩=some (.string (⟨#[]⟩:ByteArray)):=(af gQ.out 0).trans rfl
    have tE:wc.cell? ⟨ku,1,none⟩=some (.string (⟨#[]⟩:ByteArray)):=(af gQ.out 1).trans rfl
    have tF:wc.cell? ⟨ku,2,none⟩=some (.bool false):=(af gQ.out 2).trans rfl
    have tG:=aa gQ.out 0
    have tH:=aa gQ.out 1
    have tI:=aa gQ.out 2
    go_wp2
    refine bodyPost_ret (dw rfl _ _ ku 30 #[.string (⟨#[]⟩:ByteArray),.string (⟨#[]⟩:ByteArray),.bool false] (0,0) _ rfl (by (with_reducible repeat (first|refine au ?_ _|refine aG ?_|refine az ?_ _));refine bw (cs:=#[.string (⟨#[]⟩:ByteArray),.string (⟨#[]⟩:ByteArray),.bool false]) ?_ 2 _ rfl;(with_reducible repeat (first|refine au ?_ _|refine aG ?_|refine az ?_ _));refine bw (cs:=#[.string (⟨#[]⟩:ByteArray),.string (⟨#[]⟩:ByteArray),.bool false]) ?_ 1 _ rfl;(with_reducible repeat (first|refine au ?_ _|refine aG ?_|refine az ?_ _));refine bw (cs:=#[.string (⟨#[]⟩:ByteArray),.string (⟨#[]⟩:ByteArray),.bool false]) ?_ 0 _ rfl;(with_reducible repeat (first|refine au ?_ _|refine aG ?_|refine az ?_ _));exact gQ.out) Tryz.underlying30 rfl av) rfl ?_
    exact ⟨cR,uT,uu,mh⟩
   ·replace c9:=Bool.eq_false_iff.mpr c9
    subst c9
    have H1:((bq.f um uo 91).bind fun xz=>(if xz.1=true then ((aR.f Di xz.2.1 xz.2.2).bind fun qa=>((cH.f qa.1).bind fun t194=>((bq.f qa.2.2.1 qa.2.2.2 93).bind fun kr=>(if kr.1=true then ((bZ.f Di qa.1).bind fun t198=>(some (t180,t194,true,t198,kr.2.1,kr.2.2))) else (some (t180,t194,true,false,kr.2.1,kr.2.2)))))) else ((cm.f Di xz.2.1 xz.2.2).bind fun qb=>(some (t180,qb.1,false,qb.2.1,qb.2.2.1,qb.2.2.2)))))=some (r1,r2,r3,r4,r5,r6):=by rw [if_neg (show ¬ (false=true) by decide)] at H;exact H
    clear H
    have H:=H1
    clear H1
    replace H:=Option.bind_eq_some_iff.mp H
    obtain ⟨⟨t187,t188,t189⟩,FI,H⟩:=H
    replace H:(if t187=true then ((aR.f Di t188 t189).bind fun qa=>((cH.f qa.1).bind fun t194=>((bq.f qa.2.2.1 qa.2.2.2 93).bind fun kr=>(if kr.1=true then ((bZ.f Di qa.1).bind fun t198=>(some (t180,t194,true,t198,kr.2.1,kr.2.2))) else (some (t180,t194,true,false,kr.2.1,kr.2.2)))))) else ((cm.f Di t188 t189).bind fun qb=>(some (t180,qb.1,false,qb.2.1,qb.2.2.1,qb.2.2.2))))=some (r1,r2,r3,r4,r5,r6):=H
    have Lp:=ah.mk FI
    clear FI
    by_cases c13:t187=true
    ·subst c13
     have H1:((aR.f Di t188 t189).bind fun qa=>((cH.f qa.1).bind fun t194=>((bq.f qa.2.2.1 qa.2.2.2 93).bind fun kr=>(if kr.1=true then ((bZ.f Di qa.1).bind fun t198=>(some (t180,t194,true,t198,kr.2.1,kr.2.2))) else (some (t180,t194,true,false,kr.2.1,kr.2.2))))))=some (r1,r2,r3,r4,r5,r6):=by rw [if_pos rfl] at H;exact H
     clear H
     have H:=H1
     clear H1
     replace H:=Option.bind_eq_some_iff.mp H
     obtain ⟨⟨t190,t191,t192,t193⟩,Bi,H⟩:=H
     replace H:((cH.f t190).bind fun t194=>((bq.f t192 t193 93).bind fun kr=>(if kr.1=true then ((bZ.f Di t190).bind fun t198=>(some (t180,t194,true,t198,kr.2.1,kr.2.2))) else (some (t180,t194,true,false,kr.2.1,kr.2.2)))))=some (r1,r2,r3,r4,r5,r6):=H
     have Vy:=ah.mk Bi
     clear Bi
     replace H:=Option.bind_eq_some_iff.mp H
     obtain ⟨t194,VM,H⟩:=H
     replace H:((bq.f t192 t193 93).bind fun kr=>(if kr.1=true then ((bZ.f Di t190).bind fun t198=>(some (t180,t194,true,t198,kr.2.1,kr.2.2))) else (some (t180,t194,true,false,kr.2.1,kr.2.2))))=some (r1,r2,r3,r4,r5,r6):=H
     have A15:=ah.mk VM
     clear VM
     replace H:=Option.bind_eq_some_iff.mp H
     obtain ⟨⟨t195,t196,t197⟩,Mx,H⟩:=H
     replace H:(if t195=true then ((bZ.f Di t190).bind fun t198=>(some (t180,t194,true,t198,t196,t197))) else (some (t180,t194,true,false,t196,t197)))=some (r1,r2,r3,r4,r5,r6):=H
     have A16:=ah.mk Mx
     clear Mx
     by_cases c17:t195=true
     ·subst c17
      have H1:((bZ.f Di t190).bind fun t198=>(some (t180,t194,true,t198,t196,t197)))=some (r1,r2,r3,r4,r5,r6):=by rw [if_pos rfl] at H;exact H
      clear H
      have H:=H1
      clear H1
      replace H:=Option.bind_eq_some_iff.mp H
      obtain ⟨t198,VN,H⟩:=H
      replace H:(some (t180,t194,true,t198,t196,t197))=some (r1,r2,r3,r4,r5,r6):=H
      have A18:=ah.mk VN
      clear VN
      simp only [Option.some.injEq,Prod.mk.injEq] at H
      obtain ⟨rfl,rfl,rfl,rfl,rfl,rfl⟩:=H
      go_wp2_with (first|((with_reducible refine aQ (f:=56) rfl ?_);refine cu (some 23) rfl rfl Tryz.func56 av rfl #[.pointer (some ⟨g,0,none⟩),.int .u8 91] rfl cT ?_;(with_reducible refine (bq.calls g um uo 91 true t188 t189 w0 _ ?aX ?bT Lp.out).mono ?_);(case aX=>repeat (first|(with_reducible first|exact dI.out|apply aA.alloc|apply aA.drewN|apply aA.drew|apply aA.fZ|apply aA.fV|refine aA.far ?_ mo.out _)|exact dI.out));(case bT=>repeat (first|(with_reducible first|exact HB.out|apply aB|apply aC|apply br|refine bh ?_ (aA.ge dI.out)|refine bh ?_ wT.out)|exact HB.out));rintro e ze ⟨rfl,hi,hb,hk⟩;refine ⟨_,rfl,?_⟩;have bB:=ah.mk (bC.blk hk (g':=ku) (o:= .cells #[.string (⟨#[]⟩:ByteArray),.string (⟨#[]⟩:ByteArray),.bool false] 30 (0,0)) oZ nA.out bn);have bL:=ah.mk (bC.trans mh hk (.inl rfl));have bY:=ah.mk (hb);have cK:=ah.mk (hi);clear gQ;clear HK;clear HB;clear dI;have gQ:=bB;have HK:=bL;have HB:=bY;have dI:=cK;clear bB bL bY cK;(try clear hb);(try clear hb2);(try clear hk);(try clear hi))|((with_reducible refine aQ (f:=119) rfl ?_);refine cu (some 26) rfl rfl Tryz.func119 av rfl #[.pointer (some ⟨g,0,none⟩),.func (.func 124) #[] #[]] rfl cT ?_;(with_reducible refine (aR.calls Di g t188 t189 t190 t191 t192 t193 w0 _ ?aX ?bT Vy.out).mono ?_);(case aX=>repeat (first|(with_reducible first|exact dI.out|apply aA.alloc|apply aA.drewN|apply aA.drew|apply aA.fZ|apply aA.fV|refine aA.far ?_ mo.out _)|exact dI.out));(case bT=>repeat (first|(with_reducible first|exact HB.out|apply aB|apply aC|apply br|refine bh ?_ (aA.ge dI.out)|refine bh ?_ wT.out)|exact HB.out));rintro e OM ⟨rfl,hi,hb,hk⟩;refine ⟨_,rfl,?_⟩;have bB:=ah.mk (bC.blk hk (g':=ku) (o:= .cells #[.string (⟨#[]⟩:ByteArray),.string (⟨#[]⟩:ByteArray),.bool false] 30 (0,0)) oZ nA.out bn);have bL:=ah.mk (bC.trans mh hk (.inl rfl));have bY:=ah.mk (hb);have cK:=ah.mk (hi);clear gQ;clear HK;clear HB;clear dI;have gQ:=bB;have HK:=bL;have HB:=bY;have dI:=cK;clear bB bL bY cK;(try clear hb);(try clear hb2);(try clear hk);(try clear hi))|((with_reducible refine aQ (f:=81) rfl ?_);refine cu (some 31) rfl rfl Tryz.func81 av rfl #[.string t190] rfl cT ?_;(with_reducible refine (cH.calls t190 t194 _ A15.out).mono ?_);rintro e w21 ⟨rfl,hb⟩;refine ⟨_,rfl,?_⟩;have bB:=ah.mk (aM (g:=ku) (o:= .cells #[.string (⟨#[]⟩:ByteArray),.string (⟨#[]⟩:ByteArray),.bool false] 30 (0,0)) oZ hb);have bL:=ah.mk (aA.below uT hb);have bY:=ah.mk (bC.trans mh (bC.of_below hb g none) (.inl rfl));have cK:=ah.mk (ay uu hb);clear gQ;clear dI;clear HK;clear HB;have gQ:=bB;have dI:=bL;have HK:=bY;have HB:=cK;clear bB bL bY cK;(try clear hb);(try clear hb2);(try clear hk);(try clear hi))|((with_reducible refine aQ (f:=56) rfl ?_);refine cu (some 34) rfl rfl Tryz.func56 av rfl #[.pointer (some ⟨g,0,none⟩),.int .u8 93] rfl cT ?_;(with_reducible refine (bq.calls g t192 t193 93 true t196 t197 w0 _ ?aX ?bT A16.out).mono ?_);(case aX=>repeat (first|(with_reducible first|exact dI.out|apply aA.alloc|apply aA.drewN|apply aA.drew|apply aA.fZ|apply aA.fV|refine aA.far ?_ mo.out _)|exact dI.out));(case bT=>repeat (first|(with_reducible first|exact HB.out|apply aB|apply aC|apply br|refine bh ?_ (aA.ge dI.out)|refine bh ?_ wT.out)|exact HB.out));rintro e Gx ⟨rfl,hi,hb,hk⟩;refine ⟨_,rfl,?_⟩;have bB:=ah.mk (bC.blk hk (g':=ku) (o:= .cells #[.string (⟨#[]⟩:ByteArray),.string (⟨#[]⟩:ByteArray),.bool false] 30 (0,0)) oZ nA.out bn);have bL:=ah.mk (bC.trans mh hk (.inl rfl));have bY:=ah.mk (hb);have cK:=ah.mk (hi);clear gQ;clear HK;clear HB;clear dI;have gQ:=bB;have HK:=bL;have HB:=bY;have dI:=cK;clear bB bL bY cK;(try clear hb);(try clear hb2);(try clear hk);(try clear hi))|(go_at_call 27;(with_reducible refine (bZ.calls Di t190 t198 _ ?aX A18.out).mono ?_);(case aX=>exact aU.below HG.out uu);rintro e Mo ⟨rfl,hb⟩;have bB:=ah.mk (aM (g:=ku) (o:= .cells #[.string (⟨#[]⟩:ByteArray),.string (⟨#[]⟩:ByteArray),.bool false] 30 (0,0)) oZ hb);have bL:=ah.mk (aA.below uT hb);have bY:=ah.mk (bC.trans mh (bC.of_below hb g none) (.inl rfl));have cK:=ah.mk (ay uu hb);clear gQ;clear dI;clear HK;clear HB;have gQ:=bB;have dI:=bL;have HK:=bY;have HB:=cK;clear bB bL bY cK;(try clear hb);(try clear hb2);(try clear hk);(try clear hi);have aem:=nA.out;have aen:=mo.out;have ud:Mo.cell? ⟨ku,0,none⟩=some (.string (⟨#[]⟩:ByteArray)):=(af gQ.out 0).trans rfl;have ue:Mo.cell? ⟨ku,1,none⟩=some (.string (⟨#[]⟩:ByteArray)):=(af gQ.out 1).trans rfl;have uf:Mo.cell? ⟨ku,2,none⟩=some (.bool false):=(af gQ.out 2).trans rfl;have ug:=aa gQ.out 0;have uh:=aa gQ.out 1;have uj:=aa gQ.out 2))
      refine bodyPost_ret (dw rfl _ _ ku 30 #[.string t180,.string t194,.bool true] (0,0) _ rfl U2 Tryz.underlying30 rfl av) rfl ?_
      exact ⟨cR,uT,uu,mh⟩
     ·replace c17:=Bool.eq_false_iff.mpr c17
      subst c17
      have H1:(some (t180,t194,true,false,t196,t197))=some (r1,r2,r3,r4,r5,r6):=by rw [if_neg (show ¬ (false=true) by decide)] at H;exact H
      clear H
      have H:=H1
      clear H1
      simp only [Option.some.injEq,Prod.mk.injEq] at H
      obtain ⟨rfl,rfl,rfl,rfl,rfl,rfl⟩:=H
      go_wp2_with (first|((with_reducible refine aQ (f:=56) rfl ?_);refine cu (some 23) rfl rfl Tryz.func56 av rfl #[.pointer (some ⟨g,0,none⟩),.int .u8 91] rfl cT ?_;(with_reducible refine (bq.calls g um uo 91 true t188 t189 w0 _ ?aX ?bT Lp.out).mono ?_);(case aX=>repeat (first|(with_reducible first|exact dI.out|apply aA.alloc|apply aA.drewN|apply aA.drew|apply aA.fZ|apply aA.fV|refine aA.far ?_ mo.out _)|exact dI.out));(case bT=>repeat (first|(with_reducible first|exact HB.out|apply aB|apply aC|apply br|refine bh ?_ (aA.ge dI.out)|refine bh ?_ wT.out)|exact HB.out));rintro e zK ⟨rfl,hi,hb,hk⟩;refine ⟨_,rfl,?_⟩;have bB:=ah.mk (bC.blk hk (g':=ku) (o:= .cells #[.string (⟨#[]⟩:ByteArray),.string (⟨#[]⟩:ByteArray),.bool false] 30 (0,0)) oZ nA.out bn);have bL:=ah.mk (bC.trans mh hk (.inl rfl));have bY:=ah.mk (hb);have cK:=ah.mk (hi);clear gQ;clear HK;clear HB;clear dI;have gQ:=bB;have HK:=bL;have HB:=bY;have dI:=cK;clear bB bL bY cK;(try clear hb);(try clear hb2);(try clear hk);(try clear hi))|((with_reducible refine aQ (f:=119) rfl ?_);refine cu (some 26) rfl rfl Tryz.func119 av rfl #[.pointer (some ⟨g,0,none⟩),.func (.func 124) #[] #[]] rfl cT ?_;(with_reducible refine (aR.calls Di g t188 t189 t190 t191 t192 t193 w0 _ ?aX ?bT Vy.out).mono ?_);(case aX=>repeat (first|(with_reducible first|exact dI.out|apply aA.alloc|apply aA.drewN|apply aA.drew|apply aA.fZ|apply aA.fV|refine aA.far ?_ mo.out _)|exact dI.out));(case bT=>repeat (first|(with_reducible first|exact HB.out|apply aB|apply aC|apply br|refine bh ?_ (aA.ge dI.out)|refine bh ?_ wT.out)|exact HB.out));rintro e VO ⟨rfl,hi,hb,hk⟩;refine ⟨_,rfl,?_⟩;have bB:=ah.mk (bC.blk hk (g':=ku) (o:= .cells #[.string (⟨#[]⟩:ByteArray),.string (⟨#[]⟩:ByteArray),.bool false] 30 (0,0)) oZ nA.out bn);have bL:=ah.mk (bC.trans mh hk (.inl rfl));have bY:=ah.mk (hb);have cK:=ah.mk (hi);clear gQ;clear HK;clear HB;clear dI;have gQ:=bB;have HK:=bL;have HB:=bY;have dI:=cK;clear bB bL bY cK;(try clear hb);(try clear hb2);(try clear hk);(try clear hi))|((with_reducible refine aQ (f:=81) rfl ?_);refine cu (some 31) rfl rfl Tryz.func81 av rfl #[.string t190] rfl cT ?_;(with_reducible refine (cH.calls t190 t194 _ A15.out).mono ?_);rintro e VP ⟨rfl,hb⟩;refine ⟨_,rfl,?_⟩;have bB:=ah.mk (aM (g:=ku) (o:= .cells #[.string (⟨#[]⟩:ByteArray),.string (⟨#[]⟩:ByteArray),.bool false] 30 (0,0)) oZ hb);have bL:=ah.mk (aA.below uT hb);have bY:=ah.mk (bC.trans mh (bC.of_below hb g none) (.inl rfl));have cK:=ah.mk (ay uu hb);clear gQ;clear dI;clear HK;clear HB;have gQ:=bB;have dI:=bL;have HK:=bY;have HB:=cK;clear bB bL bY cK;(try clear hb);(try clear hb2);(try clear hk);(try clear hi))|((with_reducible refine aQ (f:=56) rfl ?_);refine cu (some 34) rfl rfl Tryz.func56 av rfl #[.pointer (some ⟨g,0,none⟩),.int .u8 93] rfl cT ?_;(with_reducible refine (bq.calls g t192 t193 93 false t196 t197 w0 _ ?aX ?bT A16.out).mono ?_);(case aX=>repeat (first|(with_reducible first|exact dI.out|apply aA.alloc|apply aA.drewN|apply aA.drew|apply aA.fZ|apply aA.fV|refine aA.far ?_ mo.out _)|exact dI.out));(case bT=>repeat (first|(with_reducible first|exact HB.out|apply aB|apply aC|apply br|refine bh ?_ (aA.ge dI.out)|refine bh ?_ wT.out)|exact HB.out));rintro e w29 ⟨rfl,hi,hb,hk⟩;refine ⟨_,rfl,?_⟩;have bB:=ah.mk (bC.blk hk (g':=ku) (o:= .cells #[.string (⟨#[]⟩:ByteArray),.string (⟨#[]⟩:ByteArray),.bool false] 30 (0,0)) oZ nA.out bn);have bL:=ah.mk (bC.trans mh hk (.inl rfl));have bY:=ah.mk (hb);have cK:=ah.mk (hi);clear gQ;clear HK;clear HB;clear dI;have gQ:=bB;have HK:=bL;have HB:=bY;have dI:=cK;clear bB bL bY cK;(try clear hb);(try clear hb2);(try clear hk);(try clear hi);have aas:=nA.out;have aat:=mo.out;have yN:w29.cell? ⟨ku,0,none⟩=some (.string (⟨#[]⟩:ByteArray)):=(af gQ.out 0).trans rfl;have yO:w29.cell? ⟨ku,1,none⟩=some (.string (⟨#[]⟩:ByteArray)):=(af gQ.out 1).trans rfl;have Bk:w29.cell? ⟨ku,2,none⟩=some (.bool false):=(af gQ.out 2).trans rfl;have yP:=aa gQ.out 0;have yQ:=aa gQ.out 1;have Bl:=aa gQ.out 2))
      refine bodyPost_ret (dw rfl _ _ ku 30 #[.string t180,.string t194,.bool true] (0,0) _ rfl U2 Tryz.underlying30 rfl av) rfl ?_
      exact ⟨cR,uT,uu,mh⟩
    ·replace c13:=Bool.eq_false_iff.mpr c13
     subst c13
     have H1:((cm.f Di t188 t189).bind fun qb=>(some (t180,qb.1,false,qb.2.1,qb.2.2.1,qb.2.2.2)))=some (r1,r2,r3,r4,r5,r6):=by rw [if_neg (show ¬ (false=true) by decide)] at H;exact H
     clear H
     have H:=H1
     clear H1
     replace H:=Option.bind_eq_some_iff.mp H
     obtain ⟨⟨t199,t200,t201,t202⟩,VQ,H⟩:=H
     replace H:(some (t180,t199,false,t200,t201,t202))=some (r1,r2,r3,r4,r5,r6):=H
     have A32:=ah.mk VQ
     clear VQ
     simp only [Option.some.injEq,Prod.mk.injEq] at H
     obtain ⟨rfl,rfl,rfl,rfl,rfl,rfl⟩:=H
     go_wp2_with (first|((with_reducible refine aQ (f:=56) rfl ?_);refine cu (some 23) rfl rfl Tryz.func56 av rfl #[.pointer (some ⟨g,0,none⟩),.int .u8 91] rfl cT ?_;(with_reducible refine (bq.calls g um uo 91 false t188 t189 w0 _ ?aX ?bT Lp.out).mono ?_);(case aX=>repeat (first|(with_reducible first|exact dI.out|apply aA.alloc|apply aA.drewN|apply aA.drew|apply aA.fZ|apply aA.fV|refine aA.far ?_ mo.out _)|exact dI.out));(case bT=>repeat (first|(with_reducible first|exact HB.out|apply aB|apply aC|apply br|refine bh ?_ (aA.ge dI.out)|refine bh ?_ wT.out)|exact HB.out));rintro e NN ⟨rfl,hi,hb,hk⟩;refine ⟨_,rfl,?_⟩;have bB:=ah.mk (bC.blk hk (g':=ku) (o:= .cells #[.string (⟨#[]⟩:ByteArray),.string (⟨#[]⟩:ByteArray),.bool false] 30 (0,0)) oZ nA.out bn);have bL:=ah.mk (bC.trans mh hk (.inl rfl));have bY:=ah.mk (hb);have cK:=ah.mk (hi);clear gQ;clear HK;clear HB;clear dI;have gQ:=bB;have HK:=bL;have HB:=bY;have dI:=cK;clear bB bL bY cK;(try clear hb);(try clear hb2);(try clear hk);(try clear hi))|((with_reducible refine aQ (f:=80) rfl ?_);refine cu (some 41) rfl rfl Tryz.func80 av rfl #[.pointer (some ⟨g,0,none⟩)] rfl cT ?_;(with_reducible refine (cm.calls Di g t188 t189 t199 t200 t201 t202 w0 _ ?aX ?bT A32.out).mono ?_);(case aX=>repeat (first|(with_reducible first|exact dI.out|apply aA.alloc|apply aA.drewN|apply aA.drew|apply aA.fZ|apply aA.fV|refine aA.far ?_ mo.out _)|exact dI.out));(case bT=>repeat (first|(with_reducible first|exact HB.out|apply aB|apply aC|apply br|refine bh ?_ (aA.ge dI.out)|refine bh ?_ wT.out)|exact HB.out));rintro e Bn ⟨rfl,hi,hb,hk⟩;refine ⟨_,rfl,?_⟩;have bB:=ah.mk (bC.blk hk (g':=ku) (o:= .cells #[.string (⟨#[]⟩:ByteArray),.string (⟨#[]⟩:ByteArray),.bool false] 30 (0,0)) oZ nA.out bn);have bL:=ah.mk (bC.trans mh hk (.inl rfl));have bY:=ah.mk (hb);have cK:=ah.mk (hi);clear gQ;clear HK;clear HB;clear dI;have gQ:=bB;have HK:=bL;have HB:=bY;have dI:=cK;clear bB bL bY cK;(try clear hb);(try clear hb2);(try clear hk);(try clear hi);have aeo:=nA.out;have aep:=mo.out;have yG:Bn.cell? ⟨ku,0,none⟩=some (.string (⟨#[]⟩:ByteArray)):=(af gQ.out 0).trans rfl;have yH:Bn.cell? ⟨ku,1,none⟩=some (.string (⟨#[]⟩:ByteArray)):=(af gQ.out 1).trans rfl;have yI:Bn.cell? ⟨ku,2,none⟩=some (.bool false):=(af gQ.out 2).trans rfl;have yJ:=aa gQ.out 0;have yK:=aa gQ.out 1;have yL:=aa gQ.out 2))
     refine bodyPost_ret (dw rfl _ _ ku 30 #[.string t180,.string t199,.bool false] (0,0) _ rfl (by (with_reducible repeat (first|refine au ?_ _|refine aG ?_|refine az ?_ _));refine bw (cs:=#[.string t180,.string t199,.bool false]) ?_ 2 _ rfl;(with_reducible repeat (first|refine au ?_ _|refine aG ?_|refine az ?_ _));refine bw (cs:=#[.string t180,.string (⟨#[]⟩:ByteArray),.bool false]) ?_ 1 _ rfl;(with_reducible repeat (first|refine au ?_ _|refine aG ?_|refine az ?_ _));refine bw (cs:=#[.string (⟨#[]⟩:ByteArray),.string (⟨#[]⟩:ByteArray),.bool false]) ?_ 0 _ rfl;(with_reducible repeat (first|refine au ?_ _|refine aG ?_|refine az ?_ _));exact gQ.out) Tryz.underlying30 rfl av) rfl ?_
     exact ⟨cR,uT,uu,mh⟩
def eN.f (k:Nat) (bg:ByteArray) (bI:ByteArray) (bJ:Bool):Option (Bool):=if (bg.size:Int)≤64 then (if bJ=true then (some true) else ((fI.f k bI).bind fun t204=>(some t204))) else (some false)
theorem eN.mono:∀ a0 a1 a2 k,cN (eN.f k a0 a1 a2) (eN.f (k + 1) a0 a1 a2):=by
 intro a0 a1 a2 k
 unfold eN.f
 repeat' first
  |(with_reducible exact fI.mono _ _)
  |(with_reducible exact cN.refl _)
  |(with_reducible exact cN.none _)
  |(with_reducible refine cN.ite ?_ ?_)
  |(with_reducible refine cN.bind ?_ (fun _ =>?_))
  |refine cN.ite ?_ ?_
  |refine cN.bind ?_ (fun _ =>?_)
set_option maxHeartbeats 8000000 in
set_option maxRecDepth 100000 in
theorem eN.calls (k:Nat) (bg:ByteArray) (bI:ByteArray) (bJ:Bool) (r:Bool) (w:World) (hG:aU w) (h:eN.f k bg bI bJ=some r):
 Calls Tryz.prog 58 #[.agg #[.string bg,.string bI,.bool bJ]] w fun e w'=>e= .returned (.bool r)∧Below w.heap.size w w':=by
 have LP:=Tryz.underlying30
 have HB:=ah.mk (Below.refl w.heap.size w)
 have HG:=ah.mk hG
 clear hG
 have H:(if (bg.size:Int)≤64 then (if bJ=true then (some true) else ((fI.f k bI).bind fun t204=>(some t204))) else (some false))=some r:=h
 clear h
 by_cases c2:(bg.size:Int)≤64
 ·rw [if_pos c2] at H
  have B6:decide ((bg.size:Int)≤64)=true:=decide_eq_true c2
  have OB:decide (bg.size≤64)=true:=decide_eq_true aq
  clear c2
  by_cases c3:bJ=true
  ·subst c3
   have H1:(some true)=some r:=by rw [if_pos rfl] at H;exact H
   clear H
   have H:=H1
   clear H1
   obtain rfl:=Option.some.inj H
   go_enter Tryz.func58,Tryz.ntmps58
   go_wp2_with (first|((with_reducible refine cC (N:=1) rfl ?_);refine b9 ?hg (N:=1) ?hd (cs:=#[.string bg,.string bI,.bool true]) (t:=30) ?hr ?_;(case hd=>rfl);(case hg=>rfl);(case hr=>first|(go_simp;done)|(go_simp;rfl));intro qw hg w4 cJ hb;have bB:=ah.mk (ay bN hb);have bL:=ah.mk (cJ);have bY:=ah.mk ((dz:w.heap.size≤qw));have cK:=ah.mk ((dz:w.heap.size≤qw));clear HB;have HB:=bB;have nL:=bL;have aau:=bY;have U3:=cK;clear bB bL bY cK;clear hb cJ hg;have J4:w4.cell? ⟨qw,0,none⟩=some (.string bg):=(af nL.out 0).trans rfl;have J5:w4.cell? ⟨qw,1,none⟩=some (.string bI):=(af nL.out 1).trans rfl;have OO:w4.cell? ⟨qw,2,none⟩=some (.bool true):=(af nL.out 2).trans rfl;have J6:=aa nL.out 0;have J7:=aa nL.out 1;have OP:=aa nL.out 2))
   go_ret
   exact ⟨cR,z6⟩
  ·replace c3:=Bool.eq_false_iff.mpr c3
   subst c3
   have H1:((fI.f k bI).bind fun t204=>(some t204))=some r:=by rw [if_neg (show ¬ (false=true) by decide)] at H;exact H
   clear H
   have H:=H1
   clear H1
   replace H:=Option.bind_eq_some_iff.mp H
   obtain ⟨t204,xw,H⟩:=H
   replace H:(some t204)=some r:=H
   have A6:=ah.mk xw
   clear xw
   obtain rfl:=Option.some.inj H
   go_enter Tryz.func58,Tryz.ntmps58
   go_wp2_with (first|((with_reducible refine cC (N:=1) rfl ?_);refine b9 ?hg (N:=1) ?hd (cs:=#[.string bg,.string bI,.bool false]) (t:=30) ?hr ?_;(case hd=>rfl);(case hg=>rfl);(case hr=>first|(go_simp;done)|(go_simp;rfl));intro qw hg w7 cJ hb;have bB:=ah.mk (ay bN hb);have bL:=ah.mk (cJ);have bY:=ah.mk ((dz:w.heap.size≤qw));have cK:=ah.mk ((dz:w.heap.size≤qw));clear HB;have HB:=bB;have nL:=bL;have aau:=bY;have U3:=cK;clear bB bL bY cK;clear hb cJ hg;have xh:w7.cell? ⟨qw,0,none⟩=some (.string bg):=(af nL.out 0).trans rfl;have xj:w7.cell? ⟨qw,1,none⟩=some (.string bI):=(af nL.out 1).trans rfl;have BZ:w7.cell? ⟨qw,2,none⟩=some (.bool false):=(af nL.out 2).trans rfl;have xk:=aa nL.out 0;have xm:=aa nL.out 1;have B0:=aa nL.out 2)|(go_at_call 61;(with_reducible refine (fI.calls k bI t204 _ ?aX A6.out).mono ?_);(case aX=>exact aU.below HG.out z6);rintro e w9 ⟨rfl,hb⟩;have bB:=ah.mk (aM (g:=qw) (o:= .cells #[.string bg,.string bI,.bool false] 30 (0,0)) (by (with_reducible repeat (first|refine au ?_ _|refine aG ?_|refine az ?_ _));exact nL.out) hb);have bL:=ah.mk (ay z6 hb);clear nL;clear HB;have nL:=bB;have HB:=bL;clear bB bL;(try clear hb);(try clear hb2);(try clear hk);(try clear hi)))
   go_ret
   exact ⟨cR,z6⟩
 ·rw [if_neg c2] at H
  have B6:decide ((bg.size:Int)≤64)=false:=decide_eq_false c2
  have OB:decide (bg.size≤64)=false:=decide_eq_false aq
  clear c2
  obtain rfl:=Option.some.inj H
  go_enter Tryz.func58,Tryz.ntmps58
  go_wp2_with (first|((with_reducible refine cC (N:=1) rfl ?_);refine b9 ?hg (N:=1) ?hd (cs:=#[.string bg,.string bI,.bool bJ]) (t:=30) ?hr ?_;(case hd=>rfl);(case hg=>rfl);(case hr=>first|(go_simp;done)|(go_simp;rfl));intro qw hg uk cJ hb;have bB:=ah.mk (ay bN hb);have bL:=ah.mk (cJ);have bY:=ah.mk ((dz:w.heap.size≤qw));have cK:=ah.mk ((dz:w.heap.size≤qw));clear HB;have HB:=bB;have nL:=bL;have aau:=bY;have U3:=cK;clear bB bL bY cK;clear hb cJ hg;have tD:uk.cell? ⟨qw,0,none⟩=some (.string bg):=(af nL.out 0).trans rfl;have tE:uk.cell? ⟨qw,1,none⟩=some (.string bI):=(af nL.out 1).trans rfl;have tF:uk.cell? ⟨qw,2,none⟩=some (.bool bJ):=(af nL.out 2).trans rfl;have tG:=aa nL.out 0;have tH:=aa nL.out 1;have tI:=aa nL.out 2))
  go_ret
  exact ⟨cR,z6⟩
def gp.f (k:Nat) (a0:ByteArray):Option (Bool):=(fI.f k a0).bind fun t205=>(some (!t205))
theorem gp.mono:∀ a0 k,cN (gp.f k a0) (gp.f (k + 1) a0):=by
 intro a0 k
 unfold gp.f
 repeat' first
  |(with_reducible exact fI.mono _ _)
  |(with_reducible exact cN.refl _)
  |(with_reducible exact cN.none _)
  |(with_reducible refine cN.ite ?_ ?_)
  |(with_reducible refine cN.bind ?_ (fun _ =>?_))
  |refine cN.ite ?_ ?_
  |refine cN.bind ?_ (fun _ =>?_)
set_option maxHeartbeats 8000000 in
set_option maxRecDepth 100000 in
theorem gp.calls (k:Nat) (a0:ByteArray) (r:Bool) (w:World) (hG:aU w) (h:gp.f k a0=some r):
 Calls Tryz.prog 60 #[.string a0] w fun e w'=>e= .returned (.bool r)∧Below w.heap.size w w':=by
 have HB:=ah.mk (Below.refl w.heap.size w)
 have HG:=ah.mk hG
 clear hG
 have H:((fI.f k a0).bind fun t205=>(some (!t205)))=some r:=h
 clear h
 replace H:=Option.bind_eq_some_iff.mp H
 obtain ⟨t205,nU,H⟩:=H
 replace H:(some (!t205))=some r:=H
 have A2:=ah.mk nU
 clear nU
 obtain rfl:=Option.some.inj H
 go_enter Tryz.func60,Tryz.ntmps60
 go_wp2_with (first|((with_reducible refine aQ (f:=61) rfl ?_);refine cu (some 4) rfl rfl Tryz.func61 av rfl #[.string a0] rfl cT ?_;(with_reducible refine (fI.calls k a0 t205 _ ?aX A2.out).mono ?_);(case aX=>exact aU.below HG.out bN);rintro e w3 ⟨rfl,hb⟩;refine ⟨_,rfl,?_⟩;have bB:=ah.mk (ay bN hb);clear HB;have HB:=bB;clear bB;(try clear hb);(try clear hb2);(try clear hk);(try clear hi)))
 go_ret
 exact ⟨cR,bN⟩
def aI.l0:Nat→List ByteArray→Int→Int→Option (Int)
 | 0,_,_,_ =>none
 |k + 1,x0,x7,x8=>if x8 < x7 then (if 0≤x8 then (if x8 < (x0.length:Int) then ((gp.f k (kB ByteArray.empty x0 x8)).bind fun t207=>(if t207=true then (some x8) else (aI.l0 k x0 x7 (wrap64 (x8 + 1))))) else (none)) else (none)) else (some (-1))
def aI.f (k:Nat) (l0:List ByteArray):Option (Int):=aI.l0 k l0 (l0.length:Int) 0
theorem aI.gf:∀ k,(∀ y0 y1 y2,cN (aI.l0 k y0 y1 y2) (aI.l0 (k + 1) y0 y1 y2))
 | 0=>fun _ _ _ r h=>by simp [aI.l0] at h
 |k + 1=>by
  have oo:=aI.gf k
  ·intro y0 y1 y2
   unfold aI.l0
   repeat' first
   |(with_reducible exact oo _ _ _)
   |(with_reducible exact gp.mono _ _)
   |(with_reducible exact cN.refl _)
   |(with_reducible exact cN.none _)
   |(with_reducible refine cN.ite ?_ ?_)
   |(with_reducible refine cN.bind ?_ (fun _ =>?_))
   |refine cN.ite ?_ ?_
   |refine cN.bind ?_ (fun _ =>?_)
theorem aI.mono:∀ a0 k,cN (aI.f k a0) (aI.f (k + 1) a0):=by
 intro a0 k
 have oo:=aI.gf k
 unfold aI.f
 repeat' first
  |(with_reducible exact oo _ _ _)
  |(with_reducible exact gp.mono _ _)
  |(with_reducible exact cN.refl _)
  |(with_reducible exact cN.none _)
  |(with_reducible refine cN.ite ?_ ?_)
  |(with_reducible refine cN.bind ?_ (fun _ =>?_))
  |refine cN.ite ?_ ?_
  |refine cN.bind ?_ (fun _ =>?_)
set_option maxHeartbeats 8000000 in
set_option maxRecDepth 100000 in
theorem aI.calls (k:Nat) (A0:Option Addr) (c0:Nat) (l0:List ByteArray) (r:Int) (w:World) (zH:Kd.C Kd.string w A0 l0.length l0) (hc0:l0.length≤c0) (hG:aU w) (h:aI.f k l0=some r):
 Calls Tryz.prog 117 #[.slice A0 l0.length c0,.func (.func 60) #[] #[]] w fun e w'=>e= .returned (.int .i64 r)∧Below w.heap.size w w':=by
 have yM:=ah.mk zH
 have Rt:=ah.mk hc0
 clear zH hc0
 have HB:=ah.mk (Below.refl w.heap.size w)
 have HG:=ah.mk hG
 clear hG
 have H:(aI.l0 k l0 (l0.length:Int) 0)=some r:=h
 clear h
 have H':=ah.mk H
 clear H
 go_enter Tryz.func117,Tryz.ntmps117
 go_wp2
 go_loopg [8] k (fun kq v8 w'=>∃ (fA:Int),v8= .int .i64 fA∧ah (aI.l0 kq l0 (l0.length:Int) fA=some r)∧ah (kq≤k)∧ah (Below w.heap.size w w'))
 case atStart=>exact ⟨(0),ey,H',⟨Nat.le_refl _⟩,⟨bN⟩⟩
 case round=>
  clear H'
  try clear c1
  try clear p2
  obtain ⟨fA,rfl,HA,uX,HB⟩:=hrel
  cases gk with
  |zero=>exact absurd HA.out (by simp [aI.l0])
  |succ k1=>
   have H:=HA.out
   clear HA
   simp only [aI.l0] at H
   by_cases c3:fA < (l0.length:Int)
   ·rw [if_pos c3] at H
    have pX:decide (fA < (l0.length:Int))=true:=decide_eq_true c3
    clear c3
    by_cases c4: 0≤fA
    ·rw [if_pos c4] at H
     have o9:decide (0≤fA)=true:=decide_eq_true c4
     clear c4
     by_cases c5:fA < (l0.length:Int)
     ·rw [if_pos c5] at H
      have uB:decide (fA < (l0.length:Int))=true:=decide_eq_true c5
      clear c5
      replace H:=Option.bind_eq_some_iff.mp H
      obtain ⟨t207,xw,H⟩:=H
      replace H:(if t207=true then (some fA) else (aI.l0 k1 l0 (l0.length:Int) (wrap64 (fA + 1))))=some r:=H
      have A6:=ah.mk xw
      clear xw
      by_cases c7:t207=true
      ·subst c7
       have H1:(some fA)=some r:=by rw [if_pos rfl] at H;exact H
       clear H
       have H:=H1
       clear H1
       obtain rfl:=Option.some.inj H
       have OQ: 0≤(fA:Int):=of_decide_eq_true cW
       have OS:fA < (l0.length:Int):=of_decide_eq_true cW
       obtain ⟨aer,abF,wm⟩:=Kd.jA yM.out fA OQ OS
       cases abF
       replace wm:=(HB.out.cell (World.block_lt_of_cell? w _ wm)).trans wm
       replace OQ:=eq_true OQ
       replace OS:=eq_true OS
       go_wp2_with (first|(go_at_call 60;(with_reducible refine (gp.calls k1 (kB ByteArray.empty l0 fA) true _ ?aX A6.out).mono ?_);(case aX=>exact aU.below HG.out bN);rintro e w8 ⟨rfl,hb⟩;have bB:=ah.mk (ay bN hb);clear HB;have HB:=bB;clear bB;(try clear hb);(try clear hb2);(try clear hk);(try clear hi)))
       go_ret
       exact ⟨cR,bN⟩
      ·replace c7:=Bool.eq_false_iff.mpr c7
       subst c7
       have H1:(aI.l0 k1 l0 (l0.length:Int) (wrap64 (fA + 1)))=some r:=by rw [if_neg (show ¬ (false=true) by decide)] at H;exact H
       clear H
       have H:=H1
       clear H1
       have H':=ah.mk H
       clear H
       have OQ: 0≤(fA:Int):=of_decide_eq_true cW
       have OS:fA < (l0.length:Int):=of_decide_eq_true cW
       obtain ⟨aer,abF,wm⟩:=Kd.jA yM.out fA OQ OS
       cases abF
       replace wm:=(HB.out.cell (World.block_lt_of_cell? w _ wm)).trans wm
       replace OQ:=eq_true OQ
       replace OS:=eq_true OS
       go_wp2_with (first|(go_at_call 60;(with_reducible refine (gp.calls k1 (kB ByteArray.empty l0 fA) false _ ?aX A6.out).mono ?_);(case aX=>exact aU.below HG.out bN);rintro e w9 ⟨rfl,hb⟩;have bB:=ah.mk (ay bN hb);clear HB;have HB:=bB;clear bB;(try clear hb);(try clear hb2);(try clear hk);(try clear hi)))
       go_roundg k1
       case measure=>have:=uX.out;omega
       case rel=>exact ⟨(wrap64 (fA + 1)),ey,H',⟨j6⟩,⟨bN⟩⟩
     ·rw [if_neg c5] at H
      exact absurd H bn
    ·rw [if_neg c4] at H
     exact absurd H bn
   ·rw [if_neg c3] at H
    have pX:decide (fA < (l0.length:Int))=false:=decide_eq_false c3
    clear c3
    obtain rfl:=Option.some.inj H
    go_wp2
    go_ret
    exact ⟨cR,bN⟩
def bD.f (k:Nat) (l0:List ByteArray):Option (Bool):=(aI.f k l0).bind fun t208=>(some (decide (t208≥0)))
theorem bD.mono:∀ a0 k,cN (bD.f k a0) (bD.f (k + 1) a0):=by
 intro a0 k
 unfold bD.f
 repeat' first
  |(with_reducible exact aI.mono _ _)
  |(with_reducible exact cN.refl _)
  |(with_reducible exact cN.none _)
  |(with_reducible refine cN.ite ?_ ?_)
  |(with_reducible refine cN.bind ?_ (fun _ =>?_))
  |refine cN.ite ?_ ?_
  |refine cN.bind ?_ (fun _ =>?_)
set_option maxHeartbeats 8000000 in
set_option maxRecDepth 100000 in
theorem bD.calls (k:Nat) (A0:Option Addr) (c0:Nat) (l0:List ByteArray) (r:Bool) (w:World) (zH:Kd.C Kd.string w A0 l0.length l0) (hc0:l0.length≤c0) (hG:aU w) (h:bD.f k l0=some r):
 Calls Tryz.prog 59 #[.slice A0 l0.length c0,.func (.func 60) #[] #[]] w fun e w'=>e= .returned (.bool r)∧Below w.heap.size w w':=by
 have yM:=ah.mk zH
 have Rt:=ah.mk hc0
 clear zH hc0
 have HB:=ah.mk (Below.refl w.heap.size w)
 have HG:=ah.mk hG
 clear hG
 have H:((aI.f k l0).bind fun t208=>(some (decide (t208≥0))))=some r:=h
 clear h
 replace H:=Option.bind_eq_some_iff.mp H
 obtain ⟨t208,zl,H⟩:=H
 replace H:(some (decide (t208≥0)))=some r:=H
 have A3:=ah.mk zl
 clear zl
 obtain rfl:=Option.some.inj H
 go_enter Tryz.func59,Tryz.ntmps59
 go_wp2_with (first|((with_reducible refine aQ (f:=117) rfl ?_);refine cu (some 7) rfl rfl Tryz.func117 av rfl #[.slice A0 l0.length c0,.func (.func 60) #[] #[]] rfl cT ?_;(with_reducible refine (aI.calls k _ _ l0 t208 _ ?aX ?bT ?eo A3.out).mono ?_);(case aX=>repeat (first|exact yM.out|(with_reducible refine Kd.eJ ?_ _)|(with_reducible refine Kd.eK ?_ _)|(with_reducible refine Kd.fR ?_)));(case bT=>exact Rt.out);(case eo=>exact aU.below HG.out bN);rintro e w4 ⟨rfl,hb⟩;refine ⟨_,rfl,?_⟩;have bB:=ah.mk (ay bN hb);clear HB;have HB:=bB;clear bB;(try clear hb);(try clear hb2);(try clear hk);(try clear hi)))
 go_ret
 exact ⟨cR,bN⟩
end Go.Proofs.YtokpnfljjjjikaaGreatDoor.pJ
