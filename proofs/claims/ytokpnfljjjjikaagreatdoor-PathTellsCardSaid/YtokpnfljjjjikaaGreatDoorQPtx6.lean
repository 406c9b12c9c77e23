import Derived.Test.YtokpnfljjjjikaaGreatDoorQPtx5
set_option maxHeartbeats 8000000
set_option maxRecDepth 100000
namespace Go.Proofs.YtokpnfljjjjikaaGreatDoor.mY
open Go.RowKit Go.Proofs.YtokpnfljjjjikaaGreatDoor.qP Go.Proofs.aj.bO Go.Proofs.aj.fA Go.Proofs.aj.cK
attribute [local go_sem] ia ig iU iV gf gh ij iq
set_option linter.unusedVariables false
set_option linter.unusedSimpArgs false
def cA.j0:Nat→ByteArray→Bool→ByteArray→Int→Option (ByteArray×ByteArray×Bool×Bool×ByteArray×Int)
 | 0,_,_,_,_ =>none
 |k + 1,x4,x20,iJ,fY=>if x20=true then (some ((⟨#[]⟩:ByteArray),(⟨#[]⟩:ByteArray),false,false,iJ,fY)) else ((bV.f iJ fY 91).bind fun L9=>(if L9.1=true then ((bg.f k L9.2.1 L9.2.2).bind fun Rg=>((cS.f Rg.1).bind fun t178=>((bV.f Rg.2.2.1 Rg.2.2.2 93).bind fun Ma=>(if Ma.1=true then ((cI.f k Rg.1).bind fun t182=>(some (x4,t178,true,t182,Ma.2.1,Ma.2.2))) else (some (x4,t178,true,false,Ma.2.1,Ma.2.2)))))) else ((cv.f k L9.2.1 L9.2.2).bind fun Rh=>(some (x4,Rh.1,false,Rh.2.1,Rh.2.2.1,Rh.2.2.2)))))
def cA.f (k:Nat) (fB:ByteArray) (eA:Int):Option (ByteArray×ByteArray×Bool×Bool×ByteArray×Int):=(cu.f k fB eA).bind fun sQ=>(if sQ.2.1=true then ((bV.f sQ.2.2.1 sQ.2.2.2 64).bind fun Fj=>(cA.j0 k sQ.1 (!Fj.1) Fj.2.1 Fj.2.2)) else (cA.j0 k sQ.1 true sQ.2.2.1 sQ.2.2.2))
theorem cA.dF:∀ k,(∀ y0 y1 y2 y3,bL (cA.j0 k y0 y1 y2 y3) (cA.j0 (k + 1) y0 y1 y2 y3))
 | 0=>fun _ _ _ _ r h=>by simp [cA.j0] at h
 |k + 1=>by
  have fV:=cA.dF k
  ·intro y0 y1 y2 y3
   unfold cA.j0
   repeat' first
   |(with_reducible first|exact fV _ _ _ _|exact cI.mono _ _|exact cv.mono _ _ _|exact cu.mono _ _ _|exact bg.mono _ _ _|exact bL.refl _|exact bL.none _|refine bL.ite ?_ ?_|refine bL.bind ?_ (fun _ =>?_))
   |exact fV _ _ _ _
   |exact cI.mono _ _
   |exact cv.mono _ _ _
   |exact cu.mono _ _ _
   |exact bg.mono _ _ _
   |exact bL.none _
   |refine bL.ite ?_ ?_
   |refine bL.bind ?_ (fun _ =>?_)
theorem cA.mono:∀ a0 a1 k,bL (cA.f k a0 a1) (cA.f (k + 1) a0 a1):=by
 intro a0 a1 k
 have fV:=cA.dF k
 unfold cA.f
 repeat' first
  |(with_reducible first|exact fV _ _ _ _|exact cI.mono _ _|exact cv.mono _ _ _|exact cu.mono _ _ _|exact bg.mono _ _ _|exact bL.refl _|exact bL.none _|refine bL.ite ?_ ?_|refine bL.bind ?_ (fun _ =>?_))
  |exact fV _ _ _ _
  |exact cI.mono _ _
  |exact cv.mono _ _ _
  |exact cu.mono _ _ _
  |exact bg.mono _ _ _
  |exact bL.none _
  |refine bL.ite ?_ ?_
  |refine bL.bind ?_ (fun _ =>?_)
theorem cA.calls (k:Nat) (g:Nat) (fB:ByteArray) (eA:Int) (r1:ByteArray) (r2:ByteArray) (r3:Bool) (r4:Bool) (r5:ByteArray) (r6:Int) (w0 w:World) (hI:aD w0 w g fB eA) (hB:Below w0.heap.size w0 w) (hG:aJ w0) (h:cA.f k fB eA=some (r1,r2,r3,r4,r5,r6)):
 Calls Tryz.prog 71 #[.pointer (some ⟨g,0,none⟩)] w fun e w'=>e= .returned (.tuple #[.agg #[.string r1,.string r2,.bool r3],.bool r4])∧aD w0 w' g r5 r6∧Below w0.heap.size w0 w'∧bM w w' g none:=by
 have wT:=Tryz.underlying30
 have eW:=aa.mk hI
 have HK:=aa.mk (bM.refl w g none)
 have HL:=aa.mk hB.size
 clear hI
 have UI:=aa.mk hB.size
 have HB:=aa.mk hB
 clear hB
 have HG:=aa.mk hG
 clear hG
 have H:((cu.f k fB eA).bind fun sQ=>(if sQ.2.1=true then ((bV.f sQ.2.2.1 sQ.2.2.2 64).bind fun Fj=>(cA.j0 k sQ.1 (!Fj.1) Fj.2.1 Fj.2.2)) else (cA.j0 k sQ.1 true sQ.2.2.1 sQ.2.2.2)))=some (r1,r2,r3,r4,r5,r6):=h
 clear h
 obtain ⟨⟨t164,t165,t166,t167⟩,A2,H⟩:=bd_ H
 (try dsimp only at H)
 have Fk:=aa.mk H
 clear H
 go_enter Tryz.func71,Tryz.ntmps71
 go_upto_region 2 with (first|((with_reducible refine cB (N:=2) rfl ?_);refine cj ?hg (N:=2) ?hd (cs:=#[.string (⟨#[]⟩:ByteArray),.string (⟨#[]⟩:ByteArray),.bool false]) (t:=30) ?hr ?_;(case hd=>rfl);(case hg=>rfl);(case hr=>first|(go_simp;done)|(go_simp;rfl));intro lB hg w4 cE hb;replace HB:=aa.mk (aA gy hb);have jq:=aa.mk (cE);have afm:=aa.mk ((Ql:w.heap.size≤lB));have wj:=aa.mk ((Nat.le_trans UI.out (Ql:w.heap.size≤lB):w0.heap.size≤lB));replace HK:=aa.mk (bM.trans fo (bM.of_below hb g none) (.inl rfl));have mR:=aa.mk ((by rw [hg];exact Nat.ne_of_lt (aD.lt (show aD w0 _ g fB eA from by repeat (first|(with_reducible first|exact eW.out|apply aD.alloc|apply aD.drewN|apply aD.drew|apply aD.gm|apply aD.gi)|exact eW.out))):g≠lB));have nG:=aa.mk ((by rw [hg];exact Nat.ne_of_gt (aD.lt (show aD w0 _ g fB eA from by repeat (first|(with_reducible first|exact eW.out|apply aD.alloc|apply aD.drewN|apply aD.drew|apply aD.gm|apply aD.gi)|exact eW.out))):lB≠g));replace eW:=aa.mk (aD.below gz hb);clear hb cE hg)|((with_reducible refine aK (f:=123) rfl ?_);refine bU (some 11) rfl rfl Tryz.func123 aq rfl #[.pointer (some ⟨g,0,none⟩)] rfl cz ?_;(with_reducible refine (cu.calls k g fB eA t164 t165 t166 t167 w0 _ ?aT ?cw A2.out).mono ?_);(case aT=>repeat (first|(with_reducible first|exact eW.out|apply aD.alloc|apply aD.drewN|apply aD.drew|apply aD.gm|apply aD.gi|refine aD.far ?_ mR.out _)|exact eW.out));(case cw=>repeat (first|(with_reducible first|exact HB.out|apply aV|apply aN|apply bf|refine aZ ?_ (aD.ge eW.out)|refine aZ ?_ wj.out)|exact HB.out));rintro e w5 ⟨rfl,hi,hb,hk⟩;refine ⟨_,rfl,?_⟩;replace jq:=aa.mk (bM.blk hk (g':=lB) (o:= .cells #[.string (⟨#[]⟩:ByteArray),.string (⟨#[]⟩:ByteArray),.bool false] 30 (0,0)) oK nG.out bw);replace HK:=aa.mk (bM.trans mM hk (.inl rfl));replace HB:=aa.mk (hb);replace eW:=aa.mk (hi);(try clear hb);(try clear hk);(try clear hi)))
 (try simp only [Act.put,List.setIfInBounds_toArray,List.set_cons_zero,List.set_cons_succ])
 go_cut [20] (fun v20 wc=>∃ (kq:Nat) (Ri:Bool) (xZ:ByteArray) (ya:Int),v20= .bool Ri∧aa (cA.j0 kq t164 Ri xZ ya=some (r1,r2,r3,r4,r5,r6))∧aa (kq≤k)∧aa (wc.heap[lB]? =some (.cells #[.string (⟨#[]⟩:ByteArray),.string (⟨#[]⟩:ByteArray),.bool false] 30 (0,0)))∧aa (aD w0 wc g xZ ya)∧aa (bM w wc g none)∧aa (Below w0.heap.size w0 wc))
 case first=>
  have H:=Fk.out
  clear Fk
  by_cases c6:t165=true
  ·subst c6
   rw [if_pos rfl] at H
   obtain ⟨⟨t168,t169,t170⟩,A7,H⟩:=bd_ H
   (try dsimp only at H)
   have H':=aa.mk H
   clear H
   go_wp2_with (first|(go_at_call 56;(with_reducible refine (bV.calls g t166 t167 64 t168 t169 t170 w0 _ ?aT ?cw A7.out).mono ?_);(case aT=>repeat (first|(with_reducible first|exact eW.out|apply aD.alloc|apply aD.drewN|apply aD.drew|apply aD.gm|apply aD.gi|refine aD.far ?_ mR.out _)|exact eW.out));(case cw=>repeat (first|(with_reducible first|exact HB.out|apply aV|apply aN|apply bf|refine aZ ?_ (aD.ge eW.out)|refine aZ ?_ wj.out)|exact HB.out));rintro e w8 ⟨rfl,hi,hb,hk⟩;replace jq:=aa.mk (bM.blk hk (g':=lB) (o:= .cells #[.string (⟨#[]⟩:ByteArray),.string (⟨#[]⟩:ByteArray),.bool false] 30 (0,0)) oK nG.out bw);replace HK:=aa.mk (bM.trans mM hk (.inl rfl));replace HB:=aa.mk (hb);replace eW:=aa.mk (hi);(try clear hb);(try clear hk);(try clear hi)))
   go_meet
   case rel=>exact ⟨_,(!t168),(t169),(t170),b9,H',⟨iT⟩,⟨oK⟩,⟨uM⟩,⟨mM⟩,⟨uh⟩⟩
  ·replace c6:=Bool.eq_false_iff.mpr c6
   subst c6
   rw [if_neg (show ¬ (false=true) by decide)] at H
   have H':=aa.mk H
   clear H
   go_wp2
   go_meet
   case rel=>exact ⟨_,(true),(t166),(t167),b9,H',⟨iT⟩,⟨oK⟩,⟨uM⟩,⟨mM⟩,⟨uh⟩⟩
 case rest=>
  clear Fk
  obtain ⟨kq,Ri,xZ,ya,rfl,HA,Lp,jq,eW,HK,HB⟩:=hcut
  cases kq with
  |zero=>exact absurd HA.out (by simp [cA.j0])
  |succ Fl=>
   have H:=HA.out
   clear HA
   simp only [cA.j0] at H
   by_cases c9:Ri=true
   ·subst c9
    rw [if_pos rfl] at H
    simp only [Option.some.injEq,Prod.mk.injEq] at H
    obtain ⟨rfl,rfl,rfl,rfl,rfl,rfl⟩:=H
    have arN:=nG.out
    have arO:=mR.out
    have AZ:wc.cell? ⟨lB,0,none⟩=some (.string (⟨#[]⟩:ByteArray)):=(ah jq.out 0).trans rfl
    have Ba:wc.cell? ⟨lB,1,none⟩=some (.string (⟨#[]⟩:ByteArray)):=(ah jq.out 1).trans rfl
    have Bb:wc.cell? ⟨lB,2,none⟩=some (.bool false):=(ah jq.out 2).trans rfl
    have Bc:=af jq.out 0
    have Bd:=af jq.out 1
    have Be:=af jq.out 2
    go_wp2
    refine bodyPost_ret (eY rfl _ _ lB 30 #[.string (⟨#[]⟩:ByteArray),.string (⟨#[]⟩:ByteArray),.bool false] (0,0) _ rfl (by (with_reducible repeat (first|refine ay ?_ _|refine az ?_|refine av ?_ _));refine bR (cs:=#[.string (⟨#[]⟩:ByteArray),.string (⟨#[]⟩:ByteArray),.bool false]) ?_ 2 _ rfl;(with_reducible repeat (first|refine ay ?_ _|refine az ?_|refine av ?_ _));refine bR (cs:=#[.string (⟨#[]⟩:ByteArray),.string (⟨#[]⟩:ByteArray),.bool false]) ?_ 1 _ rfl;(with_reducible repeat (first|refine ay ?_ _|refine az ?_|refine av ?_ _));refine bR (cs:=#[.string (⟨#[]⟩:ByteArray),.string (⟨#[]⟩:ByteArray),.bool false]) ?_ 0 _ rfl;(with_reducible repeat (first|refine ay ?_ _|refine az ?_|refine av ?_ _));exact jq.out) Tryz.underlying30 rfl aq) rfl ?_
    exact ⟨cH,uM,uh,mM⟩
   ·replace c9:=Bool.eq_false_iff.mpr c9
    subst c9
    rw [if_neg (show ¬ (false=true) by decide)] at H
    obtain ⟨⟨t171,t172,t173⟩,G1,H⟩:=bd_ H
    (try dsimp only at H)
    by_cases c13:t171=true
    ·subst c13
     rw [if_pos rfl] at H
     obtain ⟨⟨t174,t175,t176,t177⟩,UK,H⟩:=bd_ H
     (try dsimp only at H)
     obtain ⟨t178,VF,H⟩:=bd_ H
     obtain ⟨⟨t179,t180,t181⟩,A16,H⟩:=bd_ H
     (try dsimp only at H)
     by_cases c17:t179=true
     ·subst c17
      rw [if_pos rfl] at H
      obtain ⟨t182,A18,H⟩:=bd_ H
      simp only [Option.some.injEq,Prod.mk.injEq] at H
      obtain ⟨rfl,rfl,rfl,rfl,rfl,rfl⟩:=H
      go_wp2_with (first|((with_reducible refine aK (f:=56) rfl ?_);refine bU (some 23) rfl rfl Tryz.func56 aq rfl #[.pointer (some ⟨g,0,none⟩),.int .u8 91] rfl cz ?_;(with_reducible refine (bV.calls g xZ ya 91 true t172 t173 w0 _ ?aT ?cw G1.out).mono ?_);(case aT=>repeat (first|(with_reducible first|exact eW.out|apply aD.alloc|apply aD.drewN|apply aD.drew|apply aD.gm|apply aD.gi|refine aD.far ?_ mR.out _)|exact eW.out));(case cw=>repeat (first|(with_reducible first|exact HB.out|apply aV|apply aN|apply bf|refine aZ ?_ (aD.ge eW.out)|refine aZ ?_ wj.out)|exact HB.out));rintro e w19 ⟨rfl,hi,hb,hk⟩;refine ⟨_,rfl,?_⟩;replace jq:=aa.mk (bM.blk hk (g':=lB) (o:= .cells #[.string (⟨#[]⟩:ByteArray),.string (⟨#[]⟩:ByteArray),.bool false] 30 (0,0)) oK nG.out bw);replace HK:=aa.mk (bM.trans mM hk (.inl rfl));replace HB:=aa.mk (hb);replace eW:=aa.mk (hi);(try clear hb);(try clear hk);(try clear hi))|((with_reducible refine aK (f:=119) rfl ?_);refine bU (some 26) rfl rfl Tryz.func119 aq rfl #[.pointer (some ⟨g,0,none⟩),.func (.func 124) #[] #[]] rfl cz ?_;(with_reducible refine (bg.calls Fl g t172 t173 t174 t175 t176 t177 w0 _ ?aT ?cw UK.out).mono ?_);(case aT=>repeat (first|(with_reducible first|exact eW.out|apply aD.alloc|apply aD.drewN|apply aD.drew|apply aD.gm|apply aD.gi|refine aD.far ?_ mR.out _)|exact eW.out));(case cw=>repeat (first|(with_reducible first|exact HB.out|apply aV|apply aN|apply bf|refine aZ ?_ (aD.ge eW.out)|refine aZ ?_ wj.out)|exact HB.out));rintro e Rj ⟨rfl,hi,hb,hk⟩;refine ⟨_,rfl,?_⟩;replace jq:=aa.mk (bM.blk hk (g':=lB) (o:= .cells #[.string (⟨#[]⟩:ByteArray),.string (⟨#[]⟩:ByteArray),.bool false] 30 (0,0)) oK nG.out bw);replace HK:=aa.mk (bM.trans mM hk (.inl rfl));replace HB:=aa.mk (hb);replace eW:=aa.mk (hi);(try clear hb);(try clear hk);(try clear hi))|((with_reducible refine aK (f:=81) rfl ?_);refine bU (some 31) rfl rfl Tryz.func81 aq rfl #[.string t174] rfl cz ?_;(with_reducible refine (cS.calls t174 t178 _ VF.out).mono ?_);rintro e w21 ⟨rfl,hb⟩;refine ⟨_,rfl,?_⟩;replace jq:=aa.mk (aC oK hb);replace HK:=aa.mk (bM.trans mM (bM.of_below hb g none) (.inl rfl));replace HB:=aa.mk (aA uh hb);replace eW:=aa.mk (aD.below uM hb);(try clear hb))|((with_reducible refine aK (f:=56) rfl ?_);refine bU (some 34) rfl rfl Tryz.func56 aq rfl #[.pointer (some ⟨g,0,none⟩),.int .u8 93] rfl cz ?_;(with_reducible refine (bV.calls g t176 t177 93 true t180 t181 w0 _ ?aT ?cw A16.out).mono ?_);(case aT=>repeat (first|(with_reducible first|exact eW.out|apply aD.alloc|apply aD.drewN|apply aD.drew|apply aD.gm|apply aD.gi|refine aD.far ?_ mR.out _)|exact eW.out));(case cw=>repeat (first|(with_reducible first|exact HB.out|apply aV|apply aN|apply bf|refine aZ ?_ (aD.ge eW.out)|refine aZ ?_ wj.out)|exact HB.out));rintro e BN ⟨rfl,hi,hb,hk⟩;refine ⟨_,rfl,?_⟩;replace jq:=aa.mk (bM.blk hk (g':=lB) (o:= .cells #[.string (⟨#[]⟩:ByteArray),.string (⟨#[]⟩:ByteArray),.bool false] 30 (0,0)) oK nG.out bw);replace HK:=aa.mk (bM.trans mM hk (.inl rfl));replace HB:=aa.mk (hb);replace eW:=aa.mk (hi);(try clear hb);(try clear hk);(try clear hi))|(go_at_call 27;(with_reducible refine (cI.calls Fl t174 t182 _ ?aT A18.out).mono ?_);(case aT=>exact aJ.below HG.out uh);rintro e Q4 ⟨rfl,hb⟩;replace jq:=aa.mk (aC oK hb);replace HK:=aa.mk (bM.trans mM (bM.of_below hb g none) (.inl rfl));replace HB:=aa.mk (aA uh hb);replace eW:=aa.mk (aD.below uM hb);(try clear hb);have abL:=nG.out;have abM:=mR.out;have yc:Q4.cell? ⟨lB,0,none⟩=some (.string (⟨#[]⟩:ByteArray)):=(ah jq.out 0).trans rfl;have yf:Q4.cell? ⟨lB,1,none⟩=some (.string (⟨#[]⟩:ByteArray)):=(ah jq.out 1).trans rfl;have yg:Q4.cell? ⟨lB,2,none⟩=some (.bool false):=(ah jq.out 2).trans rfl;have yh:=af jq.out 0;have yj:=af jq.out 1;have yl:=af jq.out 2))
      refine bodyPost_ret (eY rfl _ _ lB 30 #[.string t164,.string t178,.bool true] (0,0) _ rfl PS Tryz.underlying30 rfl aq) rfl ?_
      exact ⟨cH,uM,uh,mM⟩
     ·replace c17:=Bool.eq_false_iff.mpr c17
      subst c17
      rw [if_neg (show ¬ (false=true) by decide)] at H
      simp only [Option.some.injEq,Prod.mk.injEq] at H
      obtain ⟨rfl,rfl,rfl,rfl,rfl,rfl⟩:=H
      go_wp2_with (first|((with_reducible refine aK (f:=56) rfl ?_);refine bU (some 23) rfl rfl Tryz.func56 aq rfl #[.pointer (some ⟨g,0,none⟩),.int .u8 91] rfl cz ?_;(with_reducible refine (bV.calls g xZ ya 91 true t172 t173 w0 _ ?aT ?cw G1.out).mono ?_);(case aT=>repeat (first|(with_reducible first|exact eW.out|apply aD.alloc|apply aD.drewN|apply aD.drew|apply aD.gm|apply aD.gi|refine aD.far ?_ mR.out _)|exact eW.out));(case cw=>repeat (first|(with_reducible first|exact HB.out|apply aV|apply aN|apply bf|refine aZ ?_ (aD.ge eW.out)|refine aZ ?_ wj.out)|exact HB.out));rintro e VG ⟨rfl,hi,hb,hk⟩;refine ⟨_,rfl,?_⟩;replace jq:=aa.mk (bM.blk hk (g':=lB) (o:= .cells #[.string (⟨#[]⟩:ByteArray),.string (⟨#[]⟩:ByteArray),.bool false] 30 (0,0)) oK nG.out bw);replace HK:=aa.mk (bM.trans mM hk (.inl rfl));replace HB:=aa.mk (hb);replace eW:=aa.mk (hi);(try clear hb);(try clear hk);(try clear hi))|((with_reducible refine aK (f:=119) rfl ?_);refine bU (some 26) rfl rfl Tryz.func119 aq rfl #[.pointer (some ⟨g,0,none⟩),.func (.func 124) #[] #[]] rfl cz ?_;(with_reducible refine (bg.calls Fl g t172 t173 t174 t175 t176 t177 w0 _ ?aT ?cw UK.out).mono ?_);(case aT=>repeat (first|(with_reducible first|exact eW.out|apply aD.alloc|apply aD.drewN|apply aD.drew|apply aD.gm|apply aD.gi|refine aD.far ?_ mR.out _)|exact eW.out));(case cw=>repeat (first|(with_reducible first|exact HB.out|apply aV|apply aN|apply bf|refine aZ ?_ (aD.ge eW.out)|refine aZ ?_ wj.out)|exact HB.out));rintro e w27 ⟨rfl,hi,hb,hk⟩;refine ⟨_,rfl,?_⟩;replace jq:=aa.mk (bM.blk hk (g':=lB) (o:= .cells #[.string (⟨#[]⟩:ByteArray),.string (⟨#[]⟩:ByteArray),.bool false] 30 (0,0)) oK nG.out bw);replace HK:=aa.mk (bM.trans mM hk (.inl rfl));replace HB:=aa.mk (hb);replace eW:=aa.mk (hi);(try clear hb);(try clear hk);(try clear hi))|((with_reducible refine aK (f:=81) rfl ?_);refine bU (some 31) rfl rfl Tryz.func81 aq rfl #[.string t174] rfl cz ?_;(with_reducible refine (cS.calls t174 t178 _ VF.out).mono ?_);rintro e w28 ⟨rfl,hb⟩;refine ⟨_,rfl,?_⟩;replace jq:=aa.mk (aC oK hb);replace HK:=aa.mk (bM.trans mM (bM.of_below hb g none) (.inl rfl));replace HB:=aa.mk (aA uh hb);replace eW:=aa.mk (aD.below uM hb);(try clear hb))|((with_reducible refine aK (f:=56) rfl ?_);refine bU (some 34) rfl rfl Tryz.func56 aq rfl #[.pointer (some ⟨g,0,none⟩),.int .u8 93] rfl cz ?_;(with_reducible refine (bV.calls g t176 t177 93 false t180 t181 w0 _ ?aT ?cw A16.out).mono ?_);(case aT=>repeat (first|(with_reducible first|exact eW.out|apply aD.alloc|apply aD.drewN|apply aD.drew|apply aD.gm|apply aD.gi|refine aD.far ?_ mR.out _)|exact eW.out));(case cw=>repeat (first|(with_reducible first|exact HB.out|apply aV|apply aN|apply bf|refine aZ ?_ (aD.ge eW.out)|refine aZ ?_ wj.out)|exact HB.out));rintro e w29 ⟨rfl,hi,hb,hk⟩;refine ⟨_,rfl,?_⟩;replace jq:=aa.mk (bM.blk hk (g':=lB) (o:= .cells #[.string (⟨#[]⟩:ByteArray),.string (⟨#[]⟩:ByteArray),.bool false] 30 (0,0)) oK nG.out bw);replace HK:=aa.mk (bM.trans mM hk (.inl rfl));replace HB:=aa.mk (hb);replace eW:=aa.mk (hi);(try clear hb);(try clear hk);(try clear hi);have afO:=nG.out;have afP:=mR.out;have Q6:w29.cell? ⟨lB,0,none⟩=some (.string (⟨#[]⟩:ByteArray)):=(ah jq.out 0).trans rfl;have Q7:w29.cell? ⟨lB,1,none⟩=some (.string (⟨#[]⟩:ByteArray)):=(ah jq.out 1).trans rfl;have YX:w29.cell? ⟨lB,2,none⟩=some (.bool false):=(ah jq.out 2).trans rfl;have Q8:=af jq.out 0;have Q9:=af jq.out 1;have YY:=af jq.out 2))
      refine bodyPost_ret (eY rfl _ _ lB 30 #[.string t164,.string t178,.bool true] (0,0) _ rfl PS Tryz.underlying30 rfl aq) rfl ?_
      exact ⟨cH,uM,uh,mM⟩
    ·replace c13:=Bool.eq_false_iff.mpr c13
     subst c13
     rw [if_neg (show ¬ (false=true) by decide)] at H
     obtain ⟨⟨t183,t184,t185,t186⟩,A32,H⟩:=bd_ H
     (try dsimp only at H)
     simp only [Option.some.injEq,Prod.mk.injEq] at H
     obtain ⟨rfl,rfl,rfl,rfl,rfl,rfl⟩:=H
     go_wp2_with (first|((with_reducible refine aK (f:=56) rfl ?_);refine bU (some 23) rfl rfl Tryz.func56 aq rfl #[.pointer (some ⟨g,0,none⟩),.int .u8 91] rfl cz ?_;(with_reducible refine (bV.calls g xZ ya 91 false t172 t173 w0 _ ?aT ?cw G1.out).mono ?_);(case aT=>repeat (first|(with_reducible first|exact eW.out|apply aD.alloc|apply aD.drewN|apply aD.drew|apply aD.gm|apply aD.gi|refine aD.far ?_ mR.out _)|exact eW.out));(case cw=>repeat (first|(with_reducible first|exact HB.out|apply aV|apply aN|apply bf|refine aZ ?_ (aD.ge eW.out)|refine aZ ?_ wj.out)|exact HB.out));rintro e TC ⟨rfl,hi,hb,hk⟩;refine ⟨_,rfl,?_⟩;replace jq:=aa.mk (bM.blk hk (g':=lB) (o:= .cells #[.string (⟨#[]⟩:ByteArray),.string (⟨#[]⟩:ByteArray),.bool false] 30 (0,0)) oK nG.out bw);replace HK:=aa.mk (bM.trans mM hk (.inl rfl));replace HB:=aa.mk (hb);replace eW:=aa.mk (hi);(try clear hb);(try clear hk);(try clear hi))|((with_reducible refine aK (f:=80) rfl ?_);refine bU (some 41) rfl rfl Tryz.func80 aq rfl #[.pointer (some ⟨g,0,none⟩)] rfl cz ?_;(with_reducible refine (cv.calls Fl g t172 t173 t183 t184 t185 t186 w0 _ ?aT ?cw A32.out).mono ?_);(case aT=>repeat (first|(with_reducible first|exact eW.out|apply aD.alloc|apply aD.drewN|apply aD.drew|apply aD.gm|apply aD.gi|refine aD.far ?_ mR.out _)|exact eW.out));(case cw=>repeat (first|(with_reducible first|exact HB.out|apply aV|apply aN|apply bf|refine aZ ?_ (aD.ge eW.out)|refine aZ ?_ wj.out)|exact HB.out));rintro e w34 ⟨rfl,hi,hb,hk⟩;refine ⟨_,rfl,?_⟩;replace jq:=aa.mk (bM.blk hk (g':=lB) (o:= .cells #[.string (⟨#[]⟩:ByteArray),.string (⟨#[]⟩:ByteArray),.bool false] 30 (0,0)) oK nG.out bw);replace HK:=aa.mk (bM.trans mM hk (.inl rfl));replace HB:=aa.mk (hb);replace eW:=aa.mk (hi);(try clear hb);(try clear hk);(try clear hi);have arQ:=nG.out;have arR:=mR.out;have YZ:w34.cell? ⟨lB,0,none⟩=some (.string (⟨#[]⟩:ByteArray)):=(ah jq.out 0).trans rfl;have Y0:w34.cell? ⟨lB,1,none⟩=some (.string (⟨#[]⟩:ByteArray)):=(ah jq.out 1).trans rfl;have Y1:w34.cell? ⟨lB,2,none⟩=some (.bool false):=(ah jq.out 2).trans rfl;have Y2:=af jq.out 0;have Y3:=af jq.out 1;have Y4:=af jq.out 2))
     refine bodyPost_ret (eY rfl _ _ lB 30 #[.string t164,.string t183,.bool false] (0,0) _ rfl (by (with_reducible repeat (first|refine ay ?_ _|refine az ?_|refine av ?_ _));refine bR (cs:=#[.string t164,.string t183,.bool false]) ?_ 2 _ rfl;(with_reducible repeat (first|refine ay ?_ _|refine az ?_|refine av ?_ _));refine bR (cs:=#[.string t164,.string (⟨#[]⟩:ByteArray),.bool false]) ?_ 1 _ rfl;(with_reducible repeat (first|refine ay ?_ _|refine az ?_|refine av ?_ _));refine bR (cs:=#[.string (⟨#[]⟩:ByteArray),.string (⟨#[]⟩:ByteArray),.bool false]) ?_ 0 _ rfl;(with_reducible repeat (first|refine ay ?_ _|refine az ?_|refine av ?_ _));exact jq.out) Tryz.underlying30 rfl aq) rfl ?_
     exact ⟨cH,uM,uh,mM⟩
def l6.f (a0:ByteArray):Option (Bool):=some (decide ((a0.size:Int) > 63))
theorem l6.calls (a0:ByteArray) (r:Bool) (w:World) (h:l6.f a0=some r):
 Calls Tryz.prog 118 #[.string a0] w fun e w'=>e= .returned (.bool r)∧iC w w':=by
 have H:(some (decide ((a0.size:Int) > 63)))=some r:=h
 clear h
 obtain rfl:=Option.some.inj H
 go_enter Tryz.func118,Tryz.ntmps118
 go_wp2
 go_ret
 exact ⟨b9,dJ⟩
def aM.l0:Nat→List ByteArray→Int→Int→Option (Int)
 | 0,_,_,_ =>none
 |k + 1,x0,x7,x8=>if x8 < x7 then (if 0≤x8 then (if x8 < (x0.length:Int) then ((l6.f (cV ByteArray.empty x0 x8)).bind fun t188=>(if t188=true then (some x8) else (aM.l0 k x0 x7 (wrap64 (x8 + 1))))) else (none)) else (none)) else (some (-1))
def aM.f (k:Nat) (l0:List ByteArray):Option (Int):=aM.l0 k l0 (l0.length:Int) 0
theorem aM.dF:∀ k,(∀ y0 y1 y2,bL (aM.l0 k y0 y1 y2) (aM.l0 (k + 1) y0 y1 y2))
 | 0=>fun _ _ _ r h=>by simp [aM.l0] at h
 |k + 1=>by
  have fV:=aM.dF k
  ·intro y0 y1 y2
   unfold aM.l0
   repeat' first
   |(with_reducible first|exact fV _ _ _|exact bL.refl _|exact bL.none _|refine bL.ite ?_ ?_|refine bL.bind ?_ (fun _ =>?_))
   |exact fV _ _ _
   |exact bL.none _
   |refine bL.ite ?_ ?_
   |refine bL.bind ?_ (fun _ =>?_)
theorem aM.mono:∀ a0 k,bL (aM.f k a0) (aM.f (k + 1) a0):=by
 intro a0 k
 have fV:=aM.dF k
 unfold aM.f
 repeat' first
  |(with_reducible first|exact fV _ _ _|exact bL.refl _|exact bL.none _|refine bL.ite ?_ ?_|refine bL.bind ?_ (fun _ =>?_))
  |exact fV _ _ _
  |exact bL.none _
  |refine bL.ite ?_ ?_
  |refine bL.bind ?_ (fun _ =>?_)
theorem aM.calls (k:Nat) (A0:Option Addr) (c0:Nat) (l0:List ByteArray) (r:Int) (w:World) (Dn:Kd.C Kd.string w A0 l0.length l0) (hc0:l0.length≤c0) (h:aM.f k l0=some r):
 Calls Tryz.prog 117 #[.slice A0 l0.length c0,.func (.func 118) #[] #[]] w fun e w'=>e= .returned (.int .i64 r)∧iC w w':=by
 have Ce:=aa.mk Dn
 have Vs:=aa.mk hc0
 clear Dn hc0
 have H:(aM.l0 k l0 (l0.length:Int) 0)=some r:=h
 clear h
 have H':=aa.mk H
 clear H
 go_enter Tryz.func117,Tryz.ntmps117
 go_wp2
 go_loopg [8] k (fun kq v8 w'=>∃ (jl:Int),v8= .int .i64 jl∧aa (aM.l0 kq l0 (l0.length:Int) jl=some r)∧aa (kq≤k)∧iC w w')
 case atStart=>exact ⟨(0),b9,H',⟨Nat.le_refl _⟩,dJ⟩
 case round=>
  clear H'
  obtain ⟨jl,rfl,HA,p9,⟨m1,rfl⟩⟩:=hrel
  cases gk with
  |zero=>exact absurd HA.out (by simp [aM.l0])
  |succ k1=>
   have H:=HA.out
   clear HA
   simp only [aM.l0] at H
   by_cases c3:jl < (l0.length:Int)
   ·rw [if_pos c3] at H
    have mg:=decide_eq_true c3
    clear c3
    obtain ⟨c4,H⟩:=iA H
    have nB:=decide_eq_true c4
    clear c4
    obtain ⟨c5,H⟩:=iA H
    have lF:=decide_eq_true c5
    clear c5
    obtain ⟨t188,A6,H⟩:=bd_ H
    by_cases c7:t188=true
    ·subst c7
     rw [if_pos rfl] at H
     obtain rfl:=Option.some.inj H
     have Oe: 0≤(jl:Int):=of_decide_eq_true bp
     have Og:jl < (l0.length:Int):=of_decide_eq_true bp
     obtain ⟨afQ,ado,Y5⟩:=Kd.cY Ce.out jl Oe Og
     cases ado
     replace Oe:=eq_true Oe
     replace Og:=eq_true Og
     go_wp2_with (first|(go_at_call 118;(with_reducible refine (l6.calls (cV ByteArray.empty l0 jl) true _ A6.out).mono ?_);rintro e w' ⟨rfl,⟨nd,rfl⟩⟩))
     go_ret
     exact ⟨b9,dJ⟩
    ·replace c7:=Bool.eq_false_iff.mpr c7
     subst c7
     rw [if_neg (show ¬ (false=true) by decide)] at H
     have H':=aa.mk H
     clear H
     have Oe: 0≤(jl:Int):=of_decide_eq_true bp
     have Og:jl < (l0.length:Int):=of_decide_eq_true bp
     obtain ⟨afQ,ado,Y5⟩:=Kd.cY Ce.out jl Oe Og
     cases ado
     replace Oe:=eq_true Oe
     replace Og:=eq_true Og
     go_wp2_with (first|(go_at_call 118;(with_reducible refine (l6.calls (cV ByteArray.empty l0 jl) false _ A6.out).mono ?_);rintro e w' ⟨rfl,⟨nd,rfl⟩⟩))
     go_roundg k1
     case measure=>have:=p9.out;omega
     case rel=>exact ⟨(wrap64 (jl + 1)),b9,H',⟨je⟩,dJ⟩
   ·rw [if_neg c3] at H
    have mg:=decide_eq_false c3
    clear c3
    obtain rfl:=Option.some.inj H
    go_wp2
    go_ret
    exact ⟨b9,dJ⟩
def bT.f (k:Nat) (l0:List ByteArray):Option (Bool):=(aM.f k l0).bind fun t189=>(some (decide (t189≥0)))
theorem bT.mono:∀ a0 k,bL (bT.f k a0) (bT.f (k + 1) a0):=by
 intro a0 k
 unfold bT.f
 repeat' first
  |(with_reducible first|exact aM.mono _ _|exact bL.refl _|exact bL.none _|refine bL.ite ?_ ?_|refine bL.bind ?_ (fun _ =>?_))
  |exact aM.mono _ _
  |exact bL.none _
  |refine bL.ite ?_ ?_
  |refine bL.bind ?_ (fun _ =>?_)
theorem bT.calls (k:Nat) (A0:Option Addr) (c0:Nat) (l0:List ByteArray) (r:Bool) (w:World) (Dn:Kd.C Kd.string w A0 l0.length l0) (hc0:l0.length≤c0) (h:bT.f k l0=some r):
 Calls Tryz.prog 59 #[.slice A0 l0.length c0,.func (.func 118) #[] #[]] w fun e w'=>e= .returned (.bool r)∧iC w w':=by
 have Ce:=aa.mk Dn
 have Vs:=aa.mk hc0
 clear Dn hc0
 have H:((aM.f k l0).bind fun t189=>(some (decide (t189≥0))))=some r:=h
 clear h
 obtain ⟨t189,A3,H⟩:=bd_ H
 obtain rfl:=Option.some.inj H
 go_enter Tryz.func59,Tryz.ntmps59
 go_wp2_with (first|((with_reducible refine aK (f:=117) rfl ?_);refine bU (some 7) rfl rfl Tryz.func117 aq rfl #[.slice A0 l0.length c0,.func (.func 118) #[] #[]] rfl cz ?_;(with_reducible refine (aM.calls k _ _ l0 t189 _ ?aT ?cw A3.out).mono ?_);(case aT=>repeat (first|exact Ce.out|(with_reducible refine Kd.jg ?_ _)|(with_reducible refine Kd.jh ?_ _)|(with_reducible refine Kd.kL ?_)));(case cw=>exact Vs.out);rintro e w' ⟨rfl,⟨nd,rfl⟩⟩;refine ⟨_,rfl,?_⟩))
 go_ret
 exact ⟨b9,dJ⟩
def fJ.f (k:Nat) (a0:ByteArray):Option (Bool):=if (a0.size:Int)≤255 then ((strings_Split.f a0 (⟨#[46]⟩:ByteArray)).bind fun t190=>((bT.f k t190).bind fun t193=>(some (!t193)))) else (some false)
theorem fJ.mono:∀ a0 k,bL (fJ.f k a0) (fJ.f (k + 1) a0):=by
 intro a0 k
 unfold fJ.f
 repeat' first
  |(with_reducible first|exact bT.mono _ _|exact bL.refl _|exact bL.none _|refine bL.ite ?_ ?_|refine bL.bind ?_ (fun _ =>?_))
  |exact bT.mono _ _
  |exact bL.none _
  |refine bL.ite ?_ ?_
  |refine bL.bind ?_ (fun _ =>?_)
theorem fJ.calls (k:Nat) (a0:ByteArray) (r:Bool) (w:World) (hG:aJ w) (h:fJ.f k a0=some r):
 Calls Tryz.prog 61 #[.string a0] w fun e w'=>e= .returned (.bool r)∧Below w.heap.size w w':=by
 have HB:=aa.mk (Below.refl w.heap.size w)
 have HG:=aa.mk hG
 clear hG
 have H:(if (a0.size:Int)≤255 then ((strings_Split.f a0 (⟨#[46]⟩:ByteArray)).bind fun t190=>((bT.f k t190).bind fun t193=>(some (!t193)))) else (some false))=some r:=h
 clear h
 by_cases c2:(a0.size:Int)≤255
 ·rw [if_pos c2] at H
  have sP:=decide_eq_true c2
  have JM:decide (a0.size≤255)=true:=decide_eq_true ak
  clear c2
  obtain ⟨t190,A3,H⟩:=bd_ H
  obtain ⟨t193,A4,H⟩:=bd_ H
  obtain rfl:=Option.some.inj H
  go_enter Tryz.func61,Tryz.ntmps61
  go_wp2_with (first|(go_at_call 75;(with_reducible refine (strings_Split.calls a0 (⟨#[46]⟩:ByteArray) t190 _ ?aT A3.out).mono ?_);(case aT=>exact aJ.below HG.out bG);rintro e w5 ⟨avc,rfl,ho0,hb⟩;have VH:=aa.mk (Kd.kD ho0 (dm bG));replace HB:=aa.mk (aA bG hb);(try clear hb);(try clear ho0);obtain ⟨Ao6,co6,eo6⟩:=Kd.gQ VH.out;subst eo6)|(go_at_call 59;(with_reducible refine (bT.calls k _ _ t190 t193 _ ?aT ?cw A4.out).mono ?_);(case aT=>repeat (first|exact (Kd.cP VH.out).2.2|(with_reducible refine Kd.jg ?_ _)|(with_reducible refine Kd.jh ?_ _)|(with_reducible refine Kd.kL ?_)));(case cw=>exact (Kd.cP VH.out).2.1);rintro e w' ⟨rfl,⟨nd,rfl⟩⟩))
  go_ret
  exact ⟨cH,bG⟩
 ·rw [if_neg c2] at H
  have sP:=decide_eq_false c2
  have JM:decide (a0.size≤255)=false:=decide_eq_false ak
  clear c2
  obtain rfl:=Option.some.inj H
  go_enter Tryz.func61,Tryz.ntmps61
  go_wp2
  go_ret
  exact ⟨cH,bG⟩
def eD.f (k:Nat) (bS:ByteArray) (dZ:ByteArray) (cg:Bool):Option (Bool):=if (bS.size:Int)≤64 then (if cg=true then (some true) else ((fJ.f k dZ).bind fun t195=>(some t195))) else (some false)
theorem eD.mono:∀ a0 a1 a2 k,bL (eD.f k a0 a1 a2) (eD.f (k + 1) a0 a1 a2):=by
 intro a0 a1 a2 k
 unfold eD.f
 repeat' first
  |(with_reducible first|exact fJ.mono _ _|exact bL.refl _|exact bL.none _|refine bL.ite ?_ ?_|refine bL.bind ?_ (fun _ =>?_))
  |exact fJ.mono _ _
  |exact bL.none _
  |refine bL.ite ?_ ?_
  |refine bL.bind ?_ (fun _ =>?_)
theorem eD.calls (k:Nat) (bS:ByteArray) (dZ:ByteArray) (cg:Bool) (r:Bool) (w:World) (hG:aJ w) (h:eD.f k bS dZ cg=some r):
 Calls Tryz.prog 58 #[.agg #[.string bS,.string dZ,.bool cg]] w fun e w'=>e= .returned (.bool r)∧Below w.heap.size w w':=by
 have wT:=Tryz.underlying30
 have HB:=aa.mk (Below.refl w.heap.size w)
 have HG:=aa.mk hG
 clear hG
 have H:(if (bS.size:Int)≤64 then (if cg=true then (some true) else ((fJ.f k dZ).bind fun t195=>(some t195))) else (some false))=some r:=h
 clear h
 by_cases c2:(bS.size:Int)≤64
 ·rw [if_pos c2] at H
  have sP:=decide_eq_true c2
  have JM:decide (bS.size≤64)=true:=decide_eq_true ak
  clear c2
  by_cases c3:cg=true
  ·subst c3
   rw [if_pos rfl] at H
   obtain rfl:=Option.some.inj H
   go_enter Tryz.func58,Tryz.ntmps58
   go_wp2_with (first|((with_reducible refine cB (N:=1) rfl ?_);refine cj ?hg (N:=1) ?hd (cs:=#[.string bS,.string dZ,.bool true]) (t:=30) ?hr ?_;(case hd=>rfl);(case hg=>rfl);(case hr=>first|(go_simp;done)|(go_simp;rfl));intro qY hg w4 cE hb;have nY:=aa.mk (cE);have abN:=aa.mk ((dI:w.heap.size≤qY));have U3:=aa.mk ((dI:w.heap.size≤qY));replace HB:=aa.mk (aA bG hb);clear hb cE hg;have Ch:w4.cell? ⟨qY,0,none⟩=some (.string bS):=(ah nY.out 0).trans rfl;have Ci:w4.cell? ⟨qY,1,none⟩=some (.string dZ):=(ah nY.out 1).trans rfl;have Fm:w4.cell? ⟨qY,2,none⟩=some (.bool true):=(ah nY.out 2).trans rfl;have Cj:=af nY.out 0;have Ck:=af nY.out 1;have Fp:=af nY.out 2))
   go_ret
   exact ⟨cH,Ah⟩
  ·replace c3:=Bool.eq_false_iff.mpr c3
   subst c3
   rw [if_neg (show ¬ (false=true) by decide)] at H
   obtain ⟨t195,A6,H⟩:=bd_ H
   obtain rfl:=Option.some.inj H
   go_enter Tryz.func58,Tryz.ntmps58
   go_wp2_with (first|((with_reducible refine cB (N:=1) rfl ?_);refine cj ?hg (N:=1) ?hd (cs:=#[.string bS,.string dZ,.bool false]) (t:=30) ?hr ?_;(case hd=>rfl);(case hg=>rfl);(case hr=>first|(go_simp;done)|(go_simp;rfl));intro qY hg w7 cE hb;have nY:=aa.mk (cE);have abN:=aa.mk ((dI:w.heap.size≤qY));have U3:=aa.mk ((dI:w.heap.size≤qY));replace HB:=aa.mk (aA bG hb);clear hb cE hg;have zy:w7.cell? ⟨qY,0,none⟩=some (.string bS):=(ah nY.out 0).trans rfl;have zz:w7.cell? ⟨qY,1,none⟩=some (.string dZ):=(ah nY.out 1).trans rfl;have Fq:w7.cell? ⟨qY,2,none⟩=some (.bool false):=(ah nY.out 2).trans rfl;have zA:=af nY.out 0;have zB:=af nY.out 1;have Fu:=af nY.out 2)|(go_at_call 61;(with_reducible refine (fJ.calls k dZ t195 _ ?aT A6.out).mono ?_);(case aT=>exact aJ.below HG.out Ah);rintro e w9 ⟨rfl,hb⟩;replace nY:=aa.mk (aC (by (with_reducible repeat (first|refine ay ?_ _|refine az ?_|refine av ?_ _));exact nY.out) hb);replace HB:=aa.mk (aA Ah hb);(try clear hb)))
   go_ret
   exact ⟨cH,Ah⟩
 ·rw [if_neg c2] at H
  have sP:=decide_eq_false c2
  have JM:decide (bS.size≤64)=false:=decide_eq_false ak
  clear c2
  obtain rfl:=Option.some.inj H
  go_enter Tryz.func58,Tryz.ntmps58
  go_wp2_with (first|((with_reducible refine cB (N:=1) rfl ?_);refine cj ?hg (N:=1) ?hd (cs:=#[.string bS,.string dZ,.bool cg]) (t:=30) ?hr ?_;(case hd=>rfl);(case hg=>rfl);(case hr=>first|(go_simp;done)|(go_simp;rfl));intro qY hg um cE hb;have nY:=aa.mk (cE);have abN:=aa.mk ((dI:w.heap.size≤qY));have U3:=aa.mk ((dI:w.heap.size≤qY));replace HB:=aa.mk (aA bG hb);clear hb cE hg;have AZ:um.cell? ⟨qY,0,none⟩=some (.string bS):=(ah nY.out 0).trans rfl;have Ba:um.cell? ⟨qY,1,none⟩=some (.string dZ):=(ah nY.out 1).trans rfl;have Bb:um.cell? ⟨qY,2,none⟩=some (.bool cg):=(ah nY.out 2).trans rfl;have Bc:=af nY.out 0;have Bd:=af nY.out 1;have Be:=af nY.out 2))
  go_ret
  exact ⟨cH,Ah⟩
def gH.f (k:Nat) (a0:ByteArray):Option (Bool):=(fJ.f k a0).bind fun t196=>(some (!t196))
theorem gH.mono:∀ a0 k,bL (gH.f k a0) (gH.f (k + 1) a0):=by
 intro a0 k
 unfold gH.f
 repeat' first
  |(with_reducible first|exact fJ.mono _ _|exact bL.refl _|exact bL.none _|refine bL.ite ?_ ?_|refine bL.bind ?_ (fun _ =>?_))
  |exact fJ.mono _ _
  |exact bL.none _
  |refine bL.ite ?_ ?_
  |refine bL.bind ?_ (fun _ =>?_)
theorem gH.calls (k:Nat) (a0:ByteArray) (r:Bool) (w:World) (hG:aJ w) (h:gH.f k a0=some r):
 Calls Tryz.prog 60 #[.string a0] w fun e w'=>e= .returned (.bool r)∧Below w.heap.size w w':=by
 have HB:=aa.mk (Below.refl w.heap.size w)
 have HG:=aa.mk hG
 clear hG
 have H:((fJ.f k a0).bind fun t196=>(some (!t196)))=some r:=h
 clear h
 obtain ⟨t196,A2,H⟩:=bd_ H
 obtain rfl:=Option.some.inj H
 go_enter Tryz.func60,Tryz.ntmps60
 go_wp2_with (first|((with_reducible refine aK (f:=61) rfl ?_);refine bU (some 4) rfl rfl Tryz.func61 aq rfl #[.string a0] rfl cz ?_;(with_reducible refine (fJ.calls k a0 t196 _ ?aT A2.out).mono ?_);(case aT=>exact aJ.below HG.out bG);rintro e w3 ⟨rfl,hb⟩;refine ⟨_,rfl,?_⟩;replace HB:=aa.mk (aA bG hb);(try clear hb)))
 go_ret
 exact ⟨cH,bG⟩
def aR.l0:Nat→List ByteArray→Int→Int→Option (Int)
 | 0,_,_,_ =>none
 |k + 1,x0,x7,x8=>if x8 < x7 then (if 0≤x8 then (if x8 < (x0.length:Int) then ((gH.f k (cV ByteArray.empty x0 x8)).bind fun t198=>(if t198=true then (some x8) else (aR.l0 k x0 x7 (wrap64 (x8 + 1))))) else (none)) else (none)) else (some (-1))
def aR.f (k:Nat) (l0:List ByteArray):Option (Int):=aR.l0 k l0 (l0.length:Int) 0
theorem aR.dF:∀ k,(∀ y0 y1 y2,bL (aR.l0 k y0 y1 y2) (aR.l0 (k + 1) y0 y1 y2))
 | 0=>fun _ _ _ r h=>by simp [aR.l0] at h
 |k + 1=>by
  have fV:=aR.dF k
  ·intro y0 y1 y2
   unfold aR.l0
   repeat' first
   |(with_reducible first|exact fV _ _ _|exact gH.mono _ _|exact bL.refl _|exact bL.none _|refine bL.ite ?_ ?_|refine bL.bind ?_ (fun _ =>?_))
   |exact fV _ _ _
   |exact gH.mono _ _
   |exact bL.none _
   |refine bL.ite ?_ ?_
   |refine bL.bind ?_ (fun _ =>?_)
theorem aR.mono:∀ a0 k,bL (aR.f k a0) (aR.f (k + 1) a0):=by
 intro a0 k
 have fV:=aR.dF k
 unfold aR.f
 repeat' first
  |(with_reducible first|exact fV _ _ _|exact gH.mono _ _|exact bL.refl _|exact bL.none _|refine bL.ite ?_ ?_|refine bL.bind ?_ (fun _ =>?_))
  |exact fV _ _ _
  |exact gH.mono _ _
  |exact bL.none _
  |refine bL.ite ?_ ?_
  |refine bL.bind ?_ (fun _ =>?_)
theorem aR.calls (k:Nat) (A0:Option Addr) (c0:Nat) (l0:List ByteArray) (r:Int) (w:World) (Dn:Kd.C Kd.string w A0 l0.length l0) (hc0:l0.length≤c0) (hG:aJ w) (h:aR.f k l0=some r):
 Calls Tryz.prog 117 #[.slice A0 l0.length c0,.func (.func 60) #[] #[]] w fun e w'=>e= .returned (.int .i64 r)∧Below w.heap.size w w':=by
 have Ce:=aa.mk Dn
 have Vs:=aa.mk hc0
 clear Dn hc0
 have HB:=aa.mk (Below.refl w.heap.size w)
 have HG:=aa.mk hG
 clear hG
 have H:(aR.l0 k l0 (l0.length:Int) 0)=some r:=h
 clear h
 have H':=aa.mk H
 clear H
 go_enter Tryz.func117,Tryz.ntmps117
 go_wp2
 go_loopg [8] k (fun kq v8 w'=>∃ (jl:Int),v8= .int .i64 jl∧aa (aR.l0 kq l0 (l0.length:Int) jl=some r)∧aa (kq≤k)∧aa (Below w.heap.size w w'))
 case atStart=>exact ⟨(0),b9,H',⟨Nat.le_refl _⟩,⟨bG⟩⟩
 case round=>
  clear H'
  obtain ⟨jl,rfl,HA,p9,HB⟩:=hrel
  cases gk with
  |zero=>exact absurd HA.out (by simp [aR.l0])
  |succ k1=>
   have H:=HA.out
   clear HA
   simp only [aR.l0] at H
   by_cases c3:jl < (l0.length:Int)
   ·rw [if_pos c3] at H
    have mg:=decide_eq_true c3
    clear c3
    obtain ⟨c4,H⟩:=iA H
    have nB:=decide_eq_true c4
    clear c4
    obtain ⟨c5,H⟩:=iA H
    have lF:=decide_eq_true c5
    clear c5
    obtain ⟨t198,A6,H⟩:=bd_ H
    by_cases c7:t198=true
    ·subst c7
     rw [if_pos rfl] at H
     obtain rfl:=Option.some.inj H
     have Oh: 0≤(jl:Int):=of_decide_eq_true bp
     have Oi:jl < (l0.length:Int):=of_decide_eq_true bp
     obtain ⟨afR,adp,vk⟩:=Kd.cY Ce.out jl Oh Oi
     cases adp
     replace vk:=(HB.out.cell (World.block_lt_of_cell? w _ vk)).trans vk
     replace Oh:=eq_true Oh
     replace Oi:=eq_true Oi
     go_wp2_with (first|(go_at_call 60;(with_reducible refine (gH.calls k1 (cV ByteArray.empty l0 jl) true _ ?aT A6.out).mono ?_);(case aT=>exact aJ.below HG.out bG);rintro e w8 ⟨rfl,hb⟩;replace HB:=aa.mk (aA bG hb);(try clear hb)))
     go_ret
     exact ⟨cH,bG⟩
    ·replace c7:=Bool.eq_false_iff.mpr c7
     subst c7
     rw [if_neg (show ¬ (false=true) by decide)] at H
     have H':=aa.mk H
     clear H
     have Oh: 0≤(jl:Int):=of_decide_eq_true bp
     have Oi:jl < (l0.length:Int):=of_decide_eq_true bp
     obtain ⟨afR,adp,vk⟩:=Kd.cY Ce.out jl Oh Oi
     cases adp
     replace vk:=(HB.out.cell (World.block_lt_of_cell? w _ vk)).trans vk
     replace Oh:=eq_true Oh
     replace Oi:=eq_true Oi
     go_wp2_with (first|(go_at_call 60;(with_reducible refine (gH.calls k1 (cV ByteArray.empty l0 jl) false _ ?aT A6.out).mono ?_);(case aT=>exact aJ.below HG.out bG);rintro e w9 ⟨rfl,hb⟩;replace HB:=aa.mk (aA bG hb);(try clear hb)))
     go_roundg k1
     case measure=>have:=p9.out;omega
     case rel=>exact ⟨(wrap64 (jl + 1)),b9,H',⟨je⟩,⟨bG⟩⟩
   ·rw [if_neg c3] at H
    have mg:=decide_eq_false c3
    clear c3
    obtain rfl:=Option.some.inj H
    go_wp2
    go_ret
    exact ⟨cH,bG⟩
end Go.Proofs.YtokpnfljjjjikaaGreatDoor.mY
