import Derived.Test.YtokpnfljjjjikaaGreatDoorQPtx5
set_option maxHeartbeats 8000000
set_option maxRecDepth 100000
namespace Go.Proofs.YtokpnfljjjjikaaGreatDoor.lO
open Go.RowKit Go.Proofs.YtokpnfljjjjikaaGreatDoor.sL Go.Proofs.aj.bw Go.Proofs.aj.eU Go.Proofs.aj.cj
attribute [local go_sem] gL gM iL iM fZ gf gP gQ
set_option linter.unusedVariables false
set_option linter.unusedSimpArgs false
def bN.j0:Nat→ByteArray→Bool→ByteArray→Int→Option (ByteArray×ByteArray×Bool×Bool×ByteArray×Int)
 | 0,_,_,_,_ =>none
 |k + 1,x4,x20,eO,dM=>if x20=true then (some ((⟨#[]⟩:ByteArray),(⟨#[]⟩:ByteArray),false,false,eO,dM)) else ((bu.f eO dM 91).bind fun Bd=>(if Bd.1=true then ((aG.f k Bd.2.1 Bd.2.2).bind fun E7=>((b7.f E7.1).bind fun t178=>((bu.f E7.2.2.1 E7.2.2.2 93).bind fun Be=>(if Be.1=true then ((bQ.f k E7.1).bind fun t182=>(some (x4,t178,true,t182,Be.2.1,Be.2.2))) else (some (x4,t178,true,false,Be.2.1,Be.2.2)))))) else ((bH.f k Bd.2.1 Bd.2.2).bind fun E8=>(some (x4,E8.1,false,E8.2.1,E8.2.2.1,E8.2.2.2)))))
def bN.f (k:Nat) (dm:ByteArray) (cP:Int):Option (ByteArray×ByteArray×Bool×Bool×ByteArray×Int):=(bF.f k dm cP).bind fun mY=>(if mY.2.1=true then ((bu.f mY.2.2.1 mY.2.2.2 64).bind fun vP=>(bN.j0 k mY.1 (!vP.1) vP.2.1 vP.2.2)) else (bN.j0 k mY.1 true mY.2.2.1 mY.2.2.2))
theorem bN.eD:∀ k,(∀ y0 y1 y2 y3,bZ (bN.j0 k y0 y1 y2 y3) (bN.j0 (k + 1) y0 y1 y2 y3))
 | 0=>fun _ _ _ _ r h=>by simp [bN.j0] at h
 |k + 1=>by
  have iJ:=bN.eD k
  ·intro y0 y1 y2 y3
   unfold bN.j0
   repeat' first
   |(with_reducible first|exact iJ _ _ _ _|exact bQ.mono _ _|exact bH.mono _ _ _|exact bF.mono _ _ _|exact aG.mono _ _ _|exact bZ.refl _|exact bZ.none _|refine bZ.ite ?_ ?_|refine bZ.bind ?_ (fun _ =>?_))
   |exact iJ _ _ _ _
   |exact bQ.mono _ _
   |exact bH.mono _ _ _
   |exact bF.mono _ _ _
   |exact aG.mono _ _ _
   |exact bZ.none _
   |refine bZ.ite ?_ ?_
   |refine bZ.bind ?_ (fun _ =>?_)
theorem bN.mono:∀ a0 a1 k,bZ (bN.f k a0 a1) (bN.f (k + 1) a0 a1):=by
 intro a0 a1 k
 have iJ:=bN.eD k
 unfold bN.f
 repeat' first
  |(with_reducible first|exact iJ _ _ _ _|exact bQ.mono _ _|exact bH.mono _ _ _|exact bF.mono _ _ _|exact aG.mono _ _ _|exact bZ.refl _|exact bZ.none _|refine bZ.ite ?_ ?_|refine bZ.bind ?_ (fun _ =>?_))
  |exact iJ _ _ _ _
  |exact bQ.mono _ _
  |exact bH.mono _ _ _
  |exact bF.mono _ _ _
  |exact aG.mono _ _ _
  |exact bZ.none _
  |refine bZ.ite ?_ ?_
  |refine bZ.bind ?_ (fun _ =>?_)
theorem bN.calls (k:Nat) (g:Nat) (dm:ByteArray) (cP:Int) (r1:ByteArray) (r2:ByteArray) (r3:Bool) (r4:Bool) (r5:ByteArray) (r6:Int) (w0 w:World) (hI:aq w0 w g dm cP) (hB:Below w0.heap.size w0 w) (hG:aQ w0) (h:bN.f k dm cP=some (r1,r2,r3,r4,r5,r6)):
 Calls Tryz.prog 71 #[.pointer (some ⟨g,0,none⟩)] w fun e w'=>e= .returned (.tuple #[.agg #[.string r1,.string r2,.bool r3],.bool r4])∧aq w0 w' g r5 r6∧Below w0.heap.size w0 w'∧bh w w' g none:=by
 have Bf:=Tryz.underlying30
 have cV:=af.mk hI
 have HK:=af.mk (bh.refl w g none)
 have HL:=af.mk hB.size
 clear hI
 have Hp:=af.mk hB.size
 have HB:=af.mk hB
 clear hB
 have HG:=af.mk hG
 clear hG
 have H:((bF.f k dm cP).bind fun mY=>(if mY.2.1=true then ((bu.f mY.2.2.1 mY.2.2.2 64).bind fun vP=>(bN.j0 k mY.1 (!vP.1) vP.2.1 vP.2.2)) else (bN.j0 k mY.1 true mY.2.2.1 mY.2.2.2)))=some (r1,r2,r3,r4,r5,r6):=h
 clear h
 obtain ⟨⟨t164,t165,t166,t167⟩,A2,H⟩:=bd_ H
 (try dsimp only at H)
 have OE:=af.mk H
 clear H
 go_enter Tryz.func71,Tryz.ntmps71
 go_upto_region 2 with (first|((with_reducible refine cU (N:=2) rfl ?_);refine cL ?hg (N:=2) ?hd (cs:=#[.string (⟨#[]⟩:ByteArray),.string (⟨#[]⟩:ByteArray),.bool false]) (t:=30) ?hr ?_;(case hd=>rfl);(case hg=>rfl);(case hr=>first|(go_simp;done)|(go_simp;rfl));intro gY hg w4 dg hb;replace HB:=af.mk (aH eZ hb);have fK:=af.mk (dg);have PO:=af.mk ((Ii:w.heap.size≤gY));have oV:=af.mk ((Nat.le_trans Hp.out (Ii:w.heap.size≤gY):w0.heap.size≤gY));replace HK:=af.mk (bh.trans cZ (bh.of_below hb g none) (.inl rfl));have jc:=af.mk ((by rw [hg];exact Nat.ne_of_lt (aq.lt (show aq w0 _ g dm cP from by repeat (first|(with_reducible first|exact cV.out|apply aq.alloc|apply aq.drewN|apply aq.drew|apply aq.dR|apply aq.dQ)|exact cV.out))):g≠gY));have jo:=af.mk ((by rw [hg];exact Nat.ne_of_gt (aq.lt (show aq w0 _ g dm cP from by repeat (first|(with_reducible first|exact cV.out|apply aq.alloc|apply aq.drewN|apply aq.drew|apply aq.dR|apply aq.dQ)|exact cV.out))):gY≠g));replace cV:=af.mk (aq.below fk hb);clear hb dg hg)|((with_reducible refine aU (f:=123) rfl ?_);refine bY (some 11) rfl rfl Tryz.func123 ay rfl #[.pointer (some ⟨g,0,none⟩)] rfl cr ?_;(with_reducible refine (bF.calls k g dm cP t164 t165 t166 t167 w0 _ ?aX ?bL A2.out).mono ?_);(case aX=>repeat (first|(with_reducible first|exact cV.out|apply aq.alloc|apply aq.drewN|apply aq.drew|apply aq.dR|apply aq.dQ|refine aq.far ?_ jc.out _)|exact cV.out));(case bL=>repeat (first|(with_reducible first|exact HB.out|apply aJ|apply aK|apply aW|refine bn ?_ (aq.ge cV.out)|refine bn ?_ oV.out)|exact HB.out));rintro e w5 ⟨rfl,hi,hb,hk⟩;refine ⟨_,rfl,?_⟩;replace fK:=af.mk (bh.blk hk (g':=gY) (o:= .cells #[.string (⟨#[]⟩:ByteArray),.string (⟨#[]⟩:ByteArray),.bool false] 30 (0,0)) jR jo.out bB);replace HK:=af.mk (bh.trans iZ hk (.inl rfl));replace HB:=af.mk (hb);replace cV:=af.mk (hi);(try clear hb);(try clear hk);(try clear hi)))
 (try simp only [Act.put,List.setIfInBounds_toArray,List.set_cons_zero,List.set_cons_succ])
 go_cut [20] (fun v20 wc=>∃ (kq:Nat) (E9:Bool) (p9:ByteArray) (qa:Int),v20= .bool E9∧af (bN.j0 kq t164 E9 p9 qa=some (r1,r2,r3,r4,r5,r6))∧af (kq≤k)∧af (wc.heap[gY]? =some (.cells #[.string (⟨#[]⟩:ByteArray),.string (⟨#[]⟩:ByteArray),.bool false] 30 (0,0)))∧af (aq w0 wc g p9 qa)∧af (bh w wc g none)∧af (Below w0.heap.size w0 wc))
 case first=>
  have H:=OE.out
  clear OE
  by_cases c6:t165=true
  ·subst c6
   rw [if_pos rfl] at H
   obtain ⟨⟨t168,t169,t170⟩,A7,H⟩:=bd_ H
   (try dsimp only at H)
   have H':=af.mk H
   clear H
   go_wp2_with (first|(go_at_call 56;(with_reducible refine (bu.calls g t166 t167 64 t168 t169 t170 w0 _ ?aX ?bL A7.out).mono ?_);(case aX=>repeat (first|(with_reducible first|exact cV.out|apply aq.alloc|apply aq.drewN|apply aq.drew|apply aq.dR|apply aq.dQ|refine aq.far ?_ jc.out _)|exact cV.out));(case bL=>repeat (first|(with_reducible first|exact HB.out|apply aJ|apply aK|apply aW|refine bn ?_ (aq.ge cV.out)|refine bn ?_ oV.out)|exact HB.out));rintro e w8 ⟨rfl,hi,hb,hk⟩;replace fK:=af.mk (bh.blk hk (g':=gY) (o:= .cells #[.string (⟨#[]⟩:ByteArray),.string (⟨#[]⟩:ByteArray),.bool false] 30 (0,0)) jR jo.out bB);replace HK:=af.mk (bh.trans iZ hk (.inl rfl));replace HB:=af.mk (hb);replace cV:=af.mk (hi);(try clear hb);(try clear hk);(try clear hi)))
   go_meet
   case rel=>exact ⟨_,(!t168),(t169),(t170),dG,H',⟨lS⟩,⟨jR⟩,⟨oq⟩,⟨iZ⟩,⟨nK⟩⟩
  ·replace c6:=Bool.eq_false_iff.mpr c6
   subst c6
   rw [if_neg (show ¬ (false=true) by decide)] at H
   have H':=af.mk H
   clear H
   go_wp2
   go_meet
   case rel=>exact ⟨_,(true),(t166),(t167),dG,H',⟨lS⟩,⟨jR⟩,⟨oq⟩,⟨iZ⟩,⟨nK⟩⟩
 case rest=>
  clear OE
  obtain ⟨kq,E9,p9,qa,rfl,HA,HJ2,fK,cV,HK,HB⟩:=hcut
  cases kq with
  |zero=>exact absurd HA.out (by simp [bN.j0])
  |succ OG=>
   have H:=HA.out
   clear HA
   simp only [bN.j0] at H
   by_cases c9:E9=true
   ·subst c9
    rw [if_pos rfl] at H
    simp only [Option.some.injEq,Prod.mk.injEq] at H
    obtain ⟨rfl,rfl,rfl,rfl,rfl,rfl⟩:=H
    have abT:=jo.out
    have abU:=jc.out
    have Fa:wc.cell? ⟨gY,0,none⟩=some (.string (⟨#[]⟩:ByteArray)):=(ah fK.out 0).trans rfl
    have Fb:wc.cell? ⟨gY,1,none⟩=some (.string (⟨#[]⟩:ByteArray)):=(ah fK.out 1).trans rfl
    have Fe:wc.cell? ⟨gY,2,none⟩=some (.bool false):=(ah fK.out 2).trans rfl
    have Ff:=aa fK.out 0
    have Fg:=aa fK.out 1
    have Fh:=aa fK.out 2
    go_wp2
    refine bodyPost_ret (eY rfl _ _ gY 30 #[.string (⟨#[]⟩:ByteArray),.string (⟨#[]⟩:ByteArray),.bool false] (0,0) _ rfl (by (with_reducible repeat (first|refine aR ?_ _|refine aY ?_|refine aM ?_ _));refine cF (cs:=#[.string (⟨#[]⟩:ByteArray),.string (⟨#[]⟩:ByteArray),.bool false]) ?_ 2 _ rfl;(with_reducible repeat (first|refine aR ?_ _|refine aY ?_|refine aM ?_ _));refine cF (cs:=#[.string (⟨#[]⟩:ByteArray),.string (⟨#[]⟩:ByteArray),.bool false]) ?_ 1 _ rfl;(with_reducible repeat (first|refine aR ?_ _|refine aY ?_|refine aM ?_ _));refine cF (cs:=#[.string (⟨#[]⟩:ByteArray),.string (⟨#[]⟩:ByteArray),.bool false]) ?_ 0 _ rfl;(with_reducible repeat (first|refine aR ?_ _|refine aY ?_|refine aM ?_ _));exact fK.out) Tryz.underlying30 rfl ay) rfl ?_
    exact ⟨cM,oq,nK,iZ⟩
   ·replace c9:=Bool.eq_false_iff.mpr c9
    subst c9
    rw [if_neg (show ¬ (false=true) by decide)] at H
    obtain ⟨⟨t171,t172,t173⟩,Gy,H⟩:=bd_ H
    (try dsimp only at H)
    by_cases c13:t171=true
    ·subst c13
     rw [if_pos rfl] at H
     obtain ⟨⟨t174,t175,t176,t177⟩,IV,H⟩:=bd_ H
     (try dsimp only at H)
     obtain ⟨t178,PC,H⟩:=bd_ H
     obtain ⟨⟨t179,t180,t181⟩,PD,H⟩:=bd_ H
     (try dsimp only at H)
     by_cases c17:t179=true
     ·subst c17
      rw [if_pos rfl] at H
      obtain ⟨t182,A18,H⟩:=bd_ H
      simp only [Option.some.injEq,Prod.mk.injEq] at H
      obtain ⟨rfl,rfl,rfl,rfl,rfl,rfl⟩:=H
      go_wp2_with (first|((with_reducible refine aU (f:=56) rfl ?_);refine bY (some 23) rfl rfl Tryz.func56 ay rfl #[.pointer (some ⟨g,0,none⟩),.int .u8 91] rfl cr ?_;(with_reducible refine (bu.calls g p9 qa 91 true t172 t173 w0 _ ?aX ?bL Gy.out).mono ?_);(case aX=>repeat (first|(with_reducible first|exact cV.out|apply aq.alloc|apply aq.drewN|apply aq.drew|apply aq.dR|apply aq.dQ|refine aq.far ?_ jc.out _)|exact cV.out));(case bL=>repeat (first|(with_reducible first|exact HB.out|apply aJ|apply aK|apply aW|refine bn ?_ (aq.ge cV.out)|refine bn ?_ oV.out)|exact HB.out));rintro e Qj ⟨rfl,hi,hb,hk⟩;refine ⟨_,rfl,?_⟩;replace fK:=af.mk (bh.blk hk (g':=gY) (o:= .cells #[.string (⟨#[]⟩:ByteArray),.string (⟨#[]⟩:ByteArray),.bool false] 30 (0,0)) jR jo.out bB);replace HK:=af.mk (bh.trans iZ hk (.inl rfl));replace HB:=af.mk (hb);replace cV:=af.mk (hi);(try clear hb);(try clear hk);(try clear hi))|((with_reducible refine aU (f:=119) rfl ?_);refine bY (some 26) rfl rfl Tryz.func119 ay rfl #[.pointer (some ⟨g,0,none⟩),.func (.func 124) #[] #[]] rfl cr ?_;(with_reducible refine (aG.calls OG g t172 t173 t174 t175 t176 t177 w0 _ ?aX ?bL IV.out).mono ?_);(case aX=>repeat (first|(with_reducible first|exact cV.out|apply aq.alloc|apply aq.drewN|apply aq.drew|apply aq.dR|apply aq.dQ|refine aq.far ?_ jc.out _)|exact cV.out));(case bL=>repeat (first|(with_reducible first|exact HB.out|apply aJ|apply aK|apply aW|refine bn ?_ (aq.ge cV.out)|refine bn ?_ oV.out)|exact HB.out));rintro e PE ⟨rfl,hi,hb,hk⟩;refine ⟨_,rfl,?_⟩;replace fK:=af.mk (bh.blk hk (g':=gY) (o:= .cells #[.string (⟨#[]⟩:ByteArray),.string (⟨#[]⟩:ByteArray),.bool false] 30 (0,0)) jR jo.out bB);replace HK:=af.mk (bh.trans iZ hk (.inl rfl));replace HB:=af.mk (hb);replace cV:=af.mk (hi);(try clear hb);(try clear hk);(try clear hi))|((with_reducible refine aU (f:=81) rfl ?_);refine bY (some 31) rfl rfl Tryz.func81 ay rfl #[.string t174] rfl cr ?_;(with_reducible refine (b7.calls t174 t178 _ PC.out).mono ?_);rintro e w21 ⟨rfl,hb⟩;refine ⟨_,rfl,?_⟩;replace fK:=af.mk (bq jR hb);replace HK:=af.mk (bh.trans iZ (bh.of_below hb g none) (.inl rfl));replace HB:=af.mk (aH nK hb);replace cV:=af.mk (aq.below oq hb);(try clear hb))|((with_reducible refine aU (f:=56) rfl ?_);refine bY (some 34) rfl rfl Tryz.func56 ay rfl #[.pointer (some ⟨g,0,none⟩),.int .u8 93] rfl cr ?_;(with_reducible refine (bu.calls g t176 t177 93 true t180 t181 w0 _ ?aX ?bL PD.out).mono ?_);(case aX=>repeat (first|(with_reducible first|exact cV.out|apply aq.alloc|apply aq.drewN|apply aq.drew|apply aq.dR|apply aq.dQ|refine aq.far ?_ jc.out _)|exact cV.out));(case bL=>repeat (first|(with_reducible first|exact HB.out|apply aJ|apply aK|apply aW|refine bn ?_ (aq.ge cV.out)|refine bn ?_ oV.out)|exact HB.out));rintro e GA ⟨rfl,hi,hb,hk⟩;refine ⟨_,rfl,?_⟩;replace fK:=af.mk (bh.blk hk (g':=gY) (o:= .cells #[.string (⟨#[]⟩:ByteArray),.string (⟨#[]⟩:ByteArray),.bool false] 30 (0,0)) jR jo.out bB);replace HK:=af.mk (bh.trans iZ hk (.inl rfl));replace HB:=af.mk (hb);replace cV:=af.mk (hi);(try clear hb);(try clear hk);(try clear hi))|(go_at_call 27;(with_reducible refine (bQ.calls OG t174 t182 _ ?aX A18.out).mono ?_);(case aX=>exact aQ.below HG.out nK);rintro e PA ⟨rfl,hb⟩;replace fK:=af.mk (bq jR hb);replace HK:=af.mk (bh.trans iZ (bh.of_below hb g none) (.inl rfl));replace HB:=af.mk (aH nK hb);replace cV:=af.mk (aq.below oq hb);(try clear hb);have Qr:=jo.out;have Qs:=jc.out;have uG:PA.cell? ⟨gY,0,none⟩=some (.string (⟨#[]⟩:ByteArray)):=(ah fK.out 0).trans rfl;have uH:PA.cell? ⟨gY,1,none⟩=some (.string (⟨#[]⟩:ByteArray)):=(ah fK.out 1).trans rfl;have uI:PA.cell? ⟨gY,2,none⟩=some (.bool false):=(ah fK.out 2).trans rfl;have uJ:=aa fK.out 0;have uK:=aa fK.out 1;have uL:=aa fK.out 2))
      refine bodyPost_ret (eY rfl _ _ gY 30 #[.string t164,.string t178,.bool true] (0,0) _ rfl Hx Tryz.underlying30 rfl ay) rfl ?_
      exact ⟨cM,oq,nK,iZ⟩
     ·replace c17:=Bool.eq_false_iff.mpr c17
      subst c17
      rw [if_neg (show ¬ (false=true) by decide)] at H
      simp only [Option.some.injEq,Prod.mk.injEq] at H
      obtain ⟨rfl,rfl,rfl,rfl,rfl,rfl⟩:=H
      go_wp2_with (first|((with_reducible refine aU (f:=56) rfl ?_);refine bY (some 23) rfl rfl Tryz.func56 ay rfl #[.pointer (some ⟨g,0,none⟩),.int .u8 91] rfl cr ?_;(with_reducible refine (bu.calls g p9 qa 91 true t172 t173 w0 _ ?aX ?bL Gy.out).mono ?_);(case aX=>repeat (first|(with_reducible first|exact cV.out|apply aq.alloc|apply aq.drewN|apply aq.drew|apply aq.dR|apply aq.dQ|refine aq.far ?_ jc.out _)|exact cV.out));(case bL=>repeat (first|(with_reducible first|exact HB.out|apply aJ|apply aK|apply aW|refine bn ?_ (aq.ge cV.out)|refine bn ?_ oV.out)|exact HB.out));rintro e Lr ⟨rfl,hi,hb,hk⟩;refine ⟨_,rfl,?_⟩;replace fK:=af.mk (bh.blk hk (g':=gY) (o:= .cells #[.string (⟨#[]⟩:ByteArray),.string (⟨#[]⟩:ByteArray),.bool false] 30 (0,0)) jR jo.out bB);replace HK:=af.mk (bh.trans iZ hk (.inl rfl));replace HB:=af.mk (hb);replace cV:=af.mk (hi);(try clear hb);(try clear hk);(try clear hi))|((with_reducible refine aU (f:=119) rfl ?_);refine bY (some 26) rfl rfl Tryz.func119 ay rfl #[.pointer (some ⟨g,0,none⟩),.func (.func 124) #[] #[]] rfl cr ?_;(with_reducible refine (aG.calls OG g t172 t173 t174 t175 t176 t177 w0 _ ?aX ?bL IV.out).mono ?_);(case aX=>repeat (first|(with_reducible first|exact cV.out|apply aq.alloc|apply aq.drewN|apply aq.drew|apply aq.dR|apply aq.dQ|refine aq.far ?_ jc.out _)|exact cV.out));(case bL=>repeat (first|(with_reducible first|exact HB.out|apply aJ|apply aK|apply aW|refine bn ?_ (aq.ge cV.out)|refine bn ?_ oV.out)|exact HB.out));rintro e w27 ⟨rfl,hi,hb,hk⟩;refine ⟨_,rfl,?_⟩;replace fK:=af.mk (bh.blk hk (g':=gY) (o:= .cells #[.string (⟨#[]⟩:ByteArray),.string (⟨#[]⟩:ByteArray),.bool false] 30 (0,0)) jR jo.out bB);replace HK:=af.mk (bh.trans iZ hk (.inl rfl));replace HB:=af.mk (hb);replace cV:=af.mk (hi);(try clear hb);(try clear hk);(try clear hi))|((with_reducible refine aU (f:=81) rfl ?_);refine bY (some 31) rfl rfl Tryz.func81 ay rfl #[.string t174] rfl cr ?_;(with_reducible refine (b7.calls t174 t178 _ PC.out).mono ?_);rintro e w28 ⟨rfl,hb⟩;refine ⟨_,rfl,?_⟩;replace fK:=af.mk (bq jR hb);replace HK:=af.mk (bh.trans iZ (bh.of_below hb g none) (.inl rfl));replace HB:=af.mk (aH nK hb);replace cV:=af.mk (aq.below oq hb);(try clear hb))|((with_reducible refine aU (f:=56) rfl ?_);refine bY (some 34) rfl rfl Tryz.func56 ay rfl #[.pointer (some ⟨g,0,none⟩),.int .u8 93] rfl cr ?_;(with_reducible refine (bu.calls g t176 t177 93 false t180 t181 w0 _ ?aX ?bL PD.out).mono ?_);(case aX=>repeat (first|(with_reducible first|exact cV.out|apply aq.alloc|apply aq.drewN|apply aq.drew|apply aq.dR|apply aq.dQ|refine aq.far ?_ jc.out _)|exact cV.out));(case bL=>repeat (first|(with_reducible first|exact HB.out|apply aJ|apply aK|apply aW|refine bn ?_ (aq.ge cV.out)|refine bn ?_ oV.out)|exact HB.out));rintro e w29 ⟨rfl,hi,hb,hk⟩;refine ⟨_,rfl,?_⟩;replace fK:=af.mk (bh.blk hk (g':=gY) (o:= .cells #[.string (⟨#[]⟩:ByteArray),.string (⟨#[]⟩:ByteArray),.bool false] 30 (0,0)) jR jo.out bB);replace HK:=af.mk (bh.trans iZ hk (.inl rfl));replace HB:=af.mk (hb);replace cV:=af.mk (hi);(try clear hb);(try clear hk);(try clear hi);have Qt:=jo.out;have Qu:=jc.out;have EZ:w29.cell? ⟨gY,0,none⟩=some (.string (⟨#[]⟩:ByteArray)):=(ah fK.out 0).trans rfl;have E0:w29.cell? ⟨gY,1,none⟩=some (.string (⟨#[]⟩:ByteArray)):=(ah fK.out 1).trans rfl;have Ls:w29.cell? ⟨gY,2,none⟩=some (.bool false):=(ah fK.out 2).trans rfl;have E1:=aa fK.out 0;have E2:=aa fK.out 1;have Lt:=aa fK.out 2))
      refine bodyPost_ret (eY rfl _ _ gY 30 #[.string t164,.string t178,.bool true] (0,0) _ rfl Hx Tryz.underlying30 rfl ay) rfl ?_
      exact ⟨cM,oq,nK,iZ⟩
    ·replace c13:=Bool.eq_false_iff.mpr c13
     subst c13
     rw [if_neg (show ¬ (false=true) by decide)] at H
     obtain ⟨⟨t183,t184,t185,t186⟩,Td,H⟩:=bd_ H
     (try dsimp only at H)
     simp only [Option.some.injEq,Prod.mk.injEq] at H
     obtain ⟨rfl,rfl,rfl,rfl,rfl,rfl⟩:=H
     go_wp2_with (first|((with_reducible refine aU (f:=56) rfl ?_);refine bY (some 23) rfl rfl Tryz.func56 ay rfl #[.pointer (some ⟨g,0,none⟩),.int .u8 91] rfl cr ?_;(with_reducible refine (bu.calls g p9 qa 91 false t172 t173 w0 _ ?aX ?bL Gy.out).mono ?_);(case aX=>repeat (first|(with_reducible first|exact cV.out|apply aq.alloc|apply aq.drewN|apply aq.drew|apply aq.dR|apply aq.dQ|refine aq.far ?_ jc.out _)|exact cV.out));(case bL=>repeat (first|(with_reducible first|exact HB.out|apply aJ|apply aK|apply aW|refine bn ?_ (aq.ge cV.out)|refine bn ?_ oV.out)|exact HB.out));rintro e OH ⟨rfl,hi,hb,hk⟩;refine ⟨_,rfl,?_⟩;replace fK:=af.mk (bh.blk hk (g':=gY) (o:= .cells #[.string (⟨#[]⟩:ByteArray),.string (⟨#[]⟩:ByteArray),.bool false] 30 (0,0)) jR jo.out bB);replace HK:=af.mk (bh.trans iZ hk (.inl rfl));replace HB:=af.mk (hb);replace cV:=af.mk (hi);(try clear hb);(try clear hk);(try clear hi))|((with_reducible refine aU (f:=80) rfl ?_);refine bY (some 41) rfl rfl Tryz.func80 ay rfl #[.pointer (some ⟨g,0,none⟩)] rfl cr ?_;(with_reducible refine (bH.calls OG g t172 t173 t183 t184 t185 t186 w0 _ ?aX ?bL Td.out).mono ?_);(case aX=>repeat (first|(with_reducible first|exact cV.out|apply aq.alloc|apply aq.drewN|apply aq.drew|apply aq.dR|apply aq.dQ|refine aq.far ?_ jc.out _)|exact cV.out));(case bL=>repeat (first|(with_reducible first|exact HB.out|apply aJ|apply aK|apply aW|refine bn ?_ (aq.ge cV.out)|refine bn ?_ oV.out)|exact HB.out));rintro e w34 ⟨rfl,hi,hb,hk⟩;refine ⟨_,rfl,?_⟩;replace fK:=af.mk (bh.blk hk (g':=gY) (o:= .cells #[.string (⟨#[]⟩:ByteArray),.string (⟨#[]⟩:ByteArray),.bool false] 30 (0,0)) jR jo.out bB);replace HK:=af.mk (bh.trans iZ hk (.inl rfl));replace HB:=af.mk (hb);replace cV:=af.mk (hi);(try clear hb);(try clear hk);(try clear hi);have abX:=jo.out;have abY:=jc.out;have Lu:w34.cell? ⟨gY,0,none⟩=some (.string (⟨#[]⟩:ByteArray)):=(ah fK.out 0).trans rfl;have Lv:w34.cell? ⟨gY,1,none⟩=some (.string (⟨#[]⟩:ByteArray)):=(ah fK.out 1).trans rfl;have Lx:w34.cell? ⟨gY,2,none⟩=some (.bool false):=(ah fK.out 2).trans rfl;have Lz:=aa fK.out 0;have LA:=aa fK.out 1;have LB:=aa fK.out 2))
     refine bodyPost_ret (eY rfl _ _ gY 30 #[.string t164,.string t183,.bool false] (0,0) _ rfl (by (with_reducible repeat (first|refine aR ?_ _|refine aY ?_|refine aM ?_ _));refine cF (cs:=#[.string t164,.string t183,.bool false]) ?_ 2 _ rfl;(with_reducible repeat (first|refine aR ?_ _|refine aY ?_|refine aM ?_ _));refine cF (cs:=#[.string t164,.string (⟨#[]⟩:ByteArray),.bool false]) ?_ 1 _ rfl;(with_reducible repeat (first|refine aR ?_ _|refine aY ?_|refine aM ?_ _));refine cF (cs:=#[.string (⟨#[]⟩:ByteArray),.string (⟨#[]⟩:ByteArray),.bool false]) ?_ 0 _ rfl;(with_reducible repeat (first|refine aR ?_ _|refine aY ?_|refine aM ?_ _));exact fK.out) Tryz.underlying30 rfl ay) rfl ?_
     exact ⟨cM,oq,nK,iZ⟩
def jf.f (a0:ByteArray):Option (Bool):=some (decide ((a0.size:Int) > 63))
theorem jf.calls (a0:ByteArray) (r:Bool) (w:World) (h:jf.f a0=some r):
 Calls Tryz.prog 118 #[.string a0] w fun e w'=>e= .returned (.bool r)∧fV w w':=by
 have H:(some (decide ((a0.size:Int) > 63)))=some r:=h
 clear h
 obtain rfl:=Option.some.inj H
 go_enter Tryz.func118,Tryz.ntmps118
 go_wp2
 go_ret
 exact ⟨dG,iw⟩
def aA.l0:Nat→List ByteArray→Int→Int→Option (Int)
 | 0,_,_,_ =>none
 |k + 1,x0,x7,x8=>if x8 < x7 then (if 0≤x8 then (if x8 < (x0.length:Int) then ((jf.f (jv ByteArray.empty x0 x8)).bind fun t188=>(if t188=true then (some x8) else (aA.l0 k x0 x7 (wrap64 (x8 + 1))))) else (none)) else (none)) else (some (-1))
def aA.f (k:Nat) (l0:List ByteArray):Option (Int):=aA.l0 k l0 (l0.length:Int) 0
theorem aA.eD:∀ k,(∀ y0 y1 y2,bZ (aA.l0 k y0 y1 y2) (aA.l0 (k + 1) y0 y1 y2))
 | 0=>fun _ _ _ r h=>by simp [aA.l0] at h
 |k + 1=>by
  have iJ:=aA.eD k
  ·intro y0 y1 y2
   unfold aA.l0
   repeat' first
   |(with_reducible first|exact iJ _ _ _|exact bZ.refl _|exact bZ.none _|refine bZ.ite ?_ ?_|refine bZ.bind ?_ (fun _ =>?_))
   |exact iJ _ _ _
   |exact bZ.none _
   |refine bZ.ite ?_ ?_
   |refine bZ.bind ?_ (fun _ =>?_)
theorem aA.mono:∀ a0 k,bZ (aA.f k a0) (aA.f (k + 1) a0):=by
 intro a0 k
 have iJ:=aA.eD k
 unfold aA.f
 repeat' first
  |(with_reducible first|exact iJ _ _ _|exact bZ.refl _|exact bZ.none _|refine bZ.ite ?_ ?_|refine bZ.bind ?_ (fun _ =>?_))
  |exact iJ _ _ _
  |exact bZ.none _
  |refine bZ.ite ?_ ?_
  |refine bZ.bind ?_ (fun _ =>?_)
theorem aA.calls (k:Nat) (A0:Option Addr) (c0:Nat) (l0:List ByteArray) (r:Int) (w:World) (tX:Kd.C Kd.string w A0 l0.length l0) (hc0:l0.length≤c0) (h:aA.f k l0=some r):
 Calls Tryz.prog 117 #[.slice A0 l0.length c0,.func (.func 118) #[] #[]] w fun e w'=>e= .returned (.int .i64 r)∧fV w w':=by
 have rE:=af.mk tX
 have IU:=af.mk hc0
 clear tX hc0
 have H:(aA.l0 k l0 (l0.length:Int) 0)=some r:=h
 clear h
 have H':=af.mk H
 clear H
 go_enter Tryz.func117,Tryz.ntmps117
 go_wp2
 go_loopg [8] k (fun kq v8 w'=>∃ (fE:Int),v8= .int .i64 fE∧af (aA.l0 kq l0 (l0.length:Int) fE=some r)∧af (kq≤k)∧fV w w')
 case atStart=>exact ⟨(0),dG,H',⟨Nat.le_refl _⟩,iw⟩
 case round=>
  clear H'
  obtain ⟨fE,rfl,HA,sI,⟨m1,rfl⟩⟩:=hrel
  cases gk with
  |zero=>exact absurd HA.out (by simp [aA.l0])
  |succ k1=>
   have H:=HA.out
   clear HA
   simp only [aA.l0] at H
   by_cases c3:fE < (l0.length:Int)
   ·rw [if_pos c3] at H
    have mh:=decide_eq_true c3
    clear c3
    obtain ⟨c4,H⟩:=jA H
    have nj:=decide_eq_true c4
    clear c4
    obtain ⟨c5,H⟩:=jA H
    have pG:=decide_eq_true c5
    clear c5
    obtain ⟨t188,A6,H⟩:=bd_ H
    by_cases c7:t188=true
    ·subst c7
     rw [if_pos rfl] at H
     obtain rfl:=Option.some.inj H
     have Da: 0≤(fE:Int):=of_decide_eq_true cE
     have Db:fE < (l0.length:Int):=of_decide_eq_true cE
     obtain ⟨Qv,OI,LC⟩:=Kd.gB rE.out fE Da Db
     cases OI
     replace Da:=eq_true Da
     replace Db:=eq_true Db
     go_wp2_with (first|(go_at_call 118;(with_reducible refine (jf.calls (jv ByteArray.empty l0 fE) true _ A6.out).mono ?_);rintro e w' ⟨rfl,⟨nd,rfl⟩⟩))
     go_ret
     exact ⟨dG,iw⟩
    ·replace c7:=Bool.eq_false_iff.mpr c7
     subst c7
     rw [if_neg (show ¬ (false=true) by decide)] at H
     have H':=af.mk H
     clear H
     have Da: 0≤(fE:Int):=of_decide_eq_true cE
     have Db:fE < (l0.length:Int):=of_decide_eq_true cE
     obtain ⟨Qv,OI,LC⟩:=Kd.gB rE.out fE Da Db
     cases OI
     replace Da:=eq_true Da
     replace Db:=eq_true Db
     go_wp2_with (first|(go_at_call 118;(with_reducible refine (jf.calls (jv ByteArray.empty l0 fE) false _ A6.out).mono ?_);rintro e w' ⟨rfl,⟨nd,rfl⟩⟩))
     go_roundg k1
     case measure=>have:=sI.out;omega
     case rel=>exact ⟨(wrap64 (fE + 1)),dG,H',⟨kV⟩,iw⟩
   ·rw [if_neg c3] at H
    have mh:=decide_eq_false c3
    clear c3
    obtain rfl:=Option.some.inj H
    go_wp2
    go_ret
    exact ⟨dG,iw⟩
def bA.f (k:Nat) (l0:List ByteArray):Option (Bool):=(aA.f k l0).bind fun t189=>(some (decide (t189≥0)))
theorem bA.mono:∀ a0 k,bZ (bA.f k a0) (bA.f (k + 1) a0):=by
 intro a0 k
 unfold bA.f
 repeat' first
  |(with_reducible first|exact aA.mono _ _|exact bZ.refl _|exact bZ.none _|refine bZ.ite ?_ ?_|refine bZ.bind ?_ (fun _ =>?_))
  |exact aA.mono _ _
  |exact bZ.none _
  |refine bZ.ite ?_ ?_
  |refine bZ.bind ?_ (fun _ =>?_)
theorem bA.calls (k:Nat) (A0:Option Addr) (c0:Nat) (l0:List ByteArray) (r:Bool) (w:World) (tX:Kd.C Kd.string w A0 l0.length l0) (hc0:l0.length≤c0) (h:bA.f k l0=some r):
 Calls Tryz.prog 59 #[.slice A0 l0.length c0,.func (.func 118) #[] #[]] w fun e w'=>e= .returned (.bool r)∧fV w w':=by
 have rE:=af.mk tX
 have IU:=af.mk hc0
 clear tX hc0
 have H:((aA.f k l0).bind fun t189=>(some (decide (t189≥0))))=some r:=h
 clear h
 obtain ⟨t189,A3,H⟩:=bd_ H
 obtain rfl:=Option.some.inj H
 go_enter Tryz.func59,Tryz.ntmps59
 go_wp2_with (first|((with_reducible refine aU (f:=117) rfl ?_);refine bY (some 7) rfl rfl Tryz.func117 ay rfl #[.slice A0 l0.length c0,.func (.func 118) #[] #[]] rfl cr ?_;(with_reducible refine (aA.calls k _ _ l0 t189 _ ?aX ?bL A3.out).mono ?_);(case aX=>repeat (first|exact rE.out|(with_reducible refine Kd.gu ?_ _)|(with_reducible refine Kd.gv ?_ _)|(with_reducible refine Kd.iB ?_)));(case bL=>exact IU.out);rintro e w' ⟨rfl,⟨nd,rfl⟩⟩;refine ⟨_,rfl,?_⟩))
 go_ret
 exact ⟨dG,iw⟩
def dJ.f (k:Nat) (a0:ByteArray):Option (Bool):=if (a0.size:Int)≤255 then ((strings_Split.f a0 (⟨#[46]⟩:ByteArray)).bind fun t190=>((bA.f k t190).bind fun t193=>(some (!t193)))) else (some false)
theorem dJ.mono:∀ a0 k,bZ (dJ.f k a0) (dJ.f (k + 1) a0):=by
 intro a0 k
 unfold dJ.f
 repeat' first
  |(with_reducible first|exact bA.mono _ _|exact bZ.refl _|exact bZ.none _|refine bZ.ite ?_ ?_|refine bZ.bind ?_ (fun _ =>?_))
  |exact bA.mono _ _
  |exact bZ.none _
  |refine bZ.ite ?_ ?_
  |refine bZ.bind ?_ (fun _ =>?_)
theorem dJ.calls (k:Nat) (a0:ByteArray) (r:Bool) (w:World) (hG:aQ w) (h:dJ.f k a0=some r):
 Calls Tryz.prog 61 #[.string a0] w fun e w'=>e= .returned (.bool r)∧Below w.heap.size w w':=by
 have HB:=af.mk (Below.refl w.heap.size w)
 have HG:=af.mk hG
 clear hG
 have H:(if (a0.size:Int)≤255 then ((strings_Split.f a0 (⟨#[46]⟩:ByteArray)).bind fun t190=>((bA.f k t190).bind fun t193=>(some (!t193)))) else (some false))=some r:=h
 clear h
 by_cases c2:(a0.size:Int)≤255
 ·rw [if_pos c2] at H
  have zy:=decide_eq_true c2
  have OJ:decide (a0.size≤255)=true:=decide_eq_true ak
  clear c2
  obtain ⟨t190,A3,H⟩:=bd_ H
  obtain ⟨t193,A4,H⟩:=bd_ H
  obtain rfl:=Option.some.inj H
  go_enter Tryz.func61,Tryz.ntmps61
  go_wp2_with (first|(go_at_call 75;(with_reducible refine (strings_Split.calls a0 (⟨#[46]⟩:ByteArray) t190 _ ?aX A3.out).mono ?_);(case aX=>exact aQ.below HG.out bS);rintro e w5 ⟨aei,rfl,ho0,hb⟩;have I5:=af.mk (Kd.lu ho0 (fy bS));replace HB:=af.mk (aH bS hb);(try clear hb);(try clear ho0);obtain ⟨Ao6,co6,eo6⟩:=Kd.jm I5.out;subst eo6)|(go_at_call 59;(with_reducible refine (bA.calls k _ _ t190 t193 _ ?aX ?bL A4.out).mono ?_);(case aX=>repeat (first|exact (Kd.gy I5.out).2.2|(with_reducible refine Kd.gu ?_ _)|(with_reducible refine Kd.gv ?_ _)|(with_reducible refine Kd.iB ?_)));(case bL=>exact (Kd.gy I5.out).2.1);rintro e w' ⟨rfl,⟨nd,rfl⟩⟩))
  go_ret
  exact ⟨cM,bS⟩
 ·rw [if_neg c2] at H
  have zy:=decide_eq_false c2
  have OJ:decide (a0.size≤255)=false:=decide_eq_false ak
  clear c2
  obtain rfl:=Option.some.inj H
  go_enter Tryz.func61,Tryz.ntmps61
  go_wp2
  go_ret
  exact ⟨cM,bS⟩
def cX.f (k:Nat) (bD:ByteArray) (fM:ByteArray) (bC:Bool):Option (Bool):=if (bD.size:Int)≤64 then (if bC=true then (some true) else ((dJ.f k fM).bind fun t195=>(some t195))) else (some false)
theorem cX.mono:∀ a0 a1 a2 k,bZ (cX.f k a0 a1 a2) (cX.f (k + 1) a0 a1 a2):=by
 intro a0 a1 a2 k
 unfold cX.f
 repeat' first
  |(with_reducible first|exact dJ.mono _ _|exact bZ.refl _|exact bZ.none _|refine bZ.ite ?_ ?_|refine bZ.bind ?_ (fun _ =>?_))
  |exact dJ.mono _ _
  |exact bZ.none _
  |refine bZ.ite ?_ ?_
  |refine bZ.bind ?_ (fun _ =>?_)
theorem cX.calls (k:Nat) (bD:ByteArray) (fM:ByteArray) (bC:Bool) (r:Bool) (w:World) (hG:aQ w) (h:cX.f k bD fM bC=some r):
 Calls Tryz.prog 58 #[.agg #[.string bD,.string fM,.bool bC]] w fun e w'=>e= .returned (.bool r)∧Below w.heap.size w w':=by
 have Bf:=Tryz.underlying30
 have HB:=af.mk (Below.refl w.heap.size w)
 have HG:=af.mk hG
 clear hG
 have H:(if (bD.size:Int)≤64 then (if bC=true then (some true) else ((dJ.f k fM).bind fun t195=>(some t195))) else (some false))=some r:=h
 clear h
 by_cases c2:(bD.size:Int)≤64
 ·rw [if_pos c2] at H
  have zy:=decide_eq_true c2
  have OJ:decide (bD.size≤64)=true:=decide_eq_true ak
  clear c2
  by_cases c3:bC=true
  ·subst c3
   rw [if_pos rfl] at H
   obtain rfl:=Option.some.inj H
   go_enter Tryz.func58,Tryz.ntmps58
   go_wp2_with (first|((with_reducible refine cU (N:=1) rfl ?_);refine cL ?hg (N:=1) ?hd (cs:=#[.string bD,.string fM,.bool true]) (t:=30) ?hr ?_;(case hd=>rfl);(case hg=>rfl);(case hr=>first|(go_simp;done)|(go_simp;rfl));intro lJ hg w4 dg hb;have jy:=af.mk (dg);have ND:=af.mk ((eo:w.heap.size≤lJ));have Hy:=af.mk ((eo:w.heap.size≤lJ));replace HB:=af.mk (aH bS hb);clear hb dg hg;have C5:w4.cell? ⟨lJ,0,none⟩=some (.string bD):=(ah jy.out 0).trans rfl;have C6:w4.cell? ⟨lJ,1,none⟩=some (.string fM):=(ah jy.out 1).trans rfl;have I6:w4.cell? ⟨lJ,2,none⟩=some (.bool true):=(ah jy.out 2).trans rfl;have C7:=aa jy.out 0;have C8:=aa jy.out 1;have I7:=aa jy.out 2))
   go_ret
   exact ⟨cM,uV⟩
  ·replace c3:=Bool.eq_false_iff.mpr c3
   subst c3
   rw [if_neg (show ¬ (false=true) by decide)] at H
   obtain ⟨t195,A6,H⟩:=bd_ H
   obtain rfl:=Option.some.inj H
   go_enter Tryz.func58,Tryz.ntmps58
   go_wp2_with (first|((with_reducible refine cU (N:=1) rfl ?_);refine cL ?hg (N:=1) ?hd (cs:=#[.string bD,.string fM,.bool false]) (t:=30) ?hr ?_;(case hd=>rfl);(case hg=>rfl);(case hr=>first|(go_simp;done)|(go_simp;rfl));intro lJ hg w7 dg hb;have jy:=af.mk (dg);have ND:=af.mk ((eo:w.heap.size≤lJ));have Hy:=af.mk ((eo:w.heap.size≤lJ));replace HB:=af.mk (aH bS hb);clear hb dg hg;have vC:w7.cell? ⟨lJ,0,none⟩=some (.string bD):=(ah jy.out 0).trans rfl;have vD:w7.cell? ⟨lJ,1,none⟩=some (.string fM):=(ah jy.out 1).trans rfl;have Dc:w7.cell? ⟨lJ,2,none⟩=some (.bool false):=(ah jy.out 2).trans rfl;have vE:=aa jy.out 0;have vF:=aa jy.out 1;have Dd:=aa jy.out 2)|(go_at_call 61;(with_reducible refine (dJ.calls k fM t195 _ ?aX A6.out).mono ?_);(case aX=>exact aQ.below HG.out uV);rintro e w9 ⟨rfl,hb⟩;replace jy:=af.mk (bq (by (with_reducible repeat (first|refine aR ?_ _|refine aY ?_|refine aM ?_ _));exact jy.out) hb);replace HB:=af.mk (aH uV hb);(try clear hb)))
   go_ret
   exact ⟨cM,uV⟩
 ·rw [if_neg c2] at H
  have zy:=decide_eq_false c2
  have OJ:decide (bD.size≤64)=false:=decide_eq_false ak
  clear c2
  obtain rfl:=Option.some.inj H
  go_enter Tryz.func58,Tryz.ntmps58
  go_wp2_with (first|((with_reducible refine cU (N:=1) rfl ?_);refine cL ?hg (N:=1) ?hd (cs:=#[.string bD,.string fM,.bool bC]) (t:=30) ?hr ?_;(case hd=>rfl);(case hg=>rfl);(case hr=>first|(go_simp;done)|(go_simp;rfl));intro lJ hg sB dg hb;have jy:=af.mk (dg);have ND:=af.mk ((eo:w.heap.size≤lJ));have Hy:=af.mk ((eo:w.heap.size≤lJ));replace HB:=af.mk (aH bS hb);clear hb dg hg;have Fa:sB.cell? ⟨lJ,0,none⟩=some (.string bD):=(ah jy.out 0).trans rfl;have Fb:sB.cell? ⟨lJ,1,none⟩=some (.string fM):=(ah jy.out 1).trans rfl;have Fe:sB.cell? ⟨lJ,2,none⟩=some (.bool bC):=(ah jy.out 2).trans rfl;have Ff:=aa jy.out 0;have Fg:=aa jy.out 1;have Fh:=aa jy.out 2))
  go_ret
  exact ⟨cM,uV⟩
def dX.f (k:Nat) (a0:ByteArray):Option (Bool):=(dJ.f k a0).bind fun t196=>(some (!t196))
theorem dX.mono:∀ a0 k,bZ (dX.f k a0) (dX.f (k + 1) a0):=by
 intro a0 k
 unfold dX.f
 repeat' first
  |(with_reducible first|exact dJ.mono _ _|exact bZ.refl _|exact bZ.none _|refine bZ.ite ?_ ?_|refine bZ.bind ?_ (fun _ =>?_))
  |exact dJ.mono _ _
  |exact bZ.none _
  |refine bZ.ite ?_ ?_
  |refine bZ.bind ?_ (fun _ =>?_)
theorem dX.calls (k:Nat) (a0:ByteArray) (r:Bool) (w:World) (hG:aQ w) (h:dX.f k a0=some r):
 Calls Tryz.prog 60 #[.string a0] w fun e w'=>e= .returned (.bool r)∧Below w.heap.size w w':=by
 have HB:=af.mk (Below.refl w.heap.size w)
 have HG:=af.mk hG
 clear hG
 have H:((dJ.f k a0).bind fun t196=>(some (!t196)))=some r:=h
 clear h
 obtain ⟨t196,A2,H⟩:=bd_ H
 obtain rfl:=Option.some.inj H
 go_enter Tryz.func60,Tryz.ntmps60
 go_wp2_with (first|((with_reducible refine aU (f:=61) rfl ?_);refine bY (some 4) rfl rfl Tryz.func61 ay rfl #[.string a0] rfl cr ?_;(with_reducible refine (dJ.calls k a0 t196 _ ?aX A2.out).mono ?_);(case aX=>exact aQ.below HG.out bS);rintro e w3 ⟨rfl,hb⟩;refine ⟨_,rfl,?_⟩;replace HB:=af.mk (aH bS hb);(try clear hb)))
 go_ret
 exact ⟨cM,bS⟩
def aB.l0:Nat→List ByteArray→Int→Int→Option (Int)
 | 0,_,_,_ =>none
 |k + 1,x0,x7,x8=>if x8 < x7 then (if 0≤x8 then (if x8 < (x0.length:Int) then ((dX.f k (jv ByteArray.empty x0 x8)).bind fun t198=>(if t198=true then (some x8) else (aB.l0 k x0 x7 (wrap64 (x8 + 1))))) else (none)) else (none)) else (some (-1))
def aB.f (k:Nat) (l0:List ByteArray):Option (Int):=aB.l0 k l0 (l0.length:Int) 0
theorem aB.eD:∀ k,(∀ y0 y1 y2,bZ (aB.l0 k y0 y1 y2) (aB.l0 (k + 1) y0 y1 y2))
 | 0=>fun _ _ _ r h=>by simp [aB.l0] at h
 |k + 1=>by
  have iJ:=aB.eD k
  ·intro y0 y1 y2
   unfold aB.l0
   repeat' first
   |(with_reducible first|exact iJ _ _ _|exact dX.mono _ _|exact bZ.refl _|exact bZ.none _|refine bZ.ite ?_ ?_|refine bZ.bind ?_ (fun _ =>?_))
   |exact iJ _ _ _
   |exact dX.mono _ _
   |exact bZ.none _
   |refine bZ.ite ?_ ?_
   |refine bZ.bind ?_ (fun _ =>?_)
theorem aB.mono:∀ a0 k,bZ (aB.f k a0) (aB.f (k + 1) a0):=by
 intro a0 k
 have iJ:=aB.eD k
 unfold aB.f
 repeat' first
  |(with_reducible first|exact iJ _ _ _|exact dX.mono _ _|exact bZ.refl _|exact bZ.none _|refine bZ.ite ?_ ?_|refine bZ.bind ?_ (fun _ =>?_))
  |exact iJ _ _ _
  |exact dX.mono _ _
  |exact bZ.none _
  |refine bZ.ite ?_ ?_
  |refine bZ.bind ?_ (fun _ =>?_)
theorem aB.calls (k:Nat) (A0:Option Addr) (c0:Nat) (l0:List ByteArray) (r:Int) (w:World) (tX:Kd.C Kd.string w A0 l0.length l0) (hc0:l0.length≤c0) (hG:aQ w) (h:aB.f k l0=some r):
 Calls Tryz.prog 117 #[.slice A0 l0.length c0,.func (.func 60) #[] #[]] w fun e w'=>e= .returned (.int .i64 r)∧Below w.heap.size w w':=by
 have rE:=af.mk tX
 have IU:=af.mk hc0
 clear tX hc0
 have HB:=af.mk (Below.refl w.heap.size w)
 have HG:=af.mk hG
 clear hG
 have H:(aB.l0 k l0 (l0.length:Int) 0)=some r:=h
 clear h
 have H':=af.mk H
 clear H
 go_enter Tryz.func117,Tryz.ntmps117
 go_wp2
 go_loopg [8] k (fun kq v8 w'=>∃ (fE:Int),v8= .int .i64 fE∧af (aB.l0 kq l0 (l0.length:Int) fE=some r)∧af (kq≤k)∧af (Below w.heap.size w w'))
 case atStart=>exact ⟨(0),dG,H',⟨Nat.le_refl _⟩,⟨bS⟩⟩
 case round=>
  clear H'
  obtain ⟨fE,rfl,HA,sI,HB⟩:=hrel
  cases gk with
  |zero=>exact absurd HA.out (by simp [aB.l0])
  |succ k1=>
   have H:=HA.out
   clear HA
   simp only [aB.l0] at H
   by_cases c3:fE < (l0.length:Int)
   ·rw [if_pos c3] at H
    have mh:=decide_eq_true c3
    clear c3
    obtain ⟨c4,H⟩:=jA H
    have nj:=decide_eq_true c4
    clear c4
    obtain ⟨c5,H⟩:=jA H
    have pG:=decide_eq_true c5
    clear c5
    obtain ⟨t198,A6,H⟩:=bd_ H
    by_cases c7:t198=true
    ·subst c7
     rw [if_pos rfl] at H
     obtain rfl:=Option.some.inj H
     have De: 0≤(fE:Int):=of_decide_eq_true cE
     have Df:fE < (l0.length:Int):=of_decide_eq_true cE
     obtain ⟨Qw,OL,oC⟩:=Kd.gB rE.out fE De Df
     cases OL
     replace oC:=(HB.out.cell (World.block_lt_of_cell? w _ oC)).trans oC
     replace De:=eq_true De
     replace Df:=eq_true Df
     go_wp2_with (first|(go_at_call 60;(with_reducible refine (dX.calls k1 (jv ByteArray.empty l0 fE) true _ ?aX A6.out).mono ?_);(case aX=>exact aQ.below HG.out bS);rintro e w8 ⟨rfl,hb⟩;replace HB:=af.mk (aH bS hb);(try clear hb)))
     go_ret
     exact ⟨cM,bS⟩
    ·replace c7:=Bool.eq_false_iff.mpr c7
     subst c7
     rw [if_neg (show ¬ (false=true) by decide)] at H
     have H':=af.mk H
     clear H
     have De: 0≤(fE:Int):=of_decide_eq_true cE
     have Df:fE < (l0.length:Int):=of_decide_eq_true cE
     obtain ⟨Qw,OL,oC⟩:=Kd.gB rE.out fE De Df
     cases OL
     replace oC:=(HB.out.cell (World.block_lt_of_cell? w _ oC)).trans oC
     replace De:=eq_true De
     replace Df:=eq_true Df
     go_wp2_with (first|(go_at_call 60;(with_reducible refine (dX.calls k1 (jv ByteArray.empty l0 fE) false _ ?aX A6.out).mono ?_);(case aX=>exact aQ.below HG.out bS);rintro e w9 ⟨rfl,hb⟩;replace HB:=af.mk (aH bS hb);(try clear hb)))
     go_roundg k1
     case measure=>have:=sI.out;omega
     case rel=>exact ⟨(wrap64 (fE + 1)),dG,H',⟨kV⟩,⟨bS⟩⟩
   ·rw [if_neg c3] at H
    have mh:=decide_eq_false c3
    clear c3
    obtain rfl:=Option.some.inj H
    go_wp2
    go_ret
    exact ⟨cM,bS⟩
end Go.Proofs.YtokpnfljjjjikaaGreatDoor.lO
