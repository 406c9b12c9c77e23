import Derived.Test.YtokpnfljjjjikaaGreatDoorQCbx4
import Derived.Test.YtokpnfljjjjikaaGreatDoorQCbx5
import Derived.Test.YtokpnfljjjjikaaGreatDoorQCbx7
set_option maxHeartbeats 8000000
set_option maxRecDepth 100000
namespace Go.Proofs.YtokpnfljjjjikaaGreatDoor.nK
open Go.RowKit Go.Proofs.aj.bQ Go.Proofs.aj.fR Go.Proofs.aj.cM
attribute [local go_sem] iY iZ ku kA ig ij jc jd
set_option linter.unusedVariables false
set_option linter.unusedSimpArgs false
def cv.j0:Nat→ByteArray→Bool→ByteArray→Int→Option (ByteArray×ByteArray×Bool×Bool×ByteArray×Int)
 | 0,_,_,_,_ =>none
 |k + 1,x4,x20,gM,fM=>if x20=true then (some ((⟨#[]⟩:ByteArray),(⟨#[]⟩:ByteArray),false,false,gM,fM)) else ((bf.f gM fM 91).bind fun xd=>(if xd.1=true then ((aJ.f k xd.2.1 xd.2.2).bind fun o9=>((cz.f o9.1).bind fun t194=>((bf.f o9.2.2.1 o9.2.2.2 93).bind fun jW=>(if jW.1=true then ((bW.f k o9.1).bind fun t198=>(some (x4,t194,true,t198,jW.2.1,jW.2.2))) else (some (x4,t194,true,false,jW.2.1,jW.2.2)))))) else ((cg.f k xd.2.1 xd.2.2).bind fun pg=>(some (x4,pg.1,false,pg.2.1,pg.2.2.1,pg.2.2.2)))))
def cv.f (k:Nat) (eP:ByteArray) (cK:Int):Option (ByteArray×ByteArray×Bool×Bool×ByteArray×Int):=(cj.f k eP cK).bind fun rU=>(if rU.2.1=true then ((bf.f rU.2.2.1 rU.2.2.2 64).bind fun rV=>(cv.j0 k rU.1 (!rV.1) rV.2.1 rV.2.2)) else (cv.j0 k rU.1 true rU.2.2.1 rU.2.2.2))
theorem cv.fJ:∀ k,(∀ y0 y1 y2 y3,cH (cv.j0 k y0 y1 y2 y3) (cv.j0 (k + 1) y0 y1 y2 y3))
 | 0=>fun _ _ _ _ r h=>by simp [cv.j0] at h
 |k + 1=>by
  have nP:=cv.fJ k
  ·intro y0 y1 y2 y3
   unfold cv.j0
   repeat' first
   |(with_reducible exact nP _ _ _ _)
   |(with_reducible exact bW.mono _ _)
   |(with_reducible exact cg.mono _ _ _)
   |(with_reducible exact cj.mono _ _ _)
   |(with_reducible exact aJ.mono _ _ _)
   |(with_reducible exact cH.refl _)
   |(with_reducible exact cH.none _)
   |(with_reducible refine cH.ite ?_ ?_)
   |(with_reducible refine cH.bind ?_ (fun _ =>?_))
   |refine cH.ite ?_ ?_
   |refine cH.bind ?_ (fun _ =>?_)
theorem cv.mono:∀ a0 a1 k,cH (cv.f k a0 a1) (cv.f (k + 1) a0 a1):=by
 intro a0 a1 k
 have nP:=cv.fJ k
 unfold cv.f
 repeat' first
  |(with_reducible exact nP _ _ _ _)
  |(with_reducible exact bW.mono _ _)
  |(with_reducible exact cg.mono _ _ _)
  |(with_reducible exact cj.mono _ _ _)
  |(with_reducible exact aJ.mono _ _ _)
  |(with_reducible exact cH.refl _)
  |(with_reducible exact cH.none _)
  |(with_reducible refine cH.ite ?_ ?_)
  |(with_reducible refine cH.bind ?_ (fun _ =>?_))
  |refine cH.ite ?_ ?_
  |refine cH.bind ?_ (fun _ =>?_)
theorem cv.calls (k:Nat) (g:Nat) (eP:ByteArray) (cK:Int) (r1:ByteArray) (r2:ByteArray) (r3:Bool) (r4:Bool) (r5:ByteArray) (r6:Int) (w0 w:World) (hI:ay w0 w g eP cK) (hB:Below w0.heap.size w0 w) (hG:aQ w0) (h:cv.f k eP cK=some (r1,r2,r3,r4,r5,r6)):
 Calls Tryz.prog 71 #[.pointer (some ⟨g,0,none⟩)] w fun e w'=>e= .returned (.tuple #[.agg #[.string r1,.string r2,.bool r3],.bool r4])∧ay w0 w' g r5 r6∧Below w0.heap.size w0 w'∧br w w' g none:=by
 have LR:=Tryz.underlying30
 have dx:=ah.mk hI
 have HK:=ah.mk (br.refl w g none)
 have HL:=ah.mk hB.size
 clear hI
 have TQ:=ah.mk hB.size
 have HB:=ah.mk hB
 clear hB
 have HG:=ah.mk hG
 clear hG
 have H:((cj.f k eP cK).bind fun rU=>(if rU.2.1=true then ((bf.f rU.2.2.1 rU.2.2.2 64).bind fun rV=>(cv.j0 k rU.1 (!rV.1) rV.2.1 rV.2.2)) else (cv.j0 k rU.1 true rU.2.2.1 rU.2.2.2)))=some (r1,r2,r3,r4,r5,r6):=h
 clear h
 replace H:=Option.bind_eq_some_iff.mp H
 obtain ⟨⟨t180,t181,t182,t183⟩,nr,H⟩:=H
 replace H:(if t181=true then ((bf.f t182 t183 64).bind fun rV=>(cv.j0 k t180 (!rV.1) rV.2.1 rV.2.2)) else (cv.j0 k t180 true t182 t183))=some (r1,r2,r3,r4,r5,r6):=H
 have A2:=ah.mk nr
 clear nr
 have Od:=ah.mk H
 clear H
 go_enter Tryz.func71,Tryz.ntmps71
 go_upto_region 2 with (first|((with_reducible refine cQ (N:=2) rfl ?_);refine cE ?hg (N:=2) ?hd (cs:=#[.string (⟨#[]⟩:ByteArray),.string (⟨#[]⟩:ByteArray),.bool false]) (t:=30) ?hr ?_;(case hd=>rfl);(case hg=>rfl);(case hr=>first|(go_simp;done)|(go_simp;rfl));intro jX hg w4 cY hb;have bL:=ah.mk (ay.below gU hb);have bS:=ah.mk (br.trans ez (br.of_below hb g none) (.inl rfl));have cG:=ah.mk (aC gT hb);have dA:=ah.mk (cY);have mG:=ah.mk ((PO:w.heap.size≤jX));have rS:=ah.mk ((Nat.le_trans TQ.out (PO:w.heap.size≤jX):w0.heap.size≤jX));have sL:=ah.mk ((by rw [hg];exact Nat.ne_of_lt (ay.lt (show ay w0 _ g eP cK from by repeat (first|(with_reducible first|exact dx.out|apply ay.alloc|apply ay.drewN|apply ay.drew|apply ay.fH|apply ay.fD)|exact dx.out))):g≠jX));have Ml:=ah.mk ((by rw [hg];exact Nat.ne_of_gt (ay.lt (show ay w0 _ g eP cK from by repeat (first|(with_reducible first|exact dx.out|apply ay.alloc|apply ay.drewN|apply ay.drew|apply ay.fH|apply ay.fD)|exact dx.out))):jX≠g));clear dx;clear HK;clear HB;have dx:=bL;have HK:=bS;have HB:=cG;have gu:=dA;have acA:=mG;have wA:=rS;have lM:=sL;have mR:=Ml;clear bL bS cG dA mG rS sL Ml;clear hb cY hg)|((with_reducible refine aU (f:=123) rfl ?_);refine cB (some 11) rfl rfl Tryz.func123 av rfl #[.pointer (some ⟨g,0,none⟩)] rfl cX ?_;(with_reducible refine (cj.calls k g eP cK t180 t181 t182 t183 w0 _ ?aW ?bY A2.out).mono ?_);(case aW=>repeat (first|(with_reducible first|exact dx.out|apply ay.alloc|apply ay.drewN|apply ay.drew|apply ay.fH|apply ay.fD|refine ay.far ?_ lM.out _)|exact dx.out));(case bY=>repeat (first|(with_reducible first|exact HB.out|apply aG|apply aM|apply bn|refine bh ?_ (ay.ge dx.out)|refine bh ?_ wA.out)|exact HB.out));rintro e w5 ⟨rfl,hi,hb,hk⟩;refine ⟨_,rfl,?_⟩;have bL:=ah.mk (br.blk hk (g':=jX) (o:= .cells #[.string (⟨#[]⟩:ByteArray),.string (⟨#[]⟩:ByteArray),.bool false] 30 (0,0)) oz mR.out aV);have bS:=ah.mk (br.trans lJ hk (.inl rfl));have cG:=ah.mk (hb);have dA:=ah.mk (hi);clear gu;clear HK;clear HB;clear dx;have gu:=bL;have HK:=bS;have HB:=cG;have dx:=dA;clear bL bS cG dA;(try clear hb);(try clear hb2);(try clear hk);(try clear hi)))
 (try simp only [Act.put,List.setIfInBounds_toArray,List.set_cons_zero,List.set_cons_succ])
 go_cut [20] (fun v20 wc=>∃ (kq:Nat) (Rw:Bool) (tB:ByteArray) (tC:Int),v20= .bool Rw∧ah (cv.j0 kq t180 Rw tB tC=some (r1,r2,r3,r4,r5,r6))∧ah (kq≤k)∧ah (wc.heap[jX]? =some (.cells #[.string (⟨#[]⟩:ByteArray),.string (⟨#[]⟩:ByteArray),.bool false] 30 (0,0)))∧ah (ay w0 wc g tB tC)∧ah (br w wc g none)∧ah (Below w0.heap.size w0 wc))
 case first=>
  have H:=Od.out
  clear Od
  by_cases c6:t181=true
  ·subst c6
   have H1:((bf.f t182 t183 64).bind fun rV=>(cv.j0 k t180 (!rV.1) rV.2.1 rV.2.2))=some (r1,r2,r3,r4,r5,r6):=by rw [if_pos rfl] at H;exact H
   clear H
   have H:=H1
   clear H1
   replace H:=Option.bind_eq_some_iff.mp H
   obtain ⟨⟨t184,t185,t186⟩,GJ,H⟩:=H
   replace H:(cv.j0 k t180 (!t184) t185 t186)=some (r1,r2,r3,r4,r5,r6):=H
   have A7:=ah.mk GJ
   clear GJ
   have H':=ah.mk H
   clear H
   go_wp2_with (first|(go_at_call 56;(with_reducible refine (bf.calls g t182 t183 64 t184 t185 t186 w0 _ ?aW ?bY A7.out).mono ?_);(case aW=>repeat (first|(with_reducible first|exact dx.out|apply ay.alloc|apply ay.drewN|apply ay.drew|apply ay.fH|apply ay.fD|refine ay.far ?_ lM.out _)|exact dx.out));(case bY=>repeat (first|(with_reducible first|exact HB.out|apply aG|apply aM|apply bn|refine bh ?_ (ay.ge dx.out)|refine bh ?_ wA.out)|exact HB.out));rintro e w8 ⟨rfl,hi,hb,hk⟩;have bL:=ah.mk (br.blk hk (g':=jX) (o:= .cells #[.string (⟨#[]⟩:ByteArray),.string (⟨#[]⟩:ByteArray),.bool false] 30 (0,0)) oz mR.out aV);have bS:=ah.mk (br.trans lJ hk (.inl rfl));have cG:=ah.mk (hb);have dA:=ah.mk (hi);clear gu;clear HK;clear HB;clear dx;have gu:=bL;have HK:=bS;have HB:=cG;have dx:=dA;clear bL bS cG dA;(try clear hb);(try clear hb2);(try clear hk);(try clear hi)))
   go_meet
   case rel=>exact ⟨_,(!t184),(t185),(t186),dG,H',⟨mJ⟩,⟨oz⟩,⟨uw⟩,⟨lJ⟩,⟨tO⟩⟩
  ·replace c6:=Bool.eq_false_iff.mpr c6
   subst c6
   have H1:(cv.j0 k t180 true t182 t183)=some (r1,r2,r3,r4,r5,r6):=by rw [if_neg (show ¬ (false=true) by decide)] at H;exact H
   clear H
   have H:=H1
   clear H1
   have H':=ah.mk H
   clear H
   go_wp2
   go_meet
   case rel=>exact ⟨_,(true),(t182),(t183),dG,H',⟨mJ⟩,⟨oz⟩,⟨uw⟩,⟨lJ⟩,⟨tO⟩⟩
 case rest=>
  clear Od
  try clear c1
  try clear p2
  try clear c6
  try clear c7
  obtain ⟨kq,Rw,tB,tC,rfl,HA,WO,gu,dx,HK,HB⟩:=hcut
  cases kq with
  |zero=>exact absurd HA.out (by simp [cv.j0])
  |succ qb=>
   have H:=HA.out
   clear HA
   simp only [cv.j0] at H
   by_cases c9:Rw=true
   ·subst c9
    have H1:(some ((⟨#[]⟩:ByteArray),(⟨#[]⟩:ByteArray),false,false,tB,tC))=some (r1,r2,r3,r4,r5,r6):=by rw [if_pos rfl] at H;exact H
    clear H
    have H:=H1
    clear H1
    simp only [Option.some.injEq,Prod.mk.injEq] at H
    obtain ⟨rfl,rfl,rfl,rfl,rfl,rfl⟩:=H
    have ac3:=mR.out
    have ac4:=lM.out
    have sS:wc.cell? ⟨jX,0,none⟩=some (.string (⟨#[]⟩:ByteArray)):=(af gu.out 0).trans rfl
    have sU:wc.cell? ⟨jX,1,none⟩=some (.string (⟨#[]⟩:ByteArray)):=(af gu.out 1).trans rfl
    have sV:wc.cell? ⟨jX,2,none⟩=some (.bool false):=(af gu.out 2).trans rfl
    have sW:=aa gu.out 0
    have sX:=aa gu.out 1
    have sY:=aa gu.out 2
    go_wp2
    refine bodyPost_ret (cU rfl _ _ jX 30 #[.string (⟨#[]⟩:ByteArray),.string (⟨#[]⟩:ByteArray),.bool false] (0,0) _ rfl (by (with_reducible repeat (first|refine bF ?_ _|refine bN ?_|refine bB ?_ _));refine cZ (cs:=#[.string (⟨#[]⟩:ByteArray),.string (⟨#[]⟩:ByteArray),.bool false]) ?_ 2 _ rfl;(with_reducible repeat (first|refine bF ?_ _|refine bN ?_|refine bB ?_ _));refine cZ (cs:=#[.string (⟨#[]⟩:ByteArray),.string (⟨#[]⟩:ByteArray),.bool false]) ?_ 1 _ rfl;(with_reducible repeat (first|refine bF ?_ _|refine bN ?_|refine bB ?_ _));refine cZ (cs:=#[.string (⟨#[]⟩:ByteArray),.string (⟨#[]⟩:ByteArray),.bool false]) ?_ 0 _ rfl;(with_reducible repeat (first|refine bF ?_ _|refine bN ?_|refine bB ?_ _));exact gu.out) Tryz.underlying30 rfl av) rfl ?_
    exact ⟨cO,uw,tO,lJ⟩
   ·replace c9:=Bool.eq_false_iff.mpr c9
    subst c9
    have H1:((bf.f tB tC 91).bind fun xd=>(if xd.1=true then ((aJ.f qb xd.2.1 xd.2.2).bind fun o9=>((cz.f o9.1).bind fun t194=>((bf.f o9.2.2.1 o9.2.2.2 93).bind fun jW=>(if jW.1=true then ((bW.f qb o9.1).bind fun t198=>(some (t180,t194,true,t198,jW.2.1,jW.2.2))) else (some (t180,t194,true,false,jW.2.1,jW.2.2)))))) else ((cg.f qb xd.2.1 xd.2.2).bind fun pg=>(some (t180,pg.1,false,pg.2.1,pg.2.2.1,pg.2.2.2)))))=some (r1,r2,r3,r4,r5,r6):=by rw [if_neg (show ¬ (false=true) by decide)] at H;exact H
    clear H
    have H:=H1
    clear H1
    replace H:=Option.bind_eq_some_iff.mp H
    obtain ⟨⟨t187,t188,t189⟩,E7,H⟩:=H
    replace H:(if t187=true then ((aJ.f qb t188 t189).bind fun o9=>((cz.f o9.1).bind fun t194=>((bf.f o9.2.2.1 o9.2.2.2 93).bind fun jW=>(if jW.1=true then ((bW.f qb o9.1).bind fun t198=>(some (t180,t194,true,t198,jW.2.1,jW.2.2))) else (some (t180,t194,true,false,jW.2.1,jW.2.2)))))) else ((cg.f qb t188 t189).bind fun pg=>(some (t180,pg.1,false,pg.2.1,pg.2.2.1,pg.2.2.2))))=some (r1,r2,r3,r4,r5,r6):=H
    have Lh:=ah.mk E7
    clear E7
    by_cases c13:t187=true
    ·subst c13
     have H1:((aJ.f qb t188 t189).bind fun o9=>((cz.f o9.1).bind fun t194=>((bf.f o9.2.2.1 o9.2.2.2 93).bind fun jW=>(if jW.1=true then ((bW.f qb o9.1).bind fun t198=>(some (t180,t194,true,t198,jW.2.1,jW.2.2))) else (some (t180,t194,true,false,jW.2.1,jW.2.2))))))=some (r1,r2,r3,r4,r5,r6):=by rw [if_pos rfl] at H;exact H
     clear H
     have H:=H1
     clear H1
     replace H:=Option.bind_eq_some_iff.mp H
     obtain ⟨⟨t190,t191,t192,t193⟩,Bd,H⟩:=H
     replace H:((cz.f t190).bind fun t194=>((bf.f t192 t193 93).bind fun jW=>(if jW.1=true then ((bW.f qb t190).bind fun t198=>(some (t180,t194,true,t198,jW.2.1,jW.2.2))) else (some (t180,t194,true,false,jW.2.1,jW.2.2)))))=some (r1,r2,r3,r4,r5,r6):=H
     have UR:=ah.mk Bd
     clear Bd
     replace H:=Option.bind_eq_some_iff.mp H
     obtain ⟨t194,Mm,H⟩:=H
     replace H:((bf.f t192 t193 93).bind fun jW=>(if jW.1=true then ((bW.f qb t190).bind fun t198=>(some (t180,t194,true,t198,jW.2.1,jW.2.2))) else (some (t180,t194,true,false,jW.2.1,jW.2.2))))=some (r1,r2,r3,r4,r5,r6):=H
     have XN:=ah.mk Mm
     clear Mm
     replace H:=Option.bind_eq_some_iff.mp H
     obtain ⟨⟨t195,t196,t197⟩,Mn,H⟩:=H
     replace H:(if t195=true then ((bW.f qb t190).bind fun t198=>(some (t180,t194,true,t198,t196,t197))) else (some (t180,t194,true,false,t196,t197)))=some (r1,r2,r3,r4,r5,r6):=H
     have A16:=ah.mk Mn
     clear Mn
     by_cases c17:t195=true
     ·subst c17
      have H1:((bW.f qb t190).bind fun t198=>(some (t180,t194,true,t198,t196,t197)))=some (r1,r2,r3,r4,r5,r6):=by rw [if_pos rfl] at H;exact H
      clear H
      have H:=H1
      clear H1
      replace H:=Option.bind_eq_some_iff.mp H
      obtain ⟨t198,Mo,H⟩:=H
      replace H:(some (t180,t194,true,t198,t196,t197))=some (r1,r2,r3,r4,r5,r6):=H
      have A18:=ah.mk Mo
      clear Mo
      simp only [Option.some.injEq,Prod.mk.injEq] at H
      obtain ⟨rfl,rfl,rfl,rfl,rfl,rfl⟩:=H
      go_wp2_with (first|((with_reducible refine aU (f:=56) rfl ?_);refine cB (some 23) rfl rfl Tryz.func56 av rfl #[.pointer (some ⟨g,0,none⟩),.int .u8 91] rfl cX ?_;(with_reducible refine (bf.calls g tB tC 91 true t188 t189 w0 _ ?aW ?bY Lh.out).mono ?_);(case aW=>repeat (first|(with_reducible first|exact dx.out|apply ay.alloc|apply ay.drewN|apply ay.drew|apply ay.fH|apply ay.fD|refine ay.far ?_ lM.out _)|exact dx.out));(case bY=>repeat (first|(with_reducible first|exact HB.out|apply aG|apply aM|apply bn|refine bh ?_ (ay.ge dx.out)|refine bh ?_ wA.out)|exact HB.out));rintro e LZ ⟨rfl,hi,hb,hk⟩;refine ⟨_,rfl,?_⟩;have bL:=ah.mk (br.blk hk (g':=jX) (o:= .cells #[.string (⟨#[]⟩:ByteArray),.string (⟨#[]⟩:ByteArray),.bool false] 30 (0,0)) oz mR.out aV);have bS:=ah.mk (br.trans lJ hk (.inl rfl));have cG:=ah.mk (hb);have dA:=ah.mk (hi);clear gu;clear HK;clear HB;clear dx;have gu:=bL;have HK:=bS;have HB:=cG;have dx:=dA;clear bL bS cG dA;(try clear hb);(try clear hb2);(try clear hk);(try clear hi))|((with_reducible refine aU (f:=119) rfl ?_);refine cB (some 26) rfl rfl Tryz.func119 av rfl #[.pointer (some ⟨g,0,none⟩),.func (.func 124) #[] #[]] rfl cX ?_;(with_reducible refine (aJ.calls qb g t188 t189 t190 t191 t192 t193 w0 _ ?aW ?bY UR.out).mono ?_);(case aW=>repeat (first|(with_reducible first|exact dx.out|apply ay.alloc|apply ay.drewN|apply ay.drew|apply ay.fH|apply ay.fD|refine ay.far ?_ lM.out _)|exact dx.out));(case bY=>repeat (first|(with_reducible first|exact HB.out|apply aG|apply aM|apply bn|refine bh ?_ (ay.ge dx.out)|refine bh ?_ wA.out)|exact HB.out));rintro e Nz ⟨rfl,hi,hb,hk⟩;refine ⟨_,rfl,?_⟩;have bL:=ah.mk (br.blk hk (g':=jX) (o:= .cells #[.string (⟨#[]⟩:ByteArray),.string (⟨#[]⟩:ByteArray),.bool false] 30 (0,0)) oz mR.out aV);have bS:=ah.mk (br.trans lJ hk (.inl rfl));have cG:=ah.mk (hb);have dA:=ah.mk (hi);clear gu;clear HK;clear HB;clear dx;have gu:=bL;have HK:=bS;have HB:=cG;have dx:=dA;clear bL bS cG dA;(try clear hb);(try clear hb2);(try clear hk);(try clear hi))|((with_reducible refine aU (f:=81) rfl ?_);refine cB (some 31) rfl rfl Tryz.func81 av rfl #[.string t190] rfl cX ?_;(with_reducible refine (cz.calls t190 t194 _ XN.out).mono ?_);rintro e XO ⟨rfl,hb⟩;refine ⟨_,rfl,?_⟩;have bL:=ah.mk (aX (g:=jX) (o:= .cells #[.string (⟨#[]⟩:ByteArray),.string (⟨#[]⟩:ByteArray),.bool false] 30 (0,0)) oz hb);have bS:=ah.mk (ay.below uw hb);have cG:=ah.mk (br.trans lJ (br.of_below hb g none) (.inl rfl));have dA:=ah.mk (aC tO hb);clear gu;clear dx;clear HK;clear HB;have gu:=bL;have dx:=bS;have HK:=cG;have HB:=dA;clear bL bS cG dA;(try clear hb);(try clear hb2);(try clear hk);(try clear hi))|((with_reducible refine aU (f:=56) rfl ?_);refine cB (some 34) rfl rfl Tryz.func56 av rfl #[.pointer (some ⟨g,0,none⟩),.int .u8 93] rfl cX ?_;(with_reducible refine (bf.calls g t192 t193 93 true t196 t197 w0 _ ?aW ?bY A16.out).mono ?_);(case aW=>repeat (first|(with_reducible first|exact dx.out|apply ay.alloc|apply ay.drewN|apply ay.drew|apply ay.fH|apply ay.fD|refine ay.far ?_ lM.out _)|exact dx.out));(case bY=>repeat (first|(with_reducible first|exact HB.out|apply aG|apply aM|apply bn|refine bh ?_ (ay.ge dx.out)|refine bh ?_ wA.out)|exact HB.out));rintro e Fb ⟨rfl,hi,hb,hk⟩;refine ⟨_,rfl,?_⟩;have bL:=ah.mk (br.blk hk (g':=jX) (o:= .cells #[.string (⟨#[]⟩:ByteArray),.string (⟨#[]⟩:ByteArray),.bool false] 30 (0,0)) oz mR.out aV);have bS:=ah.mk (br.trans lJ hk (.inl rfl));have cG:=ah.mk (hb);have dA:=ah.mk (hi);clear gu;clear HK;clear HB;clear dx;have gu:=bL;have HK:=bS;have HB:=cG;have dx:=dA;clear bL bS cG dA;(try clear hb);(try clear hb2);(try clear hk);(try clear hi))|(go_at_call 27;(with_reducible refine (bW.calls qb t190 t198 _ ?aW A18.out).mono ?_);(case aW=>exact aQ.below HG.out tO);rintro e Li ⟨rfl,hb⟩;have bL:=ah.mk (aX (g:=jX) (o:= .cells #[.string (⟨#[]⟩:ByteArray),.string (⟨#[]⟩:ByteArray),.bool false] 30 (0,0)) oz hb);have bS:=ah.mk (ay.below uw hb);have cG:=ah.mk (br.trans lJ (br.of_below hb g none) (.inl rfl));have dA:=ah.mk (aC tO hb);clear gu;clear dx;clear HK;clear HB;have gu:=bL;have dx:=bS;have HK:=cG;have HB:=dA;clear bL bS cG dA;(try clear hb);(try clear hb2);(try clear hk);(try clear hi);have adw:=mR.out;have adx:=lM.out;have td:Li.cell? ⟨jX,0,none⟩=some (.string (⟨#[]⟩:ByteArray)):=(af gu.out 0).trans rfl;have tj:Li.cell? ⟨jX,1,none⟩=some (.string (⟨#[]⟩:ByteArray)):=(af gu.out 1).trans rfl;have tq:Li.cell? ⟨jX,2,none⟩=some (.bool false):=(af gu.out 2).trans rfl;have tu:=aa gu.out 0;have tv:=aa gu.out 1;have tA:=aa gu.out 2))
      refine bodyPost_ret (cU rfl _ _ jX 30 #[.string t180,.string t194,.bool true] (0,0) _ rfl Uc Tryz.underlying30 rfl av) rfl ?_
      exact ⟨cO,uw,tO,lJ⟩
     ·replace c17:=Bool.eq_false_iff.mpr c17
      subst c17
      have H1:(some (t180,t194,true,false,t196,t197))=some (r1,r2,r3,r4,r5,r6):=by rw [if_neg (show ¬ (false=true) by decide)] at H;exact H
      clear H
      have H:=H1
      clear H1
      simp only [Option.some.injEq,Prod.mk.injEq] at H
      obtain ⟨rfl,rfl,rfl,rfl,rfl,rfl⟩:=H
      go_wp2_with (first|((with_reducible refine aU (f:=56) rfl ?_);refine cB (some 23) rfl rfl Tryz.func56 av rfl #[.pointer (some ⟨g,0,none⟩),.int .u8 91] rfl cX ?_;(with_reducible refine (bf.calls g tB tC 91 true t188 t189 w0 _ ?aW ?bY Lh.out).mono ?_);(case aW=>repeat (first|(with_reducible first|exact dx.out|apply ay.alloc|apply ay.drewN|apply ay.drew|apply ay.fH|apply ay.fD|refine ay.far ?_ lM.out _)|exact dx.out));(case bY=>repeat (first|(with_reducible first|exact HB.out|apply aG|apply aM|apply bn|refine bh ?_ (ay.ge dx.out)|refine bh ?_ wA.out)|exact HB.out));rintro e zO ⟨rfl,hi,hb,hk⟩;refine ⟨_,rfl,?_⟩;have bL:=ah.mk (br.blk hk (g':=jX) (o:= .cells #[.string (⟨#[]⟩:ByteArray),.string (⟨#[]⟩:ByteArray),.bool false] 30 (0,0)) oz mR.out aV);have bS:=ah.mk (br.trans lJ hk (.inl rfl));have cG:=ah.mk (hb);have dA:=ah.mk (hi);clear gu;clear HK;clear HB;clear dx;have gu:=bL;have HK:=bS;have HB:=cG;have dx:=dA;clear bL bS cG dA;(try clear hb);(try clear hb2);(try clear hk);(try clear hi))|((with_reducible refine aU (f:=119) rfl ?_);refine cB (some 26) rfl rfl Tryz.func119 av rfl #[.pointer (some ⟨g,0,none⟩),.func (.func 124) #[] #[]] rfl cX ?_;(with_reducible refine (aJ.calls qb g t188 t189 t190 t191 t192 t193 w0 _ ?aW ?bY UR.out).mono ?_);(case aW=>repeat (first|(with_reducible first|exact dx.out|apply ay.alloc|apply ay.drewN|apply ay.drew|apply ay.fH|apply ay.fD|refine ay.far ?_ lM.out _)|exact dx.out));(case bY=>repeat (first|(with_reducible first|exact HB.out|apply aG|apply aM|apply bn|refine bh ?_ (ay.ge dx.out)|refine bh ?_ wA.out)|exact HB.out));rintro e WH ⟨rfl,hi,hb,hk⟩;refine ⟨_,rfl,?_⟩;have bL:=ah.mk (br.blk hk (g':=jX) (o:= .cells #[.string (⟨#[]⟩:ByteArray),.string (⟨#[]⟩:ByteArray),.bool false] 30 (0,0)) oz mR.out aV);have bS:=ah.mk (br.trans lJ hk (.inl rfl));have cG:=ah.mk (hb);have dA:=ah.mk (hi);clear gu;clear HK;clear HB;clear dx;have gu:=bL;have HK:=bS;have HB:=cG;have dx:=dA;clear bL bS cG dA;(try clear hb);(try clear hb2);(try clear hk);(try clear hi))|((with_reducible refine aU (f:=81) rfl ?_);refine cB (some 31) rfl rfl Tryz.func81 av rfl #[.string t190] rfl cX ?_;(with_reducible refine (cz.calls t190 t194 _ XN.out).mono ?_);rintro e w28 ⟨rfl,hb⟩;refine ⟨_,rfl,?_⟩;have bL:=ah.mk (aX (g:=jX) (o:= .cells #[.string (⟨#[]⟩:ByteArray),.string (⟨#[]⟩:ByteArray),.bool false] 30 (0,0)) oz hb);have bS:=ah.mk (ay.below uw hb);have cG:=ah.mk (br.trans lJ (br.of_below hb g none) (.inl rfl));have dA:=ah.mk (aC tO hb);clear gu;clear dx;clear HK;clear HB;have gu:=bL;have dx:=bS;have HK:=cG;have HB:=dA;clear bL bS cG dA;(try clear hb);(try clear hb2);(try clear hk);(try clear hi))|((with_reducible refine aU (f:=56) rfl ?_);refine cB (some 34) rfl rfl Tryz.func56 av rfl #[.pointer (some ⟨g,0,none⟩),.int .u8 93] rfl cX ?_;(with_reducible refine (bf.calls g t192 t193 93 false t196 t197 w0 _ ?aW ?bY A16.out).mono ?_);(case aW=>repeat (first|(with_reducible first|exact dx.out|apply ay.alloc|apply ay.drewN|apply ay.drew|apply ay.fH|apply ay.fD|refine ay.far ?_ lM.out _)|exact dx.out));(case bY=>repeat (first|(with_reducible first|exact HB.out|apply aG|apply aM|apply bn|refine bh ?_ (ay.ge dx.out)|refine bh ?_ wA.out)|exact HB.out));rintro e ZT ⟨rfl,hi,hb,hk⟩;refine ⟨_,rfl,?_⟩;have bL:=ah.mk (br.blk hk (g':=jX) (o:= .cells #[.string (⟨#[]⟩:ByteArray),.string (⟨#[]⟩:ByteArray),.bool false] 30 (0,0)) oz mR.out aV);have bS:=ah.mk (br.trans lJ hk (.inl rfl));have cG:=ah.mk (hb);have dA:=ah.mk (hi);clear gu;clear HK;clear HB;clear dx;have gu:=bL;have HK:=bS;have HB:=cG;have dx:=dA;clear bL bS cG dA;(try clear hb);(try clear hb2);(try clear hk);(try clear hi);have ZU:=mR.out;have ZV:=lM.out;have yH:ZT.cell? ⟨jX,0,none⟩=some (.string (⟨#[]⟩:ByteArray)):=(af gu.out 0).trans rfl;have yI:ZT.cell? ⟨jX,1,none⟩=some (.string (⟨#[]⟩:ByteArray)):=(af gu.out 1).trans rfl;have Bf:ZT.cell? ⟨jX,2,none⟩=some (.bool false):=(af gu.out 2).trans rfl;have yJ:=aa gu.out 0;have yK:=aa gu.out 1;have Bg:=aa gu.out 2))
      refine bodyPost_ret (cU rfl _ _ jX 30 #[.string t180,.string t194,.bool true] (0,0) _ rfl Uc Tryz.underlying30 rfl av) rfl ?_
      exact ⟨cO,uw,tO,lJ⟩
    ·replace c13:=Bool.eq_false_iff.mpr c13
     subst c13
     have H1:((cg.f qb t188 t189).bind fun pg=>(some (t180,pg.1,false,pg.2.1,pg.2.2.1,pg.2.2.2)))=some (r1,r2,r3,r4,r5,r6):=by rw [if_neg (show ¬ (false=true) by decide)] at H;exact H
     clear H
     have H:=H1
     clear H1
     replace H:=Option.bind_eq_some_iff.mp H
     obtain ⟨⟨t199,t200,t201,t202⟩,U7,H⟩:=H
     replace H:(some (t180,t199,false,t200,t201,t202))=some (r1,r2,r3,r4,r5,r6):=H
     have A32:=ah.mk U7
     clear U7
     simp only [Option.some.injEq,Prod.mk.injEq] at H
     obtain ⟨rfl,rfl,rfl,rfl,rfl,rfl⟩:=H
     go_wp2_with (first|((with_reducible refine aU (f:=56) rfl ?_);refine cB (some 23) rfl rfl Tryz.func56 av rfl #[.pointer (some ⟨g,0,none⟩),.int .u8 91] rfl cX ?_;(with_reducible refine (bf.calls g tB tC 91 false t188 t189 w0 _ ?aW ?bY Lh.out).mono ?_);(case aW=>repeat (first|(with_reducible first|exact dx.out|apply ay.alloc|apply ay.drewN|apply ay.drew|apply ay.fH|apply ay.fD|refine ay.far ?_ lM.out _)|exact dx.out));(case bY=>repeat (first|(with_reducible first|exact HB.out|apply aG|apply aM|apply bn|refine bh ?_ (ay.ge dx.out)|refine bh ?_ wA.out)|exact HB.out));rintro e OA ⟨rfl,hi,hb,hk⟩;refine ⟨_,rfl,?_⟩;have bL:=ah.mk (br.blk hk (g':=jX) (o:= .cells #[.string (⟨#[]⟩:ByteArray),.string (⟨#[]⟩:ByteArray),.bool false] 30 (0,0)) oz mR.out aV);have bS:=ah.mk (br.trans lJ hk (.inl rfl));have cG:=ah.mk (hb);have dA:=ah.mk (hi);clear gu;clear HK;clear HB;clear dx;have gu:=bL;have HK:=bS;have HB:=cG;have dx:=dA;clear bL bS cG dA;(try clear hb);(try clear hb2);(try clear hk);(try clear hi))|((with_reducible refine aU (f:=80) rfl ?_);refine cB (some 41) rfl rfl Tryz.func80 av rfl #[.pointer (some ⟨g,0,none⟩)] rfl cX ?_;(with_reducible refine (cg.calls qb g t188 t189 t199 t200 t201 t202 w0 _ ?aW ?bY A32.out).mono ?_);(case aW=>repeat (first|(with_reducible first|exact dx.out|apply ay.alloc|apply ay.drewN|apply ay.drew|apply ay.fH|apply ay.fD|refine ay.far ?_ lM.out _)|exact dx.out));(case bY=>repeat (first|(with_reducible first|exact HB.out|apply aG|apply aM|apply bn|refine bh ?_ (ay.ge dx.out)|refine bh ?_ wA.out)|exact HB.out));rintro e TT ⟨rfl,hi,hb,hk⟩;refine ⟨_,rfl,?_⟩;have bL:=ah.mk (br.blk hk (g':=jX) (o:= .cells #[.string (⟨#[]⟩:ByteArray),.string (⟨#[]⟩:ByteArray),.bool false] 30 (0,0)) oz mR.out aV);have bS:=ah.mk (br.trans lJ hk (.inl rfl));have cG:=ah.mk (hb);have dA:=ah.mk (hi);clear gu;clear HK;clear HB;clear dx;have gu:=bL;have HK:=bS;have HB:=cG;have dx:=dA;clear bL bS cG dA;(try clear hb);(try clear hb2);(try clear hk);(try clear hi);have ajW:=mR.out;have ajX:=lM.out;have AW:TT.cell? ⟨jX,0,none⟩=some (.string (⟨#[]⟩:ByteArray)):=(af gu.out 0).trans rfl;have AX:TT.cell? ⟨jX,1,none⟩=some (.string (⟨#[]⟩:ByteArray)):=(af gu.out 1).trans rfl;have AY:TT.cell? ⟨jX,2,none⟩=some (.bool false):=(af gu.out 2).trans rfl;have AZ:=aa gu.out 0;have Ba:=aa gu.out 1;have Bb:=aa gu.out 2))
     refine bodyPost_ret (cU rfl _ _ jX 30 #[.string t180,.string t199,.bool false] (0,0) _ rfl (by (with_reducible repeat (first|refine bF ?_ _|refine bN ?_|refine bB ?_ _));refine cZ (cs:=#[.string t180,.string t199,.bool false]) ?_ 2 _ rfl;(with_reducible repeat (first|refine bF ?_ _|refine bN ?_|refine bB ?_ _));refine cZ (cs:=#[.string t180,.string (⟨#[]⟩:ByteArray),.bool false]) ?_ 1 _ rfl;(with_reducible repeat (first|refine bF ?_ _|refine bN ?_|refine bB ?_ _));refine cZ (cs:=#[.string (⟨#[]⟩:ByteArray),.string (⟨#[]⟩:ByteArray),.bool false]) ?_ 0 _ rfl;(with_reducible repeat (first|refine bF ?_ _|refine bN ?_|refine bB ?_ _));exact gu.out) Tryz.underlying30 rfl av) rfl ?_
     exact ⟨cO,uw,tO,lJ⟩
def ey.f (k:Nat) (aI:ByteArray) (aZ:ByteArray) (bp:Bool):Option (Bool):=if (aI.size:Int)≤64 then (if bp=true then (some true) else ((eK.f k aZ).bind fun t204=>(some t204))) else (some false)
theorem ey.mono:∀ a0 a1 a2 k,cH (ey.f k a0 a1 a2) (ey.f (k + 1) a0 a1 a2):=by
 intro a0 a1 a2 k
 unfold ey.f
 repeat' first
  |(with_reducible exact eK.mono _ _)
  |(with_reducible exact cH.refl _)
  |(with_reducible exact cH.none _)
  |(with_reducible refine cH.ite ?_ ?_)
  |(with_reducible refine cH.bind ?_ (fun _ =>?_))
  |refine cH.ite ?_ ?_
  |refine cH.bind ?_ (fun _ =>?_)
theorem ey.calls (k:Nat) (aI:ByteArray) (aZ:ByteArray) (bp:Bool) (r:Bool) (w:World) (hG:aQ w) (h:ey.f k aI aZ bp=some r):
 Calls Tryz.prog 58 #[.agg #[.string aI,.string aZ,.bool bp]] w fun e w'=>e= .returned (.bool r)∧Below w.heap.size w w':=by
 have LR:=Tryz.underlying30
 have HB:=ah.mk (Below.refl w.heap.size w)
 have HG:=ah.mk hG
 clear hG
 have H:(if (aI.size:Int)≤64 then (if bp=true then (some true) else ((eK.f k aZ).bind fun t204=>(some t204))) else (some false))=some r:=h
 clear h
 by_cases c2:(aI.size:Int)≤64
 ·rw [if_pos c2] at H
  have BR:decide ((aI.size:Int)≤64)=true:=decide_eq_true c2
  have N9:decide (aI.size≤64)=true:=decide_eq_true aq
  clear c2
  by_cases c3:bp=true
  ·subst c3
   have H1:(some true)=some r:=by rw [if_pos rfl] at H;exact H
   clear H
   have H:=H1
   clear H1
   obtain rfl:=Option.some.inj H
   go_enter Tryz.func58,Tryz.ntmps58
   go_wp2_with (first|((with_reducible refine cQ (N:=1) rfl ?_);refine cE ?hg (N:=1) ?hd (cs:=#[.string aI,.string aZ,.bool true]) (t:=30) ?hr ?_;(case hd=>rfl);(case hg=>rfl);(case hr=>first|(go_simp;done)|(go_simp;rfl));intro pR hg w4 cY hb;have bL:=ah.mk (aC cw hb);have bS:=ah.mk (cY);have cG:=ah.mk ((dQ:w.heap.size≤pR));have dA:=ah.mk ((dQ:w.heap.size≤pR));clear HB;have HB:=bL;have mY:=bS;have ZW:=cG;have Ud:=dA;clear bL bS cG dA;clear hb cY hg;have wW:w4.cell? ⟨pR,0,none⟩=some (.string aI):=(af mY.out 0).trans rfl;have wX:w4.cell? ⟨pR,1,none⟩=some (.string aZ):=(af mY.out 1).trans rfl;have zy:w4.cell? ⟨pR,2,none⟩=some (.bool true):=(af mY.out 2).trans rfl;have wY:=aa mY.out 0;have wZ:=aa mY.out 1;have zz:=aa mY.out 2))
   go_ret
   exact ⟨cO,EC⟩
  ·replace c3:=Bool.eq_false_iff.mpr c3
   subst c3
   have H1:((eK.f k aZ).bind fun t204=>(some t204))=some r:=by rw [if_neg (show ¬ (false=true) by decide)] at H;exact H
   clear H
   have H:=H1
   clear H1
   replace H:=Option.bind_eq_some_iff.mp H
   obtain ⟨t204,wK,H⟩:=H
   replace H:(some t204)=some r:=H
   have A6:=ah.mk wK
   clear wK
   obtain rfl:=Option.some.inj H
   go_enter Tryz.func58,Tryz.ntmps58
   go_wp2_with (first|((with_reducible refine cQ (N:=1) rfl ?_);refine cE ?hg (N:=1) ?hd (cs:=#[.string aI,.string aZ,.bool false]) (t:=30) ?hr ?_;(case hd=>rfl);(case hg=>rfl);(case hr=>first|(go_simp;done)|(go_simp;rfl));intro pR hg w7 cY hb;have bL:=ah.mk (aC cw hb);have bS:=ah.mk (cY);have cG:=ah.mk ((dQ:w.heap.size≤pR));have dA:=ah.mk ((dQ:w.heap.size≤pR));clear HB;have HB:=bL;have mY:=bS;have ZW:=cG;have Ud:=dA;clear bL bS cG dA;clear hb cY hg;have wL:w7.cell? ⟨pR,0,none⟩=some (.string aI):=(af mY.out 0).trans rfl;have wM:w7.cell? ⟨pR,1,none⟩=some (.string aZ):=(af mY.out 1).trans rfl;have BV:w7.cell? ⟨pR,2,none⟩=some (.bool false):=(af mY.out 2).trans rfl;have wN:=aa mY.out 0;have wO:=aa mY.out 1;have BW:=aa mY.out 2)|(go_at_call 61;(with_reducible refine (eK.calls k aZ t204 _ ?aW A6.out).mono ?_);(case aW=>exact aQ.below HG.out EC);rintro e w9 ⟨rfl,hb⟩;have bL:=ah.mk (aX (g:=pR) (o:= .cells #[.string aI,.string aZ,.bool false] 30 (0,0)) (by (with_reducible repeat (first|refine bF ?_ _|refine bN ?_|refine bB ?_ _));exact mY.out) hb);have bS:=ah.mk (aC EC hb);clear mY;clear HB;have mY:=bL;have HB:=bS;clear bL bS;(try clear hb);(try clear hb2);(try clear hk);(try clear hi)))
   go_ret
   exact ⟨cO,EC⟩
 ·rw [if_neg c2] at H
  have BR:decide ((aI.size:Int)≤64)=false:=decide_eq_false c2
  have N9:decide (aI.size≤64)=false:=decide_eq_false aq
  clear c2
  obtain rfl:=Option.some.inj H
  go_enter Tryz.func58,Tryz.ntmps58
  go_wp2_with (first|((with_reducible refine cQ (N:=1) rfl ?_);refine cE ?hg (N:=1) ?hd (cs:=#[.string aI,.string aZ,.bool bp]) (t:=30) ?hr ?_;(case hd=>rfl);(case hg=>rfl);(case hr=>first|(go_simp;done)|(go_simp;rfl));intro pR hg sw cY hb;have bL:=ah.mk (aC cw hb);have bS:=ah.mk (cY);have cG:=ah.mk ((dQ:w.heap.size≤pR));have dA:=ah.mk ((dQ:w.heap.size≤pR));clear HB;have HB:=bL;have mY:=bS;have ZW:=cG;have Ud:=dA;clear bL bS cG dA;clear hb cY hg;have sS:sw.cell? ⟨pR,0,none⟩=some (.string aI):=(af mY.out 0).trans rfl;have sU:sw.cell? ⟨pR,1,none⟩=some (.string aZ):=(af mY.out 1).trans rfl;have sV:sw.cell? ⟨pR,2,none⟩=some (.bool bp):=(af mY.out 2).trans rfl;have sW:=aa mY.out 0;have sX:=aa mY.out 1;have sY:=aa mY.out 2))
  go_ret
  exact ⟨cO,EC⟩
def fQ.f (k:Nat) (a0:ByteArray):Option (Bool):=(eK.f k a0).bind fun t205=>(some (!t205))
theorem fQ.mono:∀ a0 k,cH (fQ.f k a0) (fQ.f (k + 1) a0):=by
 intro a0 k
 unfold fQ.f
 repeat' first
  |(with_reducible exact eK.mono _ _)
  |(with_reducible exact cH.refl _)
  |(with_reducible exact cH.none _)
  |(with_reducible refine cH.ite ?_ ?_)
  |(with_reducible refine cH.bind ?_ (fun _ =>?_))
  |refine cH.ite ?_ ?_
  |refine cH.bind ?_ (fun _ =>?_)
theorem fQ.calls (k:Nat) (a0:ByteArray) (r:Bool) (w:World) (hG:aQ w) (h:fQ.f k a0=some r):
 Calls Tryz.prog 60 #[.string a0] w fun e w'=>e= .returned (.bool r)∧Below w.heap.size w w':=by
 have HB:=ah.mk (Below.refl w.heap.size w)
 have HG:=ah.mk hG
 clear hG
 have H:((eK.f k a0).bind fun t205=>(some (!t205)))=some r:=h
 clear h
 replace H:=Option.bind_eq_some_iff.mp H
 obtain ⟨t205,nr,H⟩:=H
 replace H:(some (!t205))=some r:=H
 have A2:=ah.mk nr
 clear nr
 obtain rfl:=Option.some.inj H
 go_enter Tryz.func60,Tryz.ntmps60
 go_wp2_with (first|((with_reducible refine aU (f:=61) rfl ?_);refine cB (some 4) rfl rfl Tryz.func61 av rfl #[.string a0] rfl cX ?_;(with_reducible refine (eK.calls k a0 t205 _ ?aW A2.out).mono ?_);(case aW=>exact aQ.below HG.out cw);rintro e w3 ⟨rfl,hb⟩;refine ⟨_,rfl,?_⟩;have bL:=ah.mk (aC cw hb);clear HB;have HB:=bL;clear bL;(try clear hb);(try clear hb2);(try clear hk);(try clear hi)))
 go_ret
 exact ⟨cO,cw⟩
def aD.l0:Nat→List ByteArray→Int→Int→Option (Int)
 | 0,_,_,_ =>none
 |k + 1,x0,x7,x8=>if x8 < x7 then (if 0≤x8 then (if x8 < (x0.length:Int) then ((fQ.f k (jZ ByteArray.empty x0 x8)).bind fun t207=>(if t207=true then (some x8) else (aD.l0 k x0 x7 (wrap64 (x8 + 1))))) else (none)) else (none)) else (some (-1))
def aD.f (k:Nat) (l0:List ByteArray):Option (Int):=aD.l0 k l0 (l0.length:Int) 0
theorem aD.fJ:∀ k,(∀ y0 y1 y2,cH (aD.l0 k y0 y1 y2) (aD.l0 (k + 1) y0 y1 y2))
 | 0=>fun _ _ _ r h=>by simp [aD.l0] at h
 |k + 1=>by
  have nP:=aD.fJ k
  ·intro y0 y1 y2
   unfold aD.l0
   repeat' first
   |(with_reducible exact nP _ _ _)
   |(with_reducible exact fQ.mono _ _)
   |(with_reducible exact cH.refl _)
   |(with_reducible exact cH.none _)
   |(with_reducible refine cH.ite ?_ ?_)
   |(with_reducible refine cH.bind ?_ (fun _ =>?_))
   |refine cH.ite ?_ ?_
   |refine cH.bind ?_ (fun _ =>?_)
theorem aD.mono:∀ a0 k,cH (aD.f k a0) (aD.f (k + 1) a0):=by
 intro a0 k
 have nP:=aD.fJ k
 unfold aD.f
 repeat' first
  |(with_reducible exact nP _ _ _)
  |(with_reducible exact fQ.mono _ _)
  |(with_reducible exact cH.refl _)
  |(with_reducible exact cH.none _)
  |(with_reducible refine cH.ite ?_ ?_)
  |(with_reducible refine cH.bind ?_ (fun _ =>?_))
  |refine cH.ite ?_ ?_
  |refine cH.bind ?_ (fun _ =>?_)
theorem aD.calls (k:Nat) (A0:Option Addr) (c0:Nat) (l0:List ByteArray) (r:Int) (w:World) (zm:Kd.C Kd.string w A0 l0.length l0) (hc0:l0.length≤c0) (hG:aQ w) (h:aD.f k l0=some r):
 Calls Tryz.prog 117 #[.slice A0 l0.length c0,.func (.func 60) #[] #[]] w fun e w'=>e= .returned (.int .i64 r)∧Below w.heap.size w w':=by
 have xG:=ah.mk zm
 have Qf:=ah.mk hc0
 clear zm hc0
 have HB:=ah.mk (Below.refl w.heap.size w)
 have HG:=ah.mk hG
 clear hG
 have H:(aD.l0 k l0 (l0.length:Int) 0)=some r:=h
 clear h
 have H':=ah.mk H
 clear H
 go_enter Tryz.func117,Tryz.ntmps117
 go_wp2
 go_loopg [8] k (fun kq v8 w'=>∃ (eJ:Int),v8= .int .i64 eJ∧ah (aD.l0 kq l0 (l0.length:Int) eJ=some r)∧ah (kq≤k)∧ah (Below w.heap.size w w'))
 case atStart=>exact ⟨(0),dG,H',⟨Nat.le_refl _⟩,⟨cw⟩⟩
 case round=>
  clear H'
  try clear c1
  try clear p2
  obtain ⟨eJ,rfl,HA,uz,HB⟩:=hrel
  cases gk with
  |zero=>exact absurd HA.out (by simp [aD.l0])
  |succ k1=>
   have H:=HA.out
   clear HA
   simp only [aD.l0] at H
   by_cases c3:eJ < (l0.length:Int)
   ·rw [if_pos c3] at H
    have pW:decide (eJ < (l0.length:Int))=true:=decide_eq_true c3
    clear c3
    by_cases c4: 0≤eJ
    ·rw [if_pos c4] at H
     have oC:decide (0≤eJ)=true:=decide_eq_true c4
     clear c4
     by_cases c5:eJ < (l0.length:Int)
     ·rw [if_pos c5] at H
      have tR:decide (eJ < (l0.length:Int))=true:=decide_eq_true c5
      clear c5
      replace H:=Option.bind_eq_some_iff.mp H
      obtain ⟨t207,wK,H⟩:=H
      replace H:(if t207=true then (some eJ) else (aD.l0 k1 l0 (l0.length:Int) (wrap64 (eJ + 1))))=some r:=H
      have A6:=ah.mk wK
      clear wK
      by_cases c7:t207=true
      ·subst c7
       have H1:(some eJ)=some r:=by rw [if_pos rfl] at H;exact H
       clear H
       have H:=H1
       clear H1
       obtain rfl:=Option.some.inj H
       have OB: 0≤(eJ:Int):=of_decide_eq_true cL
       have OC:eJ < (l0.length:Int):=of_decide_eq_true cL
       obtain ⟨ady,aaU,vK⟩:=Kd.jk xG.out eJ OB OC
       cases aaU
       replace vK:=(HB.out.cell (World.block_lt_of_cell? w _ vK)).trans vK
       replace OB:=eq_true OB
       replace OC:=eq_true OC
       go_wp2_with (first|(go_at_call 60;(with_reducible refine (fQ.calls k1 (jZ ByteArray.empty l0 eJ) true _ ?aW A6.out).mono ?_);(case aW=>exact aQ.below HG.out cw);rintro e w8 ⟨rfl,hb⟩;have bL:=ah.mk (aC cw hb);clear HB;have HB:=bL;clear bL;(try clear hb);(try clear hb2);(try clear hk);(try clear hi)))
       go_ret
       exact ⟨cO,cw⟩
      ·replace c7:=Bool.eq_false_iff.mpr c7
       subst c7
       have H1:(aD.l0 k1 l0 (l0.length:Int) (wrap64 (eJ + 1)))=some r:=by rw [if_neg (show ¬ (false=true) by decide)] at H;exact H
       clear H
       have H:=H1
       clear H1
       have H':=ah.mk H
       clear H
       have OB: 0≤(eJ:Int):=of_decide_eq_true cL
       have OC:eJ < (l0.length:Int):=of_decide_eq_true cL
       obtain ⟨ady,aaU,vK⟩:=Kd.jk xG.out eJ OB OC
       cases aaU
       replace vK:=(HB.out.cell (World.block_lt_of_cell? w _ vK)).trans vK
       replace OB:=eq_true OB
       replace OC:=eq_true OC
       go_wp2_with (first|(go_at_call 60;(with_reducible refine (fQ.calls k1 (jZ ByteArray.empty l0 eJ) false _ ?aW A6.out).mono ?_);(case aW=>exact aQ.below HG.out cw);rintro e w9 ⟨rfl,hb⟩;have bL:=ah.mk (aC cw hb);clear HB;have HB:=bL;clear bL;(try clear hb);(try clear hb2);(try clear hk);(try clear hi)))
       go_roundg k1
       case measure=>have:=uz.out;omega
       case rel=>exact ⟨(wrap64 (eJ + 1)),dG,H',⟨kX⟩,⟨cw⟩⟩
     ·rw [if_neg c5] at H
      exact absurd H aV
    ·rw [if_neg c4] at H
     exact absurd H aV
   ·rw [if_neg c3] at H
    have pW:decide (eJ < (l0.length:Int))=false:=decide_eq_false c3
    clear c3
    obtain rfl:=Option.some.inj H
    go_wp2
    go_ret
    exact ⟨cO,cw⟩
def bu.f (k:Nat) (l0:List ByteArray):Option (Bool):=(aD.f k l0).bind fun t208=>(some (decide (t208≥0)))
theorem bu.mono:∀ a0 k,cH (bu.f k a0) (bu.f (k + 1) a0):=by
 intro a0 k
 unfold bu.f
 repeat' first
  |(with_reducible exact aD.mono _ _)
  |(with_reducible exact cH.refl _)
  |(with_reducible exact cH.none _)
  |(with_reducible refine cH.ite ?_ ?_)
  |(with_reducible refine cH.bind ?_ (fun _ =>?_))
  |refine cH.ite ?_ ?_
  |refine cH.bind ?_ (fun _ =>?_)
theorem bu.calls (k:Nat) (A0:Option Addr) (c0:Nat) (l0:List ByteArray) (r:Bool) (w:World) (zm:Kd.C Kd.string w A0 l0.length l0) (hc0:l0.length≤c0) (hG:aQ w) (h:bu.f k l0=some r):
 Calls Tryz.prog 59 #[.slice A0 l0.length c0,.func (.func 60) #[] #[]] w fun e w'=>e= .returned (.bool r)∧Below w.heap.size w w':=by
 have xG:=ah.mk zm
 have Qf:=ah.mk hc0
 clear zm hc0
 have HB:=ah.mk (Below.refl w.heap.size w)
 have HG:=ah.mk hG
 clear hG
 have H:((aD.f k l0).bind fun t208=>(some (decide (t208≥0))))=some r:=h
 clear h
 replace H:=Option.bind_eq_some_iff.mp H
 obtain ⟨t208,zf,H⟩:=H
 replace H:(some (decide (t208≥0)))=some r:=H
 have A3:=ah.mk zf
 clear zf
 obtain rfl:=Option.some.inj H
 go_enter Tryz.func59,Tryz.ntmps59
 go_wp2_with (first|((with_reducible refine aU (f:=117) rfl ?_);refine cB (some 7) rfl rfl Tryz.func117 av rfl #[.slice A0 l0.length c0,.func (.func 60) #[] #[]] rfl cX ?_;(with_reducible refine (aD.calls k _ _ l0 t208 _ ?aW ?bY ?eO A3.out).mono ?_);(case aW=>repeat (first|exact xG.out|(with_reducible refine Kd.dZ ?_ _)|(with_reducible refine Kd.eo ?_ _)|(with_reducible refine Kd.eZ ?_)));(case bY=>exact Qf.out);(case eO=>exact aQ.below HG.out cw);rintro e w4 ⟨rfl,hb⟩;refine ⟨_,rfl,?_⟩;have bL:=ah.mk (aC cw hb);clear HB;have HB:=bL;clear bL;(try clear hb);(try clear hb2);(try clear hk);(try clear hi)))
 go_ret
 exact ⟨cO,cw⟩
end Go.Proofs.YtokpnfljjjjikaaGreatDoor.nK
