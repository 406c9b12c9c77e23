import Derived.Test.YtokpnfljjjjikaaGreatDoorZo
import Derived.Test.YtokpnfljjjjikaaGreatDoorQCbx0
import Derived.Test.YtokpnfljjjjikaaGreatDoorQCbx3
import Derived.Test.YtokpnfljjjjikaaGreatDoorQCbx4
import Derived.Test.YtokpnfljjjjikaaGreatDoorQCbx5
import Derived.Test.YtokpnfljjjjikaaGreatDoorQCbx7
import Derived.Test.YtokpnfljjjjikaaGreatDoorESmall
namespace Go.Proofs.YtokpnfljjjjikaaGreatDoor.nX
open Go.RowKit Go.Proofs.aj.bW Go.Proofs.aj.fW Go.Proofs.aj.dz
attribute [local go_sem] jg jh kO kP iK iL ji jk
set_option linter.unusedVariables false
set_option linter.unusedSimpArgs false
def cA.j0:Nat→ByteArray→Bool→ByteArray→Int→Option (ByteArray×ByteArray×Bool×Bool×ByteArray×Int)
 | 0,_,_,_,_ =>none
 |k + 1,x4,x20,gZ,fS=>if x20=true then (some ((⟨#[]⟩:ByteArray),(⟨#[]⟩:ByteArray),false,false,gZ,fS)) else ((br.f gZ fS 91).bind fun xe=>(if xe.1=true then ((aQ.f k xe.2.1 xe.2.2).bind fun pS=>((cC.f pS.1).bind fun t194=>((br.f pS.2.2.1 pS.2.2.2 93).bind fun ku=>(if ku.1=true then ((bZ.f k pS.1).bind fun t198=>(some (x4,t194,true,t198,ku.2.1,ku.2.2))) else (some (x4,t194,true,false,ku.2.1,ku.2.2)))))) else ((ck.f k xe.2.1 xe.2.2).bind fun pT=>(some (x4,pT.1,false,pT.2.1,pT.2.2.1,pT.2.2.2)))))
def cA.f (k:Nat) (eY:ByteArray) (cW:Int):Option (ByteArray×ByteArray×Bool×Bool×ByteArray×Int):=(cm.f k eY cW).bind fun sA=>(if sA.2.1=true then ((br.f sA.2.2.1 sA.2.2.2 64).bind fun sB=>(cA.j0 k sA.1 (!sB.1) sB.2.1 sB.2.2)) else (cA.j0 k sA.1 true sA.2.2.1 sA.2.2.2))
theorem cA.fR:∀ k,(∀ y0 y1 y2 y3,cR (cA.j0 k y0 y1 y2 y3) (cA.j0 (k + 1) y0 y1 y2 y3))
 | 0=>fun _ _ _ _ r h=>by simp [cA.j0] at h
 |k + 1=>by
  have nY:=cA.fR k
  ·intro y0 y1 y2 y3
   unfold cA.j0
   repeat' first
   |(with_reducible exact nY _ _ _ _)
   |(with_reducible exact bZ.mono _ _)
   |(with_reducible exact ck.mono _ _ _)
   |(with_reducible exact cm.mono _ _ _)
   |(with_reducible exact aQ.mono _ _ _)
   |(with_reducible exact cR.refl _)
   |(with_reducible exact cR.none _)
   |(with_reducible refine cR.ite ?_ ?_)
   |(with_reducible refine cR.bind ?_ (fun _ =>?_))
   |refine cR.ite ?_ ?_
   |refine cR.bind ?_ (fun _ =>?_)
theorem cA.mono:∀ a0 a1 k,cR (cA.f k a0 a1) (cA.f (k + 1) a0 a1):=by
 intro a0 a1 k
 have nY:=cA.fR k
 unfold cA.f
 repeat' first
  |(with_reducible exact nY _ _ _ _)
  |(with_reducible exact bZ.mono _ _)
  |(with_reducible exact ck.mono _ _ _)
  |(with_reducible exact cm.mono _ _ _)
  |(with_reducible exact aQ.mono _ _ _)
  |(with_reducible exact cR.refl _)
  |(with_reducible exact cR.none _)
  |(with_reducible refine cR.ite ?_ ?_)
  |(with_reducible refine cR.bind ?_ (fun _ =>?_))
  |refine cR.ite ?_ ?_
  |refine cR.bind ?_ (fun _ =>?_)
set_option maxHeartbeats 8000000 in
set_option maxRecDepth 100000 in
theorem cA.calls (k:Nat) (g:Nat) (eY:ByteArray) (cW:Int) (r1:ByteArray) (r2:ByteArray) (r3:Bool) (r4:Bool) (r5:ByteArray) (r6:Int) (w0 w:World) (hI:av w0 w g eY cW) (hB:Below w0.heap.size w0 w) (hG:aT w0) (h:cA.f k eY cW=some (r1,r2,r3,r4,r5,r6)):
 Calls Tryz.prog 71 #[.pointer (some ⟨g,0,none⟩)] w fun e w'=>e= .returned (.tuple #[.agg #[.string r1,.string r2,.bool r3],.bool r4])∧av w0 w' g r5 r6∧Below w0.heap.size w0 w'∧bA w w' g none:=by
 have LI:=Tryz.underlying30
 have dO:=ah.mk hI
 have HK:=ah.mk (bA.refl w g none)
 have HL:=ah.mk hB.size
 clear hI
 have TW:=ah.mk hB.size
 have HB:=ah.mk hB
 clear hB
 have HG:=ah.mk hG
 clear hG
 have H:((cm.f k eY cW).bind fun sA=>(if sA.2.1=true then ((br.f sA.2.2.1 sA.2.2.2 64).bind fun sB=>(cA.j0 k sA.1 (!sB.1) sB.2.1 sB.2.2)) else (cA.j0 k sA.1 true sA.2.2.1 sA.2.2.2)))=some (r1,r2,r3,r4,r5,r6):=h
 clear h
 replace H:=Option.bind_eq_some_iff.mp H
 obtain ⟨⟨t180,t181,t182,t183⟩,nK,H⟩:=H
 replace H:(if t181=true then ((br.f t182 t183 64).bind fun sB=>(cA.j0 k t180 (!sB.1) sB.2.1 sB.2.2)) else (cA.j0 k t180 true t182 t183))=some (r1,r2,r3,r4,r5,r6):=H
 have A2:=ah.mk nK
 clear nK
 have UX:=ah.mk H
 clear H
 go_enter Tryz.func71,Tryz.ntmps71
 go_upto_region 2 with (first|((with_reducible refine cG (N:=2) rfl ?_);refine cj ?hg (N:=2) ?hd (cs:=#[.string (⟨#[]⟩:ByteArray),.string (⟨#[]⟩:ByteArray),.bool false]) (t:=30) ?hr ?_;(case hd=>rfl);(case hg=>rfl);(case hr=>first|(go_simp;done)|(go_simp;rfl));intro kA hg w4 cJ hb;have bD:=ah.mk (av.below iy hb);have bN:=ah.mk (bA.trans eH (bA.of_below hb g none) (.inl rfl));have cz:=ah.mk (ay iw hb);have cY:=ah.mk (cJ);have jv:=ah.mk ((PI:w.heap.size≤kA));have om:=ah.mk ((Nat.le_trans TW.out (PI:w.heap.size≤kA):w0.heap.size≤kA));have oZ:=ah.mk ((by rw [hg];exact Nat.ne_of_lt (av.lt (show av w0 _ g eY cW from by repeat (first|(with_reducible first|exact dO.out|apply av.alloc|apply av.drewN|apply av.drew|apply av.fQ|apply av.fM)|exact dO.out))):g≠kA));have xg:=ah.mk ((by rw [hg];exact Nat.ne_of_gt (av.lt (show av w0 _ g eY cW from by repeat (first|(with_reducible first|exact dO.out|apply av.alloc|apply av.drewN|apply av.drew|apply av.fQ|apply av.fM)|exact dO.out))):kA≠g));clear dO;clear HK;clear HB;have dO:=bD;have HK:=bN;have HB:=cz;have gF:=cY;have adI:=jv;have wG:=om;have l7:=oZ;have nu:=xg;clear bD bN cz cY jv om oZ xg;clear hb cJ hg)|((with_reducible refine aN (f:=123) rfl ?_);refine cr (some 11) rfl rfl Tryz.func123 au rfl #[.pointer (some ⟨g,0,none⟩)] rfl cV ?_;(with_reducible refine (cm.calls k g eY cW t180 t181 t182 t183 w0 _ ?aX ?bS A2.out).mono ?_);(case aX=>repeat (first|(with_reducible first|exact dO.out|apply av.alloc|apply av.drewN|apply av.drew|apply av.fQ|apply av.fM|refine av.far ?_ l7.out _)|exact dO.out));(case bS=>repeat (first|(with_reducible first|exact HB.out|apply az|apply aB|apply bu|refine bp ?_ (av.ge dO.out)|refine bp ?_ wG.out)|exact HB.out));rintro e w5 ⟨rfl,hi,hb,hk⟩;refine ⟨_,rfl,?_⟩;have bD:=ah.mk (bA.blk hk (g':=kA) (o:= .cells #[.string (⟨#[]⟩:ByteArray),.string (⟨#[]⟩:ByteArray),.bool false] 30 (0,0)) oK nu.out bn);have bN:=ah.mk (bA.trans l5 hk (.inl rfl));have cz:=ah.mk (hb);have cY:=ah.mk (hi);clear gF;clear HK;clear HB;clear dO;have gF:=bD;have HK:=bN;have HB:=cz;have dO:=cY;clear bD bN cz cY;(try clear hb);(try clear hb2);(try clear hk);(try clear hi)))
 (try simp only [Act.put,List.setIfInBounds_toArray,List.set_cons_zero,List.set_cons_succ])
 go_cut [20] (fun v20 wc=>∃ (kq:Nat) (Ro:Bool) (tJ:ByteArray) (tK:Int),v20= .bool Ro∧ah (cA.j0 kq t180 Ro tJ tK=some (r1,r2,r3,r4,r5,r6))∧ah (kq≤k)∧ah (wc.heap[kA]? =some (.cells #[.string (⟨#[]⟩:ByteArray),.string (⟨#[]⟩:ByteArray),.bool false] 30 (0,0)))∧ah (av w0 wc g tJ tK)∧ah (bA w wc g none)∧ah (Below w0.heap.size w0 wc))
 case first=>
  have H:=UX.out
  clear UX
  by_cases c6:t181=true
  ·subst c6
   have H1:((br.f t182 t183 64).bind fun sB=>(cA.j0 k t180 (!sB.1) sB.2.1 sB.2.2))=some (r1,r2,r3,r4,r5,r6):=by rw [if_pos rfl] at H;exact H
   clear H
   have H:=H1
   clear H1
   replace H:=Option.bind_eq_some_iff.mp H
   obtain ⟨⟨t184,t185,t186⟩,GW,H⟩:=H
   replace H:(cA.j0 k t180 (!t184) t185 t186)=some (r1,r2,r3,r4,r5,r6):=H
   have A7:=ah.mk GW
   clear GW
   have H':=ah.mk H
   clear H
   go_wp2_with (first|(go_at_call 56;(with_reducible refine (br.calls g t182 t183 64 t184 t185 t186 w0 _ ?aX ?bS A7.out).mono ?_);(case aX=>repeat (first|(with_reducible first|exact dO.out|apply av.alloc|apply av.drewN|apply av.drew|apply av.fQ|apply av.fM|refine av.far ?_ l7.out _)|exact dO.out));(case bS=>repeat (first|(with_reducible first|exact HB.out|apply az|apply aB|apply bu|refine bp ?_ (av.ge dO.out)|refine bp ?_ wG.out)|exact HB.out));rintro e w8 ⟨rfl,hi,hb,hk⟩;have bD:=ah.mk (bA.blk hk (g':=kA) (o:= .cells #[.string (⟨#[]⟩:ByteArray),.string (⟨#[]⟩:ByteArray),.bool false] 30 (0,0)) oK nu.out bn);have bN:=ah.mk (bA.trans l5 hk (.inl rfl));have cz:=ah.mk (hb);have cY:=ah.mk (hi);clear gF;clear HK;clear HB;clear dO;have gF:=bD;have HK:=bN;have HB:=cz;have dO:=cY;clear bD bN cz cY;(try clear hb);(try clear hb2);(try clear hk);(try clear hi)))
   go_meet
   case rel=>exact ⟨_,(!t184),(t185),(t186),ey,H',⟨nU⟩,⟨oK⟩,⟨ux⟩,⟨l5⟩,⟨tO⟩⟩
  ·replace c6:=Bool.eq_false_iff.mpr c6
   subst c6
   have H1:(cA.j0 k t180 true t182 t183)=some (r1,r2,r3,r4,r5,r6):=by rw [if_neg (show ¬ (false=true) by decide)] at H;exact H
   clear H
   have H:=H1
   clear H1
   have H':=ah.mk H
   clear H
   go_wp2
   go_meet
   case rel=>exact ⟨_,(true),(t182),(t183),ey,H',⟨nU⟩,⟨oK⟩,⟨ux⟩,⟨l5⟩,⟨tO⟩⟩
 case rest=>
  clear UX
  try clear c1
  try clear p2
  try clear c6
  try clear c7
  obtain ⟨kq,Ro,tJ,tK,rfl,HA,HJ2,gF,dO,HK,HB⟩:=hcut
  cases kq with
  |zero=>exact absurd HA.out (by simp [cA.j0])
  |succ C6=>
   have H:=HA.out
   clear HA
   simp only [cA.j0] at H
   by_cases c9:Ro=true
   ·subst c9
    have H1:(some ((⟨#[]⟩:ByteArray),(⟨#[]⟩:ByteArray),false,false,tJ,tK))=some (r1,r2,r3,r4,r5,r6):=by rw [if_pos rfl] at H;exact H
    clear H
    have H:=H1
    clear H1
    simp only [Option.some.injEq,Prod.mk.injEq] at H
    obtain ⟨rfl,rfl,rfl,rfl,rfl,rfl⟩:=H
    have aec:=nu.out
    have aed:=l7.out
    have sX:wc.cell? ⟨kA,0,none⟩=some (.string (⟨#[]⟩:ByteArray)):=(af gF.out 0).trans rfl
    have sY:wc.cell? ⟨kA,1,none⟩=some (.string (⟨#[]⟩:ByteArray)):=(af gF.out 1).trans rfl
    have sZ:wc.cell? ⟨kA,2,none⟩=some (.bool false):=(af gF.out 2).trans rfl
    have s7:=aa gF.out 0
    have s8:=aa gF.out 1
    have s9:=aa gF.out 2
    go_wp2
    refine bodyPost_ret (dA rfl _ _ kA 30 #[.string (⟨#[]⟩:ByteArray),.string (⟨#[]⟩:ByteArray),.bool false] (0,0) _ rfl (by (with_reducible repeat (first|refine aM ?_ _|refine bh ?_|refine aU ?_ _));refine cv (cs:=#[.string (⟨#[]⟩:ByteArray),.string (⟨#[]⟩:ByteArray),.bool false]) ?_ 2 _ rfl;(with_reducible repeat (first|refine aM ?_ _|refine bh ?_|refine aU ?_ _));refine cv (cs:=#[.string (⟨#[]⟩:ByteArray),.string (⟨#[]⟩:ByteArray),.bool false]) ?_ 1 _ rfl;(with_reducible repeat (first|refine aM ?_ _|refine bh ?_|refine aU ?_ _));refine cv (cs:=#[.string (⟨#[]⟩:ByteArray),.string (⟨#[]⟩:ByteArray),.bool false]) ?_ 0 _ rfl;(with_reducible repeat (first|refine aM ?_ _|refine bh ?_|refine aU ?_ _));exact gF.out) Tryz.underlying30 rfl au) rfl ?_
    exact ⟨cZ,ux,tO,l5⟩
   ·replace c9:=Bool.eq_false_iff.mpr c9
    subst c9
    have H1:((br.f tJ tK 91).bind fun xe=>(if xe.1=true then ((aQ.f C6 xe.2.1 xe.2.2).bind fun pS=>((cC.f pS.1).bind fun t194=>((br.f pS.2.2.1 pS.2.2.2 93).bind fun ku=>(if ku.1=true then ((bZ.f C6 pS.1).bind fun t198=>(some (t180,t194,true,t198,ku.2.1,ku.2.2))) else (some (t180,t194,true,false,ku.2.1,ku.2.2)))))) else ((ck.f C6 xe.2.1 xe.2.2).bind fun pT=>(some (t180,pT.1,false,pT.2.1,pT.2.2.1,pT.2.2.2)))))=some (r1,r2,r3,r4,r5,r6):=by rw [if_neg (show ¬ (false=true) by decide)] at H;exact H
    clear H
    have H:=H1
    clear H1
    replace H:=Option.bind_eq_some_iff.mp H
    obtain ⟨⟨t187,t188,t189⟩,zW,H⟩:=H
    replace H:(if t187=true then ((aQ.f C6 t188 t189).bind fun pS=>((cC.f pS.1).bind fun t194=>((br.f pS.2.2.1 pS.2.2.2 93).bind fun ku=>(if ku.1=true then ((bZ.f C6 pS.1).bind fun t198=>(some (t180,t194,true,t198,ku.2.1,ku.2.2))) else (some (t180,t194,true,false,ku.2.1,ku.2.2)))))) else ((ck.f C6 t188 t189).bind fun pT=>(some (t180,pT.1,false,pT.2.1,pT.2.2.1,pT.2.2.2))))=some (r1,r2,r3,r4,r5,r6):=H
    have Gp:=ah.mk zW
    clear zW
    by_cases c13:t187=true
    ·subst c13
     have H1:((aQ.f C6 t188 t189).bind fun pS=>((cC.f pS.1).bind fun t194=>((br.f pS.2.2.1 pS.2.2.2 93).bind fun ku=>(if ku.1=true then ((bZ.f C6 pS.1).bind fun t198=>(some (t180,t194,true,t198,ku.2.1,ku.2.2))) else (some (t180,t194,true,false,ku.2.1,ku.2.2))))))=some (r1,r2,r3,r4,r5,r6):=by rw [if_pos rfl] at H;exact H
     clear H
     have H:=H1
     clear H1
     replace H:=Option.bind_eq_some_iff.mp H
     obtain ⟨⟨t190,t191,t192,t193⟩,wS,H⟩:=H
     replace H:((cC.f t190).bind fun t194=>((br.f t192 t193 93).bind fun ku=>(if ku.1=true then ((bZ.f C6 t190).bind fun t198=>(some (t180,t194,true,t198,ku.2.1,ku.2.2))) else (some (t180,t194,true,false,ku.2.1,ku.2.2)))))=some (r1,r2,r3,r4,r5,r6):=H
     have SZ:=ah.mk wS
     clear wS
     replace H:=Option.bind_eq_some_iff.mp H
     obtain ⟨t194,Vi,H⟩:=H
     replace H:((br.f t192 t193 93).bind fun ku=>(if ku.1=true then ((bZ.f C6 t190).bind fun t198=>(some (t180,t194,true,t198,ku.2.1,ku.2.2))) else (some (t180,t194,true,false,ku.2.1,ku.2.2))))=some (r1,r2,r3,r4,r5,r6):=H
     have A15:=ah.mk Vi
     clear Vi
     replace H:=Option.bind_eq_some_iff.mp H
     obtain ⟨⟨t195,t196,t197⟩,Mk,H⟩:=H
     replace H:(if t195=true then ((bZ.f C6 t190).bind fun t198=>(some (t180,t194,true,t198,t196,t197))) else (some (t180,t194,true,false,t196,t197)))=some (r1,r2,r3,r4,r5,r6):=H
     have A16:=ah.mk Mk
     clear Mk
     by_cases c17:t195=true
     ·subst c17
      have H1:((bZ.f C6 t190).bind fun t198=>(some (t180,t194,true,t198,t196,t197)))=some (r1,r2,r3,r4,r5,r6):=by rw [if_pos rfl] at H;exact H
      clear H
      have H:=H1
      clear H1
      replace H:=Option.bind_eq_some_iff.mp H
      obtain ⟨t198,Vj,H⟩:=H
      replace H:(some (t180,t194,true,t198,t196,t197))=some (r1,r2,r3,r4,r5,r6):=H
      have A18:=ah.mk Vj
      clear Vj
      simp only [Option.some.injEq,Prod.mk.injEq] at H
      obtain ⟨rfl,rfl,rfl,rfl,rfl,rfl⟩:=H
      go_wp2_with (first|((with_reducible refine aN (f:=56) rfl ?_);refine cr (some 23) rfl rfl Tryz.func56 au rfl #[.pointer (some ⟨g,0,none⟩),.int .u8 91] rfl cV ?_;(with_reducible refine (br.calls g tJ tK 91 true t188 t189 w0 _ ?aX ?bS Gp.out).mono ?_);(case aX=>repeat (first|(with_reducible first|exact dO.out|apply av.alloc|apply av.drewN|apply av.drew|apply av.fQ|apply av.fM|refine av.far ?_ l7.out _)|exact dO.out));(case bS=>repeat (first|(with_reducible first|exact HB.out|apply az|apply aB|apply bu|refine bp ?_ (av.ge dO.out)|refine bp ?_ wG.out)|exact HB.out));rintro e LQ ⟨rfl,hi,hb,hk⟩;refine ⟨_,rfl,?_⟩;have bD:=ah.mk (bA.blk hk (g':=kA) (o:= .cells #[.string (⟨#[]⟩:ByteArray),.string (⟨#[]⟩:ByteArray),.bool false] 30 (0,0)) oK nu.out bn);have bN:=ah.mk (bA.trans l5 hk (.inl rfl));have cz:=ah.mk (hb);have cY:=ah.mk (hi);clear gF;clear HK;clear HB;clear dO;have gF:=bD;have HK:=bN;have HB:=cz;have dO:=cY;clear bD bN cz cY;(try clear hb);(try clear hb2);(try clear hk);(try clear hi))|((with_reducible refine aN (f:=119) rfl ?_);refine cr (some 26) rfl rfl Tryz.func119 au rfl #[.pointer (some ⟨g,0,none⟩),.func (.func 124) #[] #[]] rfl cV ?_;(with_reducible refine (aQ.calls C6 g t188 t189 t190 t191 t192 t193 w0 _ ?aX ?bS SZ.out).mono ?_);(case aX=>repeat (first|(with_reducible first|exact dO.out|apply av.alloc|apply av.drewN|apply av.drew|apply av.fQ|apply av.fM|refine av.far ?_ l7.out _)|exact dO.out));(case bS=>repeat (first|(with_reducible first|exact HB.out|apply az|apply aB|apply bu|refine bp ?_ (av.ge dO.out)|refine bp ?_ wG.out)|exact HB.out));rintro e Nz ⟨rfl,hi,hb,hk⟩;refine ⟨_,rfl,?_⟩;have bD:=ah.mk (bA.blk hk (g':=kA) (o:= .cells #[.string (⟨#[]⟩:ByteArray),.string (⟨#[]⟩:ByteArray),.bool false] 30 (0,0)) oK nu.out bn);have bN:=ah.mk (bA.trans l5 hk (.inl rfl));have cz:=ah.mk (hb);have cY:=ah.mk (hi);clear gF;clear HK;clear HB;clear dO;have gF:=bD;have HK:=bN;have HB:=cz;have dO:=cY;clear bD bN cz cY;(try clear hb);(try clear hb2);(try clear hk);(try clear hi))|((with_reducible refine aN (f:=81) rfl ?_);refine cr (some 31) rfl rfl Tryz.func81 au rfl #[.string t190] rfl cV ?_;(with_reducible refine (cC.calls t190 t194 _ A15.out).mono ?_);rintro e C8 ⟨rfl,hb⟩;refine ⟨_,rfl,?_⟩;have bD:=ah.mk (aJ (g:=kA) (o:= .cells #[.string (⟨#[]⟩:ByteArray),.string (⟨#[]⟩:ByteArray),.bool false] 30 (0,0)) oK hb);have bN:=ah.mk (av.below ux hb);have cz:=ah.mk (bA.trans l5 (bA.of_below hb g none) (.inl rfl));have cY:=ah.mk (ay tO hb);clear gF;clear dO;clear HK;clear HB;have gF:=bD;have dO:=bN;have HK:=cz;have HB:=cY;clear bD bN cz cY;(try clear hb);(try clear hb2);(try clear hk);(try clear hi))|((with_reducible refine aN (f:=56) rfl ?_);refine cr (some 34) rfl rfl Tryz.func56 au rfl #[.pointer (some ⟨g,0,none⟩),.int .u8 93] rfl cV ?_;(with_reducible refine (br.calls g t192 t193 93 true t196 t197 w0 _ ?aX ?bS A16.out).mono ?_);(case aX=>repeat (first|(with_reducible first|exact dO.out|apply av.alloc|apply av.drewN|apply av.drew|apply av.fQ|apply av.fM|refine av.far ?_ l7.out _)|exact dO.out));(case bS=>repeat (first|(with_reducible first|exact HB.out|apply az|apply aB|apply bu|refine bp ?_ (av.ge dO.out)|refine bp ?_ wG.out)|exact HB.out));rintro e Gf ⟨rfl,hi,hb,hk⟩;refine ⟨_,rfl,?_⟩;have bD:=ah.mk (bA.blk hk (g':=kA) (o:= .cells #[.string (⟨#[]⟩:ByteArray),.string (⟨#[]⟩:ByteArray),.bool false] 30 (0,0)) oK nu.out bn);have bN:=ah.mk (bA.trans l5 hk (.inl rfl));have cz:=ah.mk (hb);have cY:=ah.mk (hi);clear gF;clear HK;clear HB;clear dO;have gF:=bD;have HK:=bN;have HB:=cz;have dO:=cY;clear bD bN cz cY;(try clear hb);(try clear hb2);(try clear hk);(try clear hi))|(go_at_call 27;(with_reducible refine (bZ.calls C6 t190 t198 _ ?aX A18.out).mono ?_);(case aX=>exact aT.below HG.out tO);rintro e Mb ⟨rfl,hb⟩;have bD:=ah.mk (aJ (g:=kA) (o:= .cells #[.string (⟨#[]⟩:ByteArray),.string (⟨#[]⟩:ByteArray),.bool false] 30 (0,0)) oK hb);have bN:=ah.mk (av.below ux hb);have cz:=ah.mk (bA.trans l5 (bA.of_below hb g none) (.inl rfl));have cY:=ah.mk (ay tO hb);clear gF;clear dO;clear HK;clear HB;have gF:=bD;have dO:=bN;have HK:=cz;have HB:=cY;clear bD bN cz cY;(try clear hb);(try clear hb2);(try clear hk);(try clear hi);have aeG:=nu.out;have aeH:=l7.out;have tD:Mb.cell? ⟨kA,0,none⟩=some (.string (⟨#[]⟩:ByteArray)):=(af gF.out 0).trans rfl;have tE:Mb.cell? ⟨kA,1,none⟩=some (.string (⟨#[]⟩:ByteArray)):=(af gF.out 1).trans rfl;have tF:Mb.cell? ⟨kA,2,none⟩=some (.bool false):=(af gF.out 2).trans rfl;have tG:=aa gF.out 0;have tH:=aa gF.out 1;have tI:=aa gF.out 2))
      refine bodyPost_ret (dA rfl _ _ kA 30 #[.string t180,.string t194,.bool true] (0,0) _ rfl Us Tryz.underlying30 rfl au) rfl ?_
      exact ⟨cZ,ux,tO,l5⟩
     ·replace c17:=Bool.eq_false_iff.mpr c17
      subst c17
      have H1:(some (t180,t194,true,false,t196,t197))=some (r1,r2,r3,r4,r5,r6):=by rw [if_neg (show ¬ (false=true) by decide)] at H;exact H
      clear H
      have H:=H1
      clear H1
      simp only [Option.some.injEq,Prod.mk.injEq] at H
      obtain ⟨rfl,rfl,rfl,rfl,rfl,rfl⟩:=H
      go_wp2_with (first|((with_reducible refine aN (f:=56) rfl ?_);refine cr (some 23) rfl rfl Tryz.func56 au rfl #[.pointer (some ⟨g,0,none⟩),.int .u8 91] rfl cV ?_;(with_reducible refine (br.calls g tJ tK 91 true t188 t189 w0 _ ?aX ?bS Gp.out).mono ?_);(case aX=>repeat (first|(with_reducible first|exact dO.out|apply av.alloc|apply av.drewN|apply av.drew|apply av.fQ|apply av.fM|refine av.far ?_ l7.out _)|exact dO.out));(case bS=>repeat (first|(with_reducible first|exact HB.out|apply az|apply aB|apply bu|refine bp ?_ (av.ge dO.out)|refine bp ?_ wG.out)|exact HB.out));rintro e zG ⟨rfl,hi,hb,hk⟩;refine ⟨_,rfl,?_⟩;have bD:=ah.mk (bA.blk hk (g':=kA) (o:= .cells #[.string (⟨#[]⟩:ByteArray),.string (⟨#[]⟩:ByteArray),.bool false] 30 (0,0)) oK nu.out bn);have bN:=ah.mk (bA.trans l5 hk (.inl rfl));have cz:=ah.mk (hb);have cY:=ah.mk (hi);clear gF;clear HK;clear HB;clear dO;have gF:=bD;have HK:=bN;have HB:=cz;have dO:=cY;clear bD bN cz cY;(try clear hb);(try clear hb2);(try clear hk);(try clear hi))|((with_reducible refine aN (f:=119) rfl ?_);refine cr (some 26) rfl rfl Tryz.func119 au rfl #[.pointer (some ⟨g,0,none⟩),.func (.func 124) #[] #[]] rfl cV ?_;(with_reducible refine (aQ.calls C6 g t188 t189 t190 t191 t192 t193 w0 _ ?aX ?bS SZ.out).mono ?_);(case aX=>repeat (first|(with_reducible first|exact dO.out|apply av.alloc|apply av.drewN|apply av.drew|apply av.fQ|apply av.fM|refine av.far ?_ l7.out _)|exact dO.out));(case bS=>repeat (first|(with_reducible first|exact HB.out|apply az|apply aB|apply bu|refine bp ?_ (av.ge dO.out)|refine bp ?_ wG.out)|exact HB.out));rintro e JY ⟨rfl,hi,hb,hk⟩;refine ⟨_,rfl,?_⟩;have bD:=ah.mk (bA.blk hk (g':=kA) (o:= .cells #[.string (⟨#[]⟩:ByteArray),.string (⟨#[]⟩:ByteArray),.bool false] 30 (0,0)) oK nu.out bn);have bN:=ah.mk (bA.trans l5 hk (.inl rfl));have cz:=ah.mk (hb);have cY:=ah.mk (hi);clear gF;clear HK;clear HB;clear dO;have gF:=bD;have HK:=bN;have HB:=cz;have dO:=cY;clear bD bN cz cY;(try clear hb);(try clear hb2);(try clear hk);(try clear hi))|((with_reducible refine aN (f:=81) rfl ?_);refine cr (some 31) rfl rfl Tryz.func81 au rfl #[.string t190] rfl cV ?_;(with_reducible refine (cC.calls t190 t194 _ A15.out).mono ?_);rintro e w28 ⟨rfl,hb⟩;refine ⟨_,rfl,?_⟩;have bD:=ah.mk (aJ (g:=kA) (o:= .cells #[.string (⟨#[]⟩:ByteArray),.string (⟨#[]⟩:ByteArray),.bool false] 30 (0,0)) oK hb);have bN:=ah.mk (av.below ux hb);have cz:=ah.mk (bA.trans l5 (bA.of_below hb g none) (.inl rfl));have cY:=ah.mk (ay tO hb);clear gF;clear dO;clear HK;clear HB;have gF:=bD;have dO:=bN;have HK:=cz;have HB:=cY;clear bD bN cz cY;(try clear hb);(try clear hb2);(try clear hk);(try clear hi))|((with_reducible refine aN (f:=56) rfl ?_);refine cr (some 34) rfl rfl Tryz.func56 au rfl #[.pointer (some ⟨g,0,none⟩),.int .u8 93] rfl cV ?_;(with_reducible refine (br.calls g t192 t193 93 false t196 t197 w0 _ ?aX ?bS A16.out).mono ?_);(case aX=>repeat (first|(with_reducible first|exact dO.out|apply av.alloc|apply av.drewN|apply av.drew|apply av.fQ|apply av.fM|refine av.far ?_ l7.out _)|exact dO.out));(case bS=>repeat (first|(with_reducible first|exact HB.out|apply az|apply aB|apply bu|refine bp ?_ (av.ge dO.out)|refine bp ?_ wG.out)|exact HB.out));rintro e X0 ⟨rfl,hi,hb,hk⟩;refine ⟨_,rfl,?_⟩;have bD:=ah.mk (bA.blk hk (g':=kA) (o:= .cells #[.string (⟨#[]⟩:ByteArray),.string (⟨#[]⟩:ByteArray),.bool false] 30 (0,0)) oK nu.out bn);have bN:=ah.mk (bA.trans l5 hk (.inl rfl));have cz:=ah.mk (hb);have cY:=ah.mk (hi);clear gF;clear HK;clear HB;clear dO;have gF:=bD;have HK:=bN;have HB:=cz;have dO:=cY;clear bD bN cz cY;(try clear hb);(try clear hb2);(try clear hk);(try clear hi);have aaM:=nu.out;have aaN:=l7.out;have yD:X0.cell? ⟨kA,0,none⟩=some (.string (⟨#[]⟩:ByteArray)):=(af gF.out 0).trans rfl;have yE:X0.cell? ⟨kA,1,none⟩=some (.string (⟨#[]⟩:ByteArray)):=(af gF.out 1).trans rfl;have AR:X0.cell? ⟨kA,2,none⟩=some (.bool false):=(af gF.out 2).trans rfl;have yF:=aa gF.out 0;have yG:=aa gF.out 1;have AU:=aa gF.out 2))
      refine bodyPost_ret (dA rfl _ _ kA 30 #[.string t180,.string t194,.bool true] (0,0) _ rfl Us Tryz.underlying30 rfl au) rfl ?_
      exact ⟨cZ,ux,tO,l5⟩
    ·replace c13:=Bool.eq_false_iff.mpr c13
     subst c13
     have H1:((ck.f C6 t188 t189).bind fun pT=>(some (t180,pT.1,false,pT.2.1,pT.2.2.1,pT.2.2.2)))=some (r1,r2,r3,r4,r5,r6):=by rw [if_neg (show ¬ (false=true) by decide)] at H;exact H
     clear H
     have H:=H1
     clear H1
     replace H:=Option.bind_eq_some_iff.mp H
     obtain ⟨⟨t199,t200,t201,t202⟩,Vk,H⟩:=H
     replace H:(some (t180,t199,false,t200,t201,t202))=some (r1,r2,r3,r4,r5,r6):=H
     have A32:=ah.mk Vk
     clear Vk
     simp only [Option.some.injEq,Prod.mk.injEq] at H
     obtain ⟨rfl,rfl,rfl,rfl,rfl,rfl⟩:=H
     go_wp2_with (first|((with_reducible refine aN (f:=56) rfl ?_);refine cr (some 23) rfl rfl Tryz.func56 au rfl #[.pointer (some ⟨g,0,none⟩),.int .u8 91] rfl cV ?_;(with_reducible refine (br.calls g tJ tK 91 false t188 t189 w0 _ ?aX ?bS Gp.out).mono ?_);(case aX=>repeat (first|(with_reducible first|exact dO.out|apply av.alloc|apply av.drewN|apply av.drew|apply av.fQ|apply av.fM|refine av.far ?_ l7.out _)|exact dO.out));(case bS=>repeat (first|(with_reducible first|exact HB.out|apply az|apply aB|apply bu|refine bp ?_ (av.ge dO.out)|refine bp ?_ wG.out)|exact HB.out));rintro e Es ⟨rfl,hi,hb,hk⟩;refine ⟨_,rfl,?_⟩;have bD:=ah.mk (bA.blk hk (g':=kA) (o:= .cells #[.string (⟨#[]⟩:ByteArray),.string (⟨#[]⟩:ByteArray),.bool false] 30 (0,0)) oK nu.out bn);have bN:=ah.mk (bA.trans l5 hk (.inl rfl));have cz:=ah.mk (hb);have cY:=ah.mk (hi);clear gF;clear HK;clear HB;clear dO;have gF:=bD;have HK:=bN;have HB:=cz;have dO:=cY;clear bD bN cz cY;(try clear hb);(try clear hb2);(try clear hk);(try clear hi))|((with_reducible refine aN (f:=80) rfl ?_);refine cr (some 41) rfl rfl Tryz.func80 au rfl #[.pointer (some ⟨g,0,none⟩)] rfl cV ?_;(with_reducible refine (ck.calls C6 g t188 t189 t199 t200 t201 t202 w0 _ ?aX ?bS A32.out).mono ?_);(case aX=>repeat (first|(with_reducible first|exact dO.out|apply av.alloc|apply av.drewN|apply av.drew|apply av.fQ|apply av.fM|refine av.far ?_ l7.out _)|exact dO.out));(case bS=>repeat (first|(with_reducible first|exact HB.out|apply az|apply aB|apply bu|refine bp ?_ (av.ge dO.out)|refine bp ?_ wG.out)|exact HB.out));rintro e TZ ⟨rfl,hi,hb,hk⟩;refine ⟨_,rfl,?_⟩;have bD:=ah.mk (bA.blk hk (g':=kA) (o:= .cells #[.string (⟨#[]⟩:ByteArray),.string (⟨#[]⟩:ByteArray),.bool false] 30 (0,0)) oK nu.out bn);have bN:=ah.mk (bA.trans l5 hk (.inl rfl));have cz:=ah.mk (hb);have cY:=ah.mk (hi);clear gF;clear HK;clear HB;clear dO;have gF:=bD;have HK:=bN;have HB:=cz;have dO:=cY;clear bD bN cz cY;(try clear hb);(try clear hb2);(try clear hk);(try clear hi);have ao3:=nu.out;have ao4:=l7.out;have AA:TZ.cell? ⟨kA,0,none⟩=some (.string (⟨#[]⟩:ByteArray)):=(af gF.out 0).trans rfl;have AB:TZ.cell? ⟨kA,1,none⟩=some (.string (⟨#[]⟩:ByteArray)):=(af gF.out 1).trans rfl;have AE:TZ.cell? ⟨kA,2,none⟩=some (.bool false):=(af gF.out 2).trans rfl;have AG:=aa gF.out 0;have AH:=aa gF.out 1;have AJ:=aa gF.out 2))
     refine bodyPost_ret (dA rfl _ _ kA 30 #[.string t180,.string t199,.bool false] (0,0) _ rfl (by (with_reducible repeat (first|refine aM ?_ _|refine bh ?_|refine aU ?_ _));refine cv (cs:=#[.string t180,.string t199,.bool false]) ?_ 2 _ rfl;(with_reducible repeat (first|refine aM ?_ _|refine bh ?_|refine aU ?_ _));refine cv (cs:=#[.string t180,.string (⟨#[]⟩:ByteArray),.bool false]) ?_ 1 _ rfl;(with_reducible repeat (first|refine aM ?_ _|refine bh ?_|refine aU ?_ _));refine cv (cs:=#[.string (⟨#[]⟩:ByteArray),.string (⟨#[]⟩:ByteArray),.bool false]) ?_ 0 _ rfl;(with_reducible repeat (first|refine aM ?_ _|refine bh ?_|refine aU ?_ _));exact gF.out) Tryz.underlying30 rfl au) rfl ?_
     exact ⟨cZ,ux,tO,l5⟩
def eF.f (k:Nat) (aK:ByteArray) (bf:ByteArray) (bg:Bool):Option (Bool):=if (aK.size:Int)≤64 then (if bg=true then (some true) else ((eW.f k bf).bind fun t204=>(some t204))) else (some false)
theorem eF.mono:∀ a0 a1 a2 k,cR (eF.f k a0 a1 a2) (eF.f (k + 1) a0 a1 a2):=by
 intro a0 a1 a2 k
 unfold eF.f
 repeat' first
  |(with_reducible exact eW.mono _ _)
  |(with_reducible exact cR.refl _)
  |(with_reducible exact cR.none _)
  |(with_reducible refine cR.ite ?_ ?_)
  |(with_reducible refine cR.bind ?_ (fun _ =>?_))
  |refine cR.ite ?_ ?_
  |refine cR.bind ?_ (fun _ =>?_)
set_option maxHeartbeats 8000000 in
set_option maxRecDepth 100000 in
theorem eF.calls (k:Nat) (aK:ByteArray) (bf:ByteArray) (bg:Bool) (r:Bool) (w:World) (hG:aT w) (h:eF.f k aK bf bg=some r):
 Calls Tryz.prog 58 #[.agg #[.string aK,.string bf,.bool bg]] w fun e w'=>e= .returned (.bool r)∧Below w.heap.size w w':=by
 have LI:=Tryz.underlying30
 have HB:=ah.mk (Below.refl w.heap.size w)
 have HG:=ah.mk hG
 clear hG
 have H:(if (aK.size:Int)≤64 then (if bg=true then (some true) else ((eW.f k bf).bind fun t204=>(some t204))) else (some false))=some r:=h
 clear h
 by_cases c2:(aK.size:Int)≤64
 ·rw [if_pos c2] at H
  have BM:decide ((aK.size:Int)≤64)=true:=decide_eq_true c2
  have Og:decide (aK.size≤64)=true:=decide_eq_true aq
  clear c2
  by_cases c3:bg=true
  ·subst c3
   have H1:(some true)=some r:=by rw [if_pos rfl] at H;exact H
   clear H
   have H:=H1
   clear H1
   obtain rfl:=Option.some.inj H
   go_enter Tryz.func58,Tryz.ntmps58
   go_wp2_with (first|((with_reducible refine cG (N:=1) rfl ?_);refine cj ?hg (N:=1) ?hd (cs:=#[.string aK,.string bf,.bool true]) (t:=30) ?hr ?_;(case hd=>rfl);(case hg=>rfl);(case hr=>first|(go_simp;done)|(go_simp;rfl));intro qc hg w4 cJ hb;have bD:=ah.mk (ay cw hb);have bN:=ah.mk (cJ);have cz:=ah.mk ((dK:w.heap.size≤qc));have cY:=ah.mk ((dK:w.heap.size≤qc));clear HB;have HB:=bD;have nE:=bN;have aaO:=cz;have Ut:=cY;clear bD bN cz cY;clear hb cJ hg;have JU:w4.cell? ⟨qc,0,none⟩=some (.string aK):=(af nE.out 0).trans rfl;have JV:w4.cell? ⟨qc,1,none⟩=some (.string bf):=(af nE.out 1).trans rfl;have OC:w4.cell? ⟨qc,2,none⟩=some (.bool true):=(af nE.out 2).trans rfl;have JW:=aa nE.out 0;have JX:=aa nE.out 1;have OD:=aa nE.out 2))
   go_ret
   exact ⟨cZ,EN⟩
  ·replace c3:=Bool.eq_false_iff.mpr c3
   subst c3
   have H1:((eW.f k bf).bind fun t204=>(some t204))=some r:=by rw [if_neg (show ¬ (false=true) by decide)] at H;exact H
   clear H
   have H:=H1
   clear H1
   replace H:=Option.bind_eq_some_iff.mp H
   obtain ⟨t204,wR,H⟩:=H
   replace H:(some t204)=some r:=H
   have A6:=ah.mk wR
   clear wR
   obtain rfl:=Option.some.inj H
   go_enter Tryz.func58,Tryz.ntmps58
   go_wp2_with (first|((with_reducible refine cG (N:=1) rfl ?_);refine cj ?hg (N:=1) ?hd (cs:=#[.string aK,.string bf,.bool false]) (t:=30) ?hr ?_;(case hd=>rfl);(case hg=>rfl);(case hr=>first|(go_simp;done)|(go_simp;rfl));intro qc hg w7 cJ hb;have bD:=ah.mk (ay cw hb);have bN:=ah.mk (cJ);have cz:=ah.mk ((dK:w.heap.size≤qc));have cY:=ah.mk ((dK:w.heap.size≤qc));clear HB;have HB:=bD;have nE:=bN;have aaO:=cz;have Ut:=cY;clear bD bN cz cY;clear hb cJ hg;have wU:w7.cell? ⟨qc,0,none⟩=some (.string aK):=(af nE.out 0).trans rfl;have wV:w7.cell? ⟨qc,1,none⟩=some (.string bf):=(af nE.out 1).trans rfl;have BO:w7.cell? ⟨qc,2,none⟩=some (.bool false):=(af nE.out 2).trans rfl;have wW:=aa nE.out 0;have wX:=aa nE.out 1;have BP:=aa nE.out 2)|(go_at_call 61;(with_reducible refine (eW.calls k bf t204 _ ?aX A6.out).mono ?_);(case aX=>exact aT.below HG.out EN);rintro e w9 ⟨rfl,hb⟩;have bD:=ah.mk (aJ (g:=qc) (o:= .cells #[.string aK,.string bf,.bool false] 30 (0,0)) (by (with_reducible repeat (first|refine aM ?_ _|refine bh ?_|refine aU ?_ _));exact nE.out) hb);have bN:=ah.mk (ay EN hb);clear nE;clear HB;have nE:=bD;have HB:=bN;clear bD bN;(try clear hb);(try clear hb2);(try clear hk);(try clear hi)))
   go_ret
   exact ⟨cZ,EN⟩
 ·rw [if_neg c2] at H
  have BM:decide ((aK.size:Int)≤64)=false:=decide_eq_false c2
  have Og:decide (aK.size≤64)=false:=decide_eq_false aq
  clear c2
  obtain rfl:=Option.some.inj H
  go_enter Tryz.func58,Tryz.ntmps58
  go_wp2_with (first|((with_reducible refine cG (N:=1) rfl ?_);refine cj ?hg (N:=1) ?hd (cs:=#[.string aK,.string bf,.bool bg]) (t:=30) ?hr ?_;(case hd=>rfl);(case hg=>rfl);(case hr=>first|(go_simp;done)|(go_simp;rfl));intro qc hg sV cJ hb;have bD:=ah.mk (ay cw hb);have bN:=ah.mk (cJ);have cz:=ah.mk ((dK:w.heap.size≤qc));have cY:=ah.mk ((dK:w.heap.size≤qc));clear HB;have HB:=bD;have nE:=bN;have aaO:=cz;have Ut:=cY;clear bD bN cz cY;clear hb cJ hg;have sX:sV.cell? ⟨qc,0,none⟩=some (.string aK):=(af nE.out 0).trans rfl;have sY:sV.cell? ⟨qc,1,none⟩=some (.string bf):=(af nE.out 1).trans rfl;have sZ:sV.cell? ⟨qc,2,none⟩=some (.bool bg):=(af nE.out 2).trans rfl;have s7:=aa nE.out 0;have s8:=aa nE.out 1;have s9:=aa nE.out 2))
  go_ret
  exact ⟨cZ,EN⟩
def fV.f (k:Nat) (a0:ByteArray):Option (Bool):=(eW.f k a0).bind fun t205=>(some (!t205))
theorem fV.mono:∀ a0 k,cR (fV.f k a0) (fV.f (k + 1) a0):=by
 intro a0 k
 unfold fV.f
 repeat' first
  |(with_reducible exact eW.mono _ _)
  |(with_reducible exact cR.refl _)
  |(with_reducible exact cR.none _)
  |(with_reducible refine cR.ite ?_ ?_)
  |(with_reducible refine cR.bind ?_ (fun _ =>?_))
  |refine cR.ite ?_ ?_
  |refine cR.bind ?_ (fun _ =>?_)
set_option maxHeartbeats 8000000 in
set_option maxRecDepth 100000 in
theorem fV.calls (k:Nat) (a0:ByteArray) (r:Bool) (w:World) (hG:aT w) (h:fV.f k a0=some r):
 Calls Tryz.prog 60 #[.string a0] w fun e w'=>e= .returned (.bool r)∧Below w.heap.size w w':=by
 have HB:=ah.mk (Below.refl w.heap.size w)
 have HG:=ah.mk hG
 clear hG
 have H:((eW.f k a0).bind fun t205=>(some (!t205)))=some r:=h
 clear h
 replace H:=Option.bind_eq_some_iff.mp H
 obtain ⟨t205,nK,H⟩:=H
 replace H:(some (!t205))=some r:=H
 have A2:=ah.mk nK
 clear nK
 obtain rfl:=Option.some.inj H
 go_enter Tryz.func60,Tryz.ntmps60
 go_wp2_with (first|((with_reducible refine aN (f:=61) rfl ?_);refine cr (some 4) rfl rfl Tryz.func61 au rfl #[.string a0] rfl cV ?_;(with_reducible refine (eW.calls k a0 t205 _ ?aX A2.out).mono ?_);(case aX=>exact aT.below HG.out cw);rintro e w3 ⟨rfl,hb⟩;refine ⟨_,rfl,?_⟩;have bD:=ah.mk (ay cw hb);clear HB;have HB:=bD;clear bD;(try clear hb);(try clear hb2);(try clear hk);(try clear hi)))
 go_ret
 exact ⟨cZ,cw⟩
def aG.l0:Nat→List ByteArray→Int→Int→Option (Int)
 | 0,_,_,_ =>none
 |k + 1,x0,x7,x8=>if x8 < x7 then (if 0≤x8 then (if x8 < (x0.length:Int) then ((fV.f k (kC ByteArray.empty x0 x8)).bind fun t207=>(if t207=true then (some x8) else (aG.l0 k x0 x7 (wrap64 (x8 + 1))))) else (none)) else (none)) else (some (-1))
def aG.f (k:Nat) (l0:List ByteArray):Option (Int):=aG.l0 k l0 (l0.length:Int) 0
theorem aG.fR:∀ k,(∀ y0 y1 y2,cR (aG.l0 k y0 y1 y2) (aG.l0 (k + 1) y0 y1 y2))
 | 0=>fun _ _ _ r h=>by simp [aG.l0] at h
 |k + 1=>by
  have nY:=aG.fR k
  ·intro y0 y1 y2
   unfold aG.l0
   repeat' first
   |(with_reducible exact nY _ _ _)
   |(with_reducible exact fV.mono _ _)
   |(with_reducible exact cR.refl _)
   |(with_reducible exact cR.none _)
   |(with_reducible refine cR.ite ?_ ?_)
   |(with_reducible refine cR.bind ?_ (fun _ =>?_))
   |refine cR.ite ?_ ?_
   |refine cR.bind ?_ (fun _ =>?_)
theorem aG.mono:∀ a0 k,cR (aG.f k a0) (aG.f (k + 1) a0):=by
 intro a0 k
 have nY:=aG.fR k
 unfold aG.f
 repeat' first
  |(with_reducible exact nY _ _ _)
  |(with_reducible exact fV.mono _ _)
  |(with_reducible exact cR.refl _)
  |(with_reducible exact cR.none _)
  |(with_reducible refine cR.ite ?_ ?_)
  |(with_reducible refine cR.bind ?_ (fun _ =>?_))
  |refine cR.ite ?_ ?_
  |refine cR.bind ?_ (fun _ =>?_)
set_option maxHeartbeats 8000000 in
set_option maxRecDepth 100000 in
theorem aG.calls (k:Nat) (A0:Option Addr) (c0:Nat) (l0:List ByteArray) (r:Int) (w:World) (zk:Kd.C Kd.string w A0 l0.length l0) (hc0:l0.length≤c0) (hG:aT w) (h:aG.f k l0=some r):
 Calls Tryz.prog 117 #[.slice A0 l0.length c0,.func (.func 60) #[] #[]] w fun e w'=>e= .returned (.int .i64 r)∧Below w.heap.size w w':=by
 have xO:=ah.mk zk
 have P9:=ah.mk hc0
 clear zk hc0
 have HB:=ah.mk (Below.refl w.heap.size w)
 have HG:=ah.mk hG
 clear hG
 have H:(aG.l0 k l0 (l0.length:Int) 0)=some r:=h
 clear h
 have H':=ah.mk H
 clear H
 go_enter Tryz.func117,Tryz.ntmps117
 go_wp2
 go_loopg [8] k (fun kq v8 w'=>∃ (eV:Int),v8= .int .i64 eV∧ah (aG.l0 kq l0 (l0.length:Int) eV=some r)∧ah (kq≤k)∧ah (Below w.heap.size w w'))
 case atStart=>exact ⟨(0),ey,H',⟨Nat.le_refl _⟩,⟨cw⟩⟩
 case round=>
  clear H'
  try clear c1
  try clear p2
  obtain ⟨eV,rfl,HA,uC,HB⟩:=hrel
  cases gk with
  |zero=>exact absurd HA.out (by simp [aG.l0])
  |succ k1=>
   have H:=HA.out
   clear HA
   simp only [aG.l0] at H
   by_cases c3:eV < (l0.length:Int)
   ·rw [if_pos c3] at H
    have qm:decide (eV < (l0.length:Int))=true:=decide_eq_true c3
    clear c3
    by_cases c4: 0≤eV
    ·rw [if_pos c4] at H
     have oL:decide (0≤eV)=true:=decide_eq_true c4
     clear c4
     by_cases c5:eV < (l0.length:Int)
     ·rw [if_pos c5] at H
      have tR:decide (eV < (l0.length:Int))=true:=decide_eq_true c5
      clear c5
      replace H:=Option.bind_eq_some_iff.mp H
      obtain ⟨t207,wR,H⟩:=H
      replace H:(if t207=true then (some eV) else (aG.l0 k1 l0 (l0.length:Int) (wrap64 (eV + 1))))=some r:=H
      have A6:=ah.mk wR
      clear wR
      by_cases c7:t207=true
      ·subst c7
       have H1:(some eV)=some r:=by rw [if_pos rfl] at H;exact H
       clear H
       have H:=H1
       clear H1
       obtain rfl:=Option.some.inj H
       have OE: 0≤(eV:Int):=of_decide_eq_true cX
       have OG:eV < (l0.length:Int):=of_decide_eq_true cX
       obtain ⟨aeI,ab2,vP⟩:=Kd.ju xO.out eV OE OG
       cases ab2
       replace vP:=(HB.out.cell (World.block_lt_of_cell? w _ vP)).trans vP
       replace OE:=eq_true OE
       replace OG:=eq_true OG
       go_wp2_with (first|(go_at_call 60;(with_reducible refine (fV.calls k1 (kC ByteArray.empty l0 eV) true _ ?aX A6.out).mono ?_);(case aX=>exact aT.below HG.out cw);rintro e w8 ⟨rfl,hb⟩;have bD:=ah.mk (ay cw hb);clear HB;have HB:=bD;clear bD;(try clear hb);(try clear hb2);(try clear hk);(try clear hi)))
       go_ret
       exact ⟨cZ,cw⟩
      ·replace c7:=Bool.eq_false_iff.mpr c7
       subst c7
       have H1:(aG.l0 k1 l0 (l0.length:Int) (wrap64 (eV + 1)))=some r:=by rw [if_neg (show ¬ (false=true) by decide)] at H;exact H
       clear H
       have H:=H1
       clear H1
       have H':=ah.mk H
       clear H
       have OE: 0≤(eV:Int):=of_decide_eq_true cX
       have OG:eV < (l0.length:Int):=of_decide_eq_true cX
       obtain ⟨aeI,ab2,vP⟩:=Kd.ju xO.out eV OE OG
       cases ab2
       replace vP:=(HB.out.cell (World.block_lt_of_cell? w _ vP)).trans vP
       replace OE:=eq_true OE
       replace OG:=eq_true OG
       go_wp2_with (first|(go_at_call 60;(with_reducible refine (fV.calls k1 (kC ByteArray.empty l0 eV) false _ ?aX A6.out).mono ?_);(case aX=>exact aT.below HG.out cw);rintro e w9 ⟨rfl,hb⟩;have bD:=ah.mk (ay cw hb);clear HB;have HB:=bD;clear bD;(try clear hb);(try clear hb2);(try clear hk);(try clear hi)))
       go_roundg k1
       case measure=>have:=uC.out;omega
       case rel=>exact ⟨(wrap64 (eV + 1)),ey,H',⟨j6⟩,⟨cw⟩⟩
     ·rw [if_neg c5] at H
      exact absurd H bn
    ·rw [if_neg c4] at H
     exact absurd H bn
   ·rw [if_neg c3] at H
    have qm:decide (eV < (l0.length:Int))=false:=decide_eq_false c3
    clear c3
    obtain rfl:=Option.some.inj H
    go_wp2
    go_ret
    exact ⟨cZ,cw⟩
def bB.f (k:Nat) (l0:List ByteArray):Option (Bool):=(aG.f k l0).bind fun t208=>(some (decide (t208≥0)))
theorem bB.mono:∀ a0 k,cR (bB.f k a0) (bB.f (k + 1) a0):=by
 intro a0 k
 unfold bB.f
 repeat' first
  |(with_reducible exact aG.mono _ _)
  |(with_reducible exact cR.refl _)
  |(with_reducible exact cR.none _)
  |(with_reducible refine cR.ite ?_ ?_)
  |(with_reducible refine cR.bind ?_ (fun _ =>?_))
  |refine cR.ite ?_ ?_
  |refine cR.bind ?_ (fun _ =>?_)
set_option maxHeartbeats 8000000 in
set_option maxRecDepth 100000 in
theorem bB.calls (k:Nat) (A0:Option Addr) (c0:Nat) (l0:List ByteArray) (r:Bool) (w:World) (zk:Kd.C Kd.string w A0 l0.length l0) (hc0:l0.length≤c0) (hG:aT w) (h:bB.f k l0=some r):
 Calls Tryz.prog 59 #[.slice A0 l0.length c0,.func (.func 60) #[] #[]] w fun e w'=>e= .returned (.bool r)∧Below w.heap.size w w':=by
 have xO:=ah.mk zk
 have P9:=ah.mk hc0
 clear zk hc0
 have HB:=ah.mk (Below.refl w.heap.size w)
 have HG:=ah.mk hG
 clear hG
 have H:((aG.f k l0).bind fun t208=>(some (decide (t208≥0))))=some r:=h
 clear h
 replace H:=Option.bind_eq_some_iff.mp H
 obtain ⟨t208,wQ,H⟩:=H
 replace H:(some (decide (t208≥0)))=some r:=H
 have A3:=ah.mk wQ
 clear wQ
 obtain rfl:=Option.some.inj H
 go_enter Tryz.func59,Tryz.ntmps59
 go_wp2_with (first|((with_reducible refine aN (f:=117) rfl ?_);refine cr (some 7) rfl rfl Tryz.func117 au rfl #[.slice A0 l0.length c0,.func (.func 60) #[] #[]] rfl cV ?_;(with_reducible refine (aG.calls k _ _ l0 t208 _ ?aX ?bS ?dH A3.out).mono ?_);(case aX=>repeat (first|exact xO.out|(with_reducible refine Kd.cK ?_ _)|(with_reducible refine Kd.cL ?_ _)|(with_reducible refine Kd.dG ?_)));(case bS=>exact P9.out);(case dH=>exact aT.below HG.out cw);rintro e w4 ⟨rfl,hb⟩;refine ⟨_,rfl,?_⟩;have bD:=ah.mk (ay cw hb);clear HB;have HB:=bD;clear bD;(try clear hb);(try clear hb2);(try clear hk);(try clear hi)))
 go_ret
 exact ⟨cZ,cw⟩
end Go.Proofs.YtokpnfljjjjikaaGreatDoor.nX
