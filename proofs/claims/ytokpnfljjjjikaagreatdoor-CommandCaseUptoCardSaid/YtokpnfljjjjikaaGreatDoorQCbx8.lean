import Derived.Test.YtokpnfljjjjikaaGreatDoorQCbx4
import Derived.Test.YtokpnfljjjjikaaGreatDoorQCbx5
import Derived.Test.YtokpnfljjjjikaaGreatDoorQCbx7
set_option maxHeartbeats 8000000
set_option maxRecDepth 100000
namespace Go.Proofs.YtokpnfljjjjikaaGreatDoor.n9
open Go.RowKit Go.Proofs.aj.bQ Go.Proofs.aj.gf Go.Proofs.aj.cT
attribute [local go_sem] jt iY kQ kJ iJ iK ju jv
set_option linter.unusedVariables false
set_option linter.unusedSimpArgs false
def cz.j0:Nat→ByteArray→Bool→ByteArray→Int→Option (ByteArray×ByteArray×Bool×Bool×ByteArray×Int)
 | 0,_,_,_,_ =>none
 |k + 1,x4,x20,iw,fV=>if x20=true then (some ((⟨#[]⟩:ByteArray),(⟨#[]⟩:ByteArray),false,false,iw,fV)) else ((bu.f iw fV 91).bind fun zg=>(if zg.1=true then ((aN.f k zg.2.1 zg.2.2).bind fun qE=>((cE.f qE.1).bind fun t194=>((bu.f qE.2.2.1 qE.2.2.2 93).bind fun kD=>(if kD.1=true then ((bZ.f k qE.1).bind fun t198=>(some (x4,t194,true,t198,kD.2.1,kD.2.2))) else (some (x4,t194,true,false,kD.2.1,kD.2.2)))))) else ((ck.f k zg.2.1 zg.2.2).bind fun qF=>(some (x4,qF.1,false,qF.2.1,qF.2.2.1,qF.2.2.2)))))
def cz.f (k:Nat) (fk:ByteArray) (cR:Int):Option (ByteArray×ByteArray×Bool×Bool×ByteArray×Int):=(cm.f k fk cR).bind fun uf=>(if uf.2.1=true then ((bu.f uf.2.2.1 uf.2.2.2 64).bind fun ug=>(cz.j0 k uf.1 (!ug.1) ug.2.1 ug.2.2)) else (cz.j0 k uf.1 true uf.2.2.1 uf.2.2.2))
theorem cz.fU:∀ k,(∀ y0 y1 y2 y3,cN (cz.j0 k y0 y1 y2 y3) (cz.j0 (k + 1) y0 y1 y2 y3))
 | 0=>fun _ _ _ _ r h=>by simp [cz.j0] at h
 |k + 1=>by
  have oK:=cz.fU k
  ·intro y0 y1 y2 y3
   unfold cz.j0
   repeat' first
   |(with_reducible exact oK _ _ _ _)
   |(with_reducible exact bZ.mono _ _)
   |(with_reducible exact ck.mono _ _ _)
   |(with_reducible exact cm.mono _ _ _)
   |(with_reducible exact aN.mono _ _ _)
   |(with_reducible exact cN.refl _)
   |(with_reducible exact cN.none _)
   |(with_reducible refine cN.ite ?_ ?_)
   |(with_reducible refine cN.bind ?_ (fun _ =>?_))
   |refine cN.ite ?_ ?_
   |refine cN.bind ?_ (fun _ =>?_)
theorem cz.mono:∀ a0 a1 k,cN (cz.f k a0 a1) (cz.f (k + 1) a0 a1):=by
 intro a0 a1 k
 have oK:=cz.fU k
 unfold cz.f
 repeat' first
  |(with_reducible exact oK _ _ _ _)
  |(with_reducible exact bZ.mono _ _)
  |(with_reducible exact ck.mono _ _ _)
  |(with_reducible exact cm.mono _ _ _)
  |(with_reducible exact aN.mono _ _ _)
  |(with_reducible exact cN.refl _)
  |(with_reducible exact cN.none _)
  |(with_reducible refine cN.ite ?_ ?_)
  |(with_reducible refine cN.bind ?_ (fun _ =>?_))
  |refine cN.ite ?_ ?_
  |refine cN.bind ?_ (fun _ =>?_)
theorem cz.calls (k:Nat) (g:Nat) (fk:ByteArray) (cR:Int) (r1:ByteArray) (r2:ByteArray) (r3:Bool) (r4:Bool) (r5:ByteArray) (r6:Int) (w0 w:World) (hI:ay w0 w g fk cR) (hB:Below w0.heap.size w0 w) (hG:aW w0) (h:cz.f k fk cR=some (r1,r2,r3,r4,r5,r6)):
 Calls Tryz.prog 71 #[.pointer (some ⟨g,0,none⟩)] w fun e w'=>e= .returned (.tuple #[.agg #[.string r1,.string r2,.bool r3],.bool r4])∧ay w0 w' g r5 r6∧Below w0.heap.size w0 w'∧bB w w' g none:=by
 have M4:=Tryz.underlying30
 have dH:=ah.mk hI
 have HK:=ah.mk (bB.refl w g none)
 have HL:=ah.mk hB.size
 clear hI
 have VQ:=ah.mk hB.size
 have HB:=ah.mk hB
 clear hB
 have HG:=ah.mk hG
 clear hG
 have H:((cm.f k fk cR).bind fun uf=>(if uf.2.1=true then ((bu.f uf.2.2.1 uf.2.2.2 64).bind fun ug=>(cz.j0 k uf.1 (!ug.1) ug.2.1 ug.2.2)) else (cz.j0 k uf.1 true uf.2.2.1 uf.2.2.2)))=some (r1,r2,r3,r4,r5,r6):=h
 clear h
 replace H:=Option.bind_eq_some_iff.mp H
 obtain ⟨⟨t180,t181,t182,t183⟩,oL,H⟩:=H
 replace H:(if t181=true then ((bu.f t182 t183 64).bind fun ug=>(cz.j0 k t180 (!ug.1) ug.2.1 ug.2.2)) else (cz.j0 k t180 true t182 t183))=some (r1,r2,r3,r4,r5,r6):=H
 have A2:=ah.mk oL
 clear oL
 have WQ:=ah.mk H
 clear H
 go_enter Tryz.func71,Tryz.ntmps71
 go_upto_region 2 with (first|((with_reducible refine cK (N:=2) rfl ?_);refine cu ?hg (N:=2) ?hd (cs:=#[.string (⟨#[]⟩:ByteArray),.string (⟨#[]⟩:ByteArray),.bool false]) (t:=30) ?hr ?_;(case hd=>rfl);(case hg=>rfl);(case hr=>first|(go_simp;done)|(go_simp;rfl));intro kE hg w4 cM hb;have bI:=ah.mk (ay.below iC hb);have bP:=ah.mk (bB.trans eK (bB.of_below hb g none) (.inl rfl));have cw:=ah.mk (az iB hb);have cW:=ah.mk (cM);have jc:=ah.mk ((Rw:w.heap.size≤kE));have nv:=ah.mk ((Nat.le_trans VQ.out (Rw:w.heap.size≤kE):w0.heap.size≤kE));have nI:=ah.mk ((by rw [hg];exact Nat.ne_of_lt (ay.lt (show ay w0 _ g fk cR from by repeat (first|(with_reducible first|exact dH.out|apply ay.alloc|apply ay.drewN|apply ay.drew|apply ay.fS|apply ay.fP)|exact dH.out))):g≠kE));have wD:=ah.mk ((by rw [hg];exact Nat.ne_of_gt (ay.lt (show ay w0 _ g fk cR from by repeat (first|(with_reducible first|exact dH.out|apply ay.alloc|apply ay.drewN|apply ay.drew|apply ay.fS|apply ay.fP)|exact dH.out))):kE≠g));clear dH;clear HK;clear HB;have dH:=bI;have HK:=bP;have HB:=cw;have gK:=cW;have ae2:=jc;have yL:=nv;have mC:=nI;have nN:=wD;clear bI bP cw cW jc nv nI wD;clear hb cM hg)|((with_reducible refine aT (f:=123) rfl ?_);refine cC (some 11) rfl rfl Tryz.func123 av rfl #[.pointer (some ⟨g,0,none⟩)] rfl cY ?_;(with_reducible refine (cm.calls k g fk cR t180 t181 t182 t183 w0 _ ?bg ?bY A2.out).mono ?_);(case bg=>repeat (first|(with_reducible first|exact dH.out|apply ay.alloc|apply ay.drewN|apply ay.drew|apply ay.fS|apply ay.fP|refine ay.far ?_ mC.out _)|exact dH.out));(case bY=>repeat (first|(with_reducible first|exact HB.out|apply aD|apply aM|apply bq|refine bp ?_ (ay.ge dH.out)|refine bp ?_ yL.out)|exact HB.out));rintro e w5 ⟨rfl,hi,hb,hk⟩;refine ⟨_,rfl,?_⟩;have bI:=ah.mk (bB.blk hk (g':=kE) (o:= .cells #[.string (⟨#[]⟩:ByteArray),.string (⟨#[]⟩:ByteArray),.bool false] 30 (0,0)) pL nN.out bf);have bP:=ah.mk (bB.trans mA hk (.inl rfl));have cw:=ah.mk (hb);have cW:=ah.mk (hi);clear gK;clear HK;clear HB;clear dH;have gK:=bI;have HK:=bP;have HB:=cw;have dH:=cW;clear bI bP cw cW;(try clear hb);(try clear hb2);(try clear hk);(try clear hi)))
 (try simp only [Act.put,List.setIfInBounds_toArray,List.set_cons_zero,List.set_cons_succ])
 go_cut [20] (fun v20 wc=>∃ (kq:Nat) (Tf:Bool) (vR:ByteArray) (vS:Int),v20= .bool Tf∧ah (cz.j0 kq t180 Tf vR vS=some (r1,r2,r3,r4,r5,r6))∧ah (kq≤k)∧ah (wc.heap[kE]? =some (.cells #[.string (⟨#[]⟩:ByteArray),.string (⟨#[]⟩:ByteArray),.bool false] 30 (0,0)))∧ah (ay w0 wc g vR vS)∧ah (bB w wc g none)∧ah (Below w0.heap.size w0 wc))
 case first=>
  have H:=WQ.out
  clear WQ
  by_cases c6:t181=true
  ·subst c6
   have H1:((bu.f t182 t183 64).bind fun ug=>(cz.j0 k t180 (!ug.1) ug.2.1 ug.2.2))=some (r1,r2,r3,r4,r5,r6):=by rw [if_pos rfl] at H;exact H
   clear H
   have H:=H1
   clear H1
   replace H:=Option.bind_eq_some_iff.mp H
   obtain ⟨⟨t184,t185,t186⟩,GV,H⟩:=H
   replace H:(cz.j0 k t180 (!t184) t185 t186)=some (r1,r2,r3,r4,r5,r6):=H
   have A7:=ah.mk GV
   clear GV
   have H':=ah.mk H
   clear H
   go_wp2_with (first|(go_at_call 56;(with_reducible refine (bu.calls g t182 t183 64 t184 t185 t186 w0 _ ?bg ?bY A7.out).mono ?_);(case bg=>repeat (first|(with_reducible first|exact dH.out|apply ay.alloc|apply ay.drewN|apply ay.drew|apply ay.fS|apply ay.fP|refine ay.far ?_ mC.out _)|exact dH.out));(case bY=>repeat (first|(with_reducible first|exact HB.out|apply aD|apply aM|apply bq|refine bp ?_ (ay.ge dH.out)|refine bp ?_ yL.out)|exact HB.out));rintro e w8 ⟨rfl,hi,hb,hk⟩;have bI:=ah.mk (bB.blk hk (g':=kE) (o:= .cells #[.string (⟨#[]⟩:ByteArray),.string (⟨#[]⟩:ByteArray),.bool false] 30 (0,0)) pL nN.out bf);have bP:=ah.mk (bB.trans mA hk (.inl rfl));have cw:=ah.mk (hb);have cW:=ah.mk (hi);clear gK;clear HK;clear HB;clear dH;have gK:=bI;have HK:=bP;have HB:=cw;have dH:=cW;clear bI bP cw cW;(try clear hb);(try clear hb2);(try clear hk);(try clear hi)))
   go_meet
   case rel=>exact ⟨_,(!t184),(t185),(t186),dL,H',⟨nB⟩,⟨pL⟩,⟨wP⟩,⟨mA⟩,⟨vV⟩⟩
  ·replace c6:=Bool.eq_false_iff.mpr c6
   subst c6
   have H1:(cz.j0 k t180 true t182 t183)=some (r1,r2,r3,r4,r5,r6):=by rw [if_neg (show ¬ (false=true) by decide)] at H;exact H
   clear H
   have H:=H1
   clear H1
   have H':=ah.mk H
   clear H
   go_wp2
   go_meet
   case rel=>exact ⟨_,(true),(t182),(t183),dL,H',⟨nB⟩,⟨pL⟩,⟨wP⟩,⟨mA⟩,⟨vV⟩⟩
 case rest=>
  clear WQ
  try clear c1
  try clear p2
  try clear c6
  try clear c7
  obtain ⟨kq,Tf,vR,vS,rfl,HA,HJ2,gK,dH,HK,HB⟩:=hcut
  cases kq with
  |zero=>exact absurd HA.out (by simp [cz.j0])
  |succ ER=>
   have H:=HA.out
   clear HA
   simp only [cz.j0] at H
   by_cases c9:Tf=true
   ·subst c9
    have H1:(some ((⟨#[]⟩:ByteArray),(⟨#[]⟩:ByteArray),false,false,vR,vS))=some (r1,r2,r3,r4,r5,r6):=by rw [if_pos rfl] at H;exact H
    clear H
    have H:=H1
    clear H1
    simp only [Option.some.injEq,Prod.mk.injEq] at H
    obtain ⟨rfl,rfl,rfl,rfl,rfl,rfl⟩:=H
    have afr:=nN.out
    have afs:=mC.out
    have uM:wc.cell? ⟨kE,0,none⟩=some (.string (⟨#[]⟩:ByteArray)):=(af gK.out 0).trans rfl
    have uN:wc.cell? ⟨kE,1,none⟩=some (.string (⟨#[]⟩:ByteArray)):=(af gK.out 1).trans rfl
    have uO:wc.cell? ⟨kE,2,none⟩=some (.bool false):=(af gK.out 2).trans rfl
    have uP:=aa gK.out 0
    have uQ:=aa gK.out 1
    have uR:=aa gK.out 2
    go_wp2
    refine bodyPost_ret (dm rfl _ _ kE 30 #[.string (⟨#[]⟩:ByteArray),.string (⟨#[]⟩:ByteArray),.bool false] (0,0) _ rfl (by (with_reducible repeat (first|refine aK ?_ _|refine aV ?_|refine aJ ?_ _));refine cj (cs:=#[.string (⟨#[]⟩:ByteArray),.string (⟨#[]⟩:ByteArray),.bool false]) ?_ 2 _ rfl;(with_reducible repeat (first|refine aK ?_ _|refine aV ?_|refine aJ ?_ _));refine cj (cs:=#[.string (⟨#[]⟩:ByteArray),.string (⟨#[]⟩:ByteArray),.bool false]) ?_ 1 _ rfl;(with_reducible repeat (first|refine aK ?_ _|refine aV ?_|refine aJ ?_ _));refine cj (cs:=#[.string (⟨#[]⟩:ByteArray),.string (⟨#[]⟩:ByteArray),.bool false]) ?_ 0 _ rfl;(with_reducible repeat (first|refine aK ?_ _|refine aV ?_|refine aJ ?_ _));exact gK.out) Tryz.underlying30 rfl av) rfl ?_
    exact ⟨cU,wP,vV,mA⟩
   ·replace c9:=Bool.eq_false_iff.mpr c9
    subst c9
    have H1:((bu.f vR vS 91).bind fun zg=>(if zg.1=true then ((aN.f ER zg.2.1 zg.2.2).bind fun qE=>((cE.f qE.1).bind fun t194=>((bu.f qE.2.2.1 qE.2.2.2 93).bind fun kD=>(if kD.1=true then ((bZ.f ER qE.1).bind fun t198=>(some (t180,t194,true,t198,kD.2.1,kD.2.2))) else (some (t180,t194,true,false,kD.2.1,kD.2.2)))))) else ((ck.f ER zg.2.1 zg.2.2).bind fun qF=>(some (t180,qF.1,false,qF.2.1,qF.2.2.1,qF.2.2.2)))))=some (r1,r2,r3,r4,r5,r6):=by rw [if_neg (show ¬ (false=true) by decide)] at H;exact H
    clear H
    have H:=H1
    clear H1
    replace H:=Option.bind_eq_some_iff.mp H
    obtain ⟨⟨t187,t188,t189⟩,GZ,H⟩:=H
    replace H:(if t187=true then ((aN.f ER t188 t189).bind fun qE=>((cE.f qE.1).bind fun t194=>((bu.f qE.2.2.1 qE.2.2.2 93).bind fun kD=>(if kD.1=true then ((bZ.f ER qE.1).bind fun t198=>(some (t180,t194,true,t198,kD.2.1,kD.2.2))) else (some (t180,t194,true,false,kD.2.1,kD.2.2)))))) else ((ck.f ER t188 t189).bind fun qF=>(some (t180,qF.1,false,qF.2.1,qF.2.2.1,qF.2.2.2))))=some (r1,r2,r3,r4,r5,r6):=H
    have MH:=ah.mk GZ
    clear GZ
    by_cases c13:t187=true
    ·subst c13
     have H1:((aN.f ER t188 t189).bind fun qE=>((cE.f qE.1).bind fun t194=>((bu.f qE.2.2.1 qE.2.2.2 93).bind fun kD=>(if kD.1=true then ((bZ.f ER qE.1).bind fun t198=>(some (t180,t194,true,t198,kD.2.1,kD.2.2))) else (some (t180,t194,true,false,kD.2.1,kD.2.2))))))=some (r1,r2,r3,r4,r5,r6):=by rw [if_pos rfl] at H;exact H
     clear H
     have H:=H1
     clear H1
     replace H:=Option.bind_eq_some_iff.mp H
     obtain ⟨⟨t190,t191,t192,t193⟩,CK,H⟩:=H
     replace H:((cE.f t190).bind fun t194=>((bu.f t192 t193 93).bind fun kD=>(if kD.1=true then ((bZ.f ER t190).bind fun t198=>(some (t180,t194,true,t198,kD.2.1,kD.2.2))) else (some (t180,t194,true,false,kD.2.1,kD.2.2)))))=some (r1,r2,r3,r4,r5,r6):=H
     have W7:=ah.mk CK
     clear CK
     replace H:=Option.bind_eq_some_iff.mp H
     obtain ⟨t194,Xl,H⟩:=H
     replace H:((bu.f t192 t193 93).bind fun kD=>(if kD.1=true then ((bZ.f ER t190).bind fun t198=>(some (t180,t194,true,t198,kD.2.1,kD.2.2))) else (some (t180,t194,true,false,kD.2.1,kD.2.2))))=some (r1,r2,r3,r4,r5,r6):=H
     have A15:=ah.mk Xl
     clear Xl
     replace H:=Option.bind_eq_some_iff.mp H
     obtain ⟨⟨t195,t196,t197⟩,NS,H⟩:=H
     replace H:(if t195=true then ((bZ.f ER t190).bind fun t198=>(some (t180,t194,true,t198,t196,t197))) else (some (t180,t194,true,false,t196,t197)))=some (r1,r2,r3,r4,r5,r6):=H
     have A16:=ah.mk NS
     clear NS
     by_cases c17:t195=true
     ·subst c17
      have H1:((bZ.f ER t190).bind fun t198=>(some (t180,t194,true,t198,t196,t197)))=some (r1,r2,r3,r4,r5,r6):=by rw [if_pos rfl] at H;exact H
      clear H
      have H:=H1
      clear H1
      replace H:=Option.bind_eq_some_iff.mp H
      obtain ⟨t198,Xm,H⟩:=H
      replace H:(some (t180,t194,true,t198,t196,t197))=some (r1,r2,r3,r4,r5,r6):=H
      have A18:=ah.mk Xm
      clear Xm
      simp only [Option.some.injEq,Prod.mk.injEq] at H
      obtain ⟨rfl,rfl,rfl,rfl,rfl,rfl⟩:=H
      go_wp2_with (first|((with_reducible refine aT (f:=56) rfl ?_);refine cC (some 23) rfl rfl Tryz.func56 av rfl #[.pointer (some ⟨g,0,none⟩),.int .u8 91] rfl cY ?_;(with_reducible refine (bu.calls g vR vS 91 true t188 t189 w0 _ ?bg ?bY MH.out).mono ?_);(case bg=>repeat (first|(with_reducible first|exact dH.out|apply ay.alloc|apply ay.drewN|apply ay.drew|apply ay.fS|apply ay.fP|refine ay.far ?_ mC.out _)|exact dH.out));(case bY=>repeat (first|(with_reducible first|exact HB.out|apply aD|apply aM|apply bq|refine bp ?_ (ay.ge dH.out)|refine bp ?_ yL.out)|exact HB.out));rintro e Pg ⟨rfl,hi,hb,hk⟩;refine ⟨_,rfl,?_⟩;have bI:=ah.mk (bB.blk hk (g':=kE) (o:= .cells #[.string (⟨#[]⟩:ByteArray),.string (⟨#[]⟩:ByteArray),.bool false] 30 (0,0)) pL nN.out bf);have bP:=ah.mk (bB.trans mA hk (.inl rfl));have cw:=ah.mk (hb);have cW:=ah.mk (hi);clear gK;clear HK;clear HB;clear dH;have gK:=bI;have HK:=bP;have HB:=cw;have dH:=cW;clear bI bP cw cW;(try clear hb);(try clear hb2);(try clear hk);(try clear hi))|((with_reducible refine aT (f:=119) rfl ?_);refine cC (some 26) rfl rfl Tryz.func119 av rfl #[.pointer (some ⟨g,0,none⟩),.func (.func 124) #[] #[]] rfl cY ?_;(with_reducible refine (aN.calls ER g t188 t189 t190 t191 t192 t193 w0 _ ?bg ?bY W7.out).mono ?_);(case bg=>repeat (first|(with_reducible first|exact dH.out|apply ay.alloc|apply ay.drewN|apply ay.drew|apply ay.fS|apply ay.fP|refine ay.far ?_ mC.out _)|exact dH.out));(case bY=>repeat (first|(with_reducible first|exact HB.out|apply aD|apply aM|apply bq|refine bp ?_ (ay.ge dH.out)|refine bp ?_ yL.out)|exact HB.out));rintro e Qg ⟨rfl,hi,hb,hk⟩;refine ⟨_,rfl,?_⟩;have bI:=ah.mk (bB.blk hk (g':=kE) (o:= .cells #[.string (⟨#[]⟩:ByteArray),.string (⟨#[]⟩:ByteArray),.bool false] 30 (0,0)) pL nN.out bf);have bP:=ah.mk (bB.trans mA hk (.inl rfl));have cw:=ah.mk (hb);have cW:=ah.mk (hi);clear gK;clear HK;clear HB;clear dH;have gK:=bI;have HK:=bP;have HB:=cw;have dH:=cW;clear bI bP cw cW;(try clear hb);(try clear hb2);(try clear hk);(try clear hi))|((with_reducible refine aT (f:=81) rfl ?_);refine cC (some 31) rfl rfl Tryz.func81 av rfl #[.string t190] rfl cY ?_;(with_reducible refine (cE.calls t190 t194 _ A15.out).mono ?_);rintro e w21 ⟨rfl,hb⟩;refine ⟨_,rfl,?_⟩;have bI:=ah.mk (aR (g:=kE) (o:= .cells #[.string (⟨#[]⟩:ByteArray),.string (⟨#[]⟩:ByteArray),.bool false] 30 (0,0)) pL hb);have bP:=ah.mk (ay.below wP hb);have cw:=ah.mk (bB.trans mA (bB.of_below hb g none) (.inl rfl));have cW:=ah.mk (az vV hb);clear gK;clear dH;clear HK;clear HB;have gK:=bI;have dH:=bP;have HK:=cw;have HB:=cW;clear bI bP cw cW;(try clear hb);(try clear hb2);(try clear hk);(try clear hi))|((with_reducible refine aT (f:=56) rfl ?_);refine cC (some 34) rfl rfl Tryz.func56 av rfl #[.pointer (some ⟨g,0,none⟩),.int .u8 93] rfl cY ?_;(with_reducible refine (bu.calls g t192 t193 93 true t196 t197 w0 _ ?bg ?bY A16.out).mono ?_);(case bg=>repeat (first|(with_reducible first|exact dH.out|apply ay.alloc|apply ay.drewN|apply ay.drew|apply ay.fS|apply ay.fP|refine ay.far ?_ mC.out _)|exact dH.out));(case bY=>repeat (first|(with_reducible first|exact HB.out|apply aD|apply aM|apply bq|refine bp ?_ (ay.ge dH.out)|refine bp ?_ yL.out)|exact HB.out));rintro e IC ⟨rfl,hi,hb,hk⟩;refine ⟨_,rfl,?_⟩;have bI:=ah.mk (bB.blk hk (g':=kE) (o:= .cells #[.string (⟨#[]⟩:ByteArray),.string (⟨#[]⟩:ByteArray),.bool false] 30 (0,0)) pL nN.out bf);have bP:=ah.mk (bB.trans mA hk (.inl rfl));have cw:=ah.mk (hb);have cW:=ah.mk (hi);clear gK;clear HK;clear HB;clear dH;have gK:=bI;have HK:=bP;have HB:=cw;have dH:=cW;clear bI bP cw cW;(try clear hb);(try clear hb2);(try clear hk);(try clear hi))|(go_at_call 27;(with_reducible refine (bZ.calls ER t190 t198 _ ?bg A18.out).mono ?_);(case bg=>exact aW.below HG.out vV);rintro e NI ⟨rfl,hb⟩;have bI:=ah.mk (aR (g:=kE) (o:= .cells #[.string (⟨#[]⟩:ByteArray),.string (⟨#[]⟩:ByteArray),.bool false] 30 (0,0)) pL hb);have bP:=ah.mk (ay.below wP hb);have cw:=ah.mk (bB.trans mA (bB.of_below hb g none) (.inl rfl));have cW:=ah.mk (az vV hb);clear gK;clear dH;clear HK;clear HB;have gK:=bI;have dH:=bP;have HK:=cw;have HB:=cW;clear bI bP cw cW;(try clear hb);(try clear hb2);(try clear hk);(try clear hi);have afU:=nN.out;have afV:=mC.out;have vC:NI.cell? ⟨kE,0,none⟩=some (.string (⟨#[]⟩:ByteArray)):=(af gK.out 0).trans rfl;have vD:NI.cell? ⟨kE,1,none⟩=some (.string (⟨#[]⟩:ByteArray)):=(af gK.out 1).trans rfl;have vE:NI.cell? ⟨kE,2,none⟩=some (.bool false):=(af gK.out 2).trans rfl;have vF:=aa gK.out 0;have vG:=aa gK.out 1;have vH:=aa gK.out 2))
      refine bodyPost_ret (dm rfl _ _ kE 30 #[.string t180,.string t194,.bool true] (0,0) _ rfl Wp Tryz.underlying30 rfl av) rfl ?_
      exact ⟨cU,wP,vV,mA⟩
     ·replace c17:=Bool.eq_false_iff.mpr c17
      subst c17
      have H1:(some (t180,t194,true,false,t196,t197))=some (r1,r2,r3,r4,r5,r6):=by rw [if_neg (show ¬ (false=true) by decide)] at H;exact H
      clear H
      have H:=H1
      clear H1
      simp only [Option.some.injEq,Prod.mk.injEq] at H
      obtain ⟨rfl,rfl,rfl,rfl,rfl,rfl⟩:=H
      go_wp2_with (first|((with_reducible refine aT (f:=56) rfl ?_);refine cC (some 23) rfl rfl Tryz.func56 av rfl #[.pointer (some ⟨g,0,none⟩),.int .u8 91] rfl cY ?_;(with_reducible refine (bu.calls g vR vS 91 true t188 t189 w0 _ ?bg ?bY MH.out).mono ?_);(case bg=>repeat (first|(with_reducible first|exact dH.out|apply ay.alloc|apply ay.drewN|apply ay.drew|apply ay.fS|apply ay.fP|refine ay.far ?_ mC.out _)|exact dH.out));(case bY=>repeat (first|(with_reducible first|exact HB.out|apply aD|apply aM|apply bq|refine bp ?_ (ay.ge dH.out)|refine bp ?_ yL.out)|exact HB.out));rintro e BF ⟨rfl,hi,hb,hk⟩;refine ⟨_,rfl,?_⟩;have bI:=ah.mk (bB.blk hk (g':=kE) (o:= .cells #[.string (⟨#[]⟩:ByteArray),.string (⟨#[]⟩:ByteArray),.bool false] 30 (0,0)) pL nN.out bf);have bP:=ah.mk (bB.trans mA hk (.inl rfl));have cw:=ah.mk (hb);have cW:=ah.mk (hi);clear gK;clear HK;clear HB;clear dH;have gK:=bI;have HK:=bP;have HB:=cw;have dH:=cW;clear bI bP cw cW;(try clear hb);(try clear hb2);(try clear hk);(try clear hi))|((with_reducible refine aT (f:=119) rfl ?_);refine cC (some 26) rfl rfl Tryz.func119 av rfl #[.pointer (some ⟨g,0,none⟩),.func (.func 124) #[] #[]] rfl cY ?_;(with_reducible refine (aN.calls ER g t188 t189 t190 t191 t192 t193 w0 _ ?bg ?bY W7.out).mono ?_);(case bg=>repeat (first|(with_reducible first|exact dH.out|apply ay.alloc|apply ay.drewN|apply ay.drew|apply ay.fS|apply ay.fP|refine ay.far ?_ mC.out _)|exact dH.out));(case bY=>repeat (first|(with_reducible first|exact HB.out|apply aD|apply aM|apply bq|refine bp ?_ (ay.ge dH.out)|refine bp ?_ yL.out)|exact HB.out));rintro e Y9 ⟨rfl,hi,hb,hk⟩;refine ⟨_,rfl,?_⟩;have bI:=ah.mk (bB.blk hk (g':=kE) (o:= .cells #[.string (⟨#[]⟩:ByteArray),.string (⟨#[]⟩:ByteArray),.bool false] 30 (0,0)) pL nN.out bf);have bP:=ah.mk (bB.trans mA hk (.inl rfl));have cw:=ah.mk (hb);have cW:=ah.mk (hi);clear gK;clear HK;clear HB;clear dH;have gK:=bI;have HK:=bP;have HB:=cw;have dH:=cW;clear bI bP cw cW;(try clear hb);(try clear hb2);(try clear hk);(try clear hi))|((with_reducible refine aT (f:=81) rfl ?_);refine cC (some 31) rfl rfl Tryz.func81 av rfl #[.string t190] rfl cY ?_;(with_reducible refine (cE.calls t190 t194 _ A15.out).mono ?_);rintro e w28 ⟨rfl,hb⟩;refine ⟨_,rfl,?_⟩;have bI:=ah.mk (aR (g:=kE) (o:= .cells #[.string (⟨#[]⟩:ByteArray),.string (⟨#[]⟩:ByteArray),.bool false] 30 (0,0)) pL hb);have bP:=ah.mk (ay.below wP hb);have cw:=ah.mk (bB.trans mA (bB.of_below hb g none) (.inl rfl));have cW:=ah.mk (az vV hb);clear gK;clear dH;clear HK;clear HB;have gK:=bI;have dH:=bP;have HK:=cw;have HB:=cW;clear bI bP cw cW;(try clear hb);(try clear hb2);(try clear hk);(try clear hi))|((with_reducible refine aT (f:=56) rfl ?_);refine cC (some 34) rfl rfl Tryz.func56 av rfl #[.pointer (some ⟨g,0,none⟩),.int .u8 93] rfl cY ?_;(with_reducible refine (bu.calls g t192 t193 93 false t196 t197 w0 _ ?bg ?bY A16.out).mono ?_);(case bg=>repeat (first|(with_reducible first|exact dH.out|apply ay.alloc|apply ay.drewN|apply ay.drew|apply ay.fS|apply ay.fP|refine ay.far ?_ mC.out _)|exact dH.out));(case bY=>repeat (first|(with_reducible first|exact HB.out|apply aD|apply aM|apply bq|refine bp ?_ (ay.ge dH.out)|refine bp ?_ yL.out)|exact HB.out));rintro e w29 ⟨rfl,hi,hb,hk⟩;refine ⟨_,rfl,?_⟩;have bI:=ah.mk (bB.blk hk (g':=kE) (o:= .cells #[.string (⟨#[]⟩:ByteArray),.string (⟨#[]⟩:ByteArray),.bool false] 30 (0,0)) pL nN.out bf);have bP:=ah.mk (bB.trans mA hk (.inl rfl));have cw:=ah.mk (hb);have cW:=ah.mk (hi);clear gK;clear HK;clear HB;clear dH;have gK:=bI;have HK:=bP;have HB:=cw;have dH:=cW;clear bI bP cw cW;(try clear hb);(try clear hb2);(try clear hk);(try clear hi);have ab5:=nN.out;have ab6:=mC.out;have vN:w29.cell? ⟨kE,0,none⟩=some (.string (⟨#[]⟩:ByteArray)):=(af gK.out 0).trans rfl;have vO:w29.cell? ⟨kE,1,none⟩=some (.string (⟨#[]⟩:ByteArray)):=(af gK.out 1).trans rfl;have xP:w29.cell? ⟨kE,2,none⟩=some (.bool false):=(af gK.out 2).trans rfl;have vP:=aa gK.out 0;have vQ:=aa gK.out 1;have xQ:=aa gK.out 2))
      refine bodyPost_ret (dm rfl _ _ kE 30 #[.string t180,.string t194,.bool true] (0,0) _ rfl Wp Tryz.underlying30 rfl av) rfl ?_
      exact ⟨cU,wP,vV,mA⟩
    ·replace c13:=Bool.eq_false_iff.mpr c13
     subst c13
     have H1:((ck.f ER t188 t189).bind fun qF=>(some (t180,qF.1,false,qF.2.1,qF.2.2.1,qF.2.2.2)))=some (r1,r2,r3,r4,r5,r6):=by rw [if_neg (show ¬ (false=true) by decide)] at H;exact H
     clear H
     have H:=H1
     clear H1
     replace H:=Option.bind_eq_some_iff.mp H
     obtain ⟨⟨t199,t200,t201,t202⟩,Xn,H⟩:=H
     replace H:(some (t180,t199,false,t200,t201,t202))=some (r1,r2,r3,r4,r5,r6):=H
     have A32:=ah.mk Xn
     clear Xn
     simp only [Option.some.injEq,Prod.mk.injEq] at H
     obtain ⟨rfl,rfl,rfl,rfl,rfl,rfl⟩:=H
     go_wp2_with (first|((with_reducible refine aT (f:=56) rfl ?_);refine cC (some 23) rfl rfl Tryz.func56 av rfl #[.pointer (some ⟨g,0,none⟩),.int .u8 91] rfl cY ?_;(with_reducible refine (bu.calls g vR vS 91 false t188 t189 w0 _ ?bg ?bY MH.out).mono ?_);(case bg=>repeat (first|(with_reducible first|exact dH.out|apply ay.alloc|apply ay.drewN|apply ay.drew|apply ay.fS|apply ay.fP|refine ay.far ?_ mC.out _)|exact dH.out));(case bY=>repeat (first|(with_reducible first|exact HB.out|apply aD|apply aM|apply bq|refine bp ?_ (ay.ge dH.out)|refine bp ?_ yL.out)|exact HB.out));rintro e FJ ⟨rfl,hi,hb,hk⟩;refine ⟨_,rfl,?_⟩;have bI:=ah.mk (bB.blk hk (g':=kE) (o:= .cells #[.string (⟨#[]⟩:ByteArray),.string (⟨#[]⟩:ByteArray),.bool false] 30 (0,0)) pL nN.out bf);have bP:=ah.mk (bB.trans mA hk (.inl rfl));have cw:=ah.mk (hb);have cW:=ah.mk (hi);clear gK;clear HK;clear HB;clear dH;have gK:=bI;have HK:=bP;have HB:=cw;have dH:=cW;clear bI bP cw cW;(try clear hb);(try clear hb2);(try clear hk);(try clear hi))|((with_reducible refine aT (f:=80) rfl ?_);refine cC (some 41) rfl rfl Tryz.func80 av rfl #[.pointer (some ⟨g,0,none⟩)] rfl cY ?_;(with_reducible refine (ck.calls ER g t188 t189 t199 t200 t201 t202 w0 _ ?bg ?bY A32.out).mono ?_);(case bg=>repeat (first|(with_reducible first|exact dH.out|apply ay.alloc|apply ay.drewN|apply ay.drew|apply ay.fS|apply ay.fP|refine ay.far ?_ mC.out _)|exact dH.out));(case bY=>repeat (first|(with_reducible first|exact HB.out|apply aD|apply aM|apply bq|refine bp ?_ (ay.ge dH.out)|refine bp ?_ yL.out)|exact HB.out));rintro e VU ⟨rfl,hi,hb,hk⟩;refine ⟨_,rfl,?_⟩;have bI:=ah.mk (bB.blk hk (g':=kE) (o:= .cells #[.string (⟨#[]⟩:ByteArray),.string (⟨#[]⟩:ByteArray),.bool false] 30 (0,0)) pL nN.out bf);have bP:=ah.mk (bB.trans mA hk (.inl rfl));have cw:=ah.mk (hb);have cW:=ah.mk (hi);clear gK;clear HK;clear HB;clear dH;have gK:=bI;have HK:=bP;have HB:=cw;have dH:=cW;clear bI bP cw cW;(try clear hb);(try clear hb2);(try clear hk);(try clear hi);have aqs:=nN.out;have aqt:=mC.out;have Cw:VU.cell? ⟨kE,0,none⟩=some (.string (⟨#[]⟩:ByteArray)):=(af gK.out 0).trans rfl;have Cx:VU.cell? ⟨kE,1,none⟩=some (.string (⟨#[]⟩:ByteArray)):=(af gK.out 1).trans rfl;have Cy:VU.cell? ⟨kE,2,none⟩=some (.bool false):=(af gK.out 2).trans rfl;have Cz:=aa gK.out 0;have CC:=aa gK.out 1;have CD:=aa gK.out 2))
     refine bodyPost_ret (dm rfl _ _ kE 30 #[.string t180,.string t199,.bool false] (0,0) _ rfl (by (with_reducible repeat (first|refine aK ?_ _|refine aV ?_|refine aJ ?_ _));refine cj (cs:=#[.string t180,.string t199,.bool false]) ?_ 2 _ rfl;(with_reducible repeat (first|refine aK ?_ _|refine aV ?_|refine aJ ?_ _));refine cj (cs:=#[.string t180,.string (⟨#[]⟩:ByteArray),.bool false]) ?_ 1 _ rfl;(with_reducible repeat (first|refine aK ?_ _|refine aV ?_|refine aJ ?_ _));refine cj (cs:=#[.string (⟨#[]⟩:ByteArray),.string (⟨#[]⟩:ByteArray),.bool false]) ?_ 0 _ rfl;(with_reducible repeat (first|refine aK ?_ _|refine aV ?_|refine aJ ?_ _));exact gK.out) Tryz.underlying30 rfl av) rfl ?_
     exact ⟨cU,wP,vV,mA⟩
def eJ.f (k:Nat) (aI:ByteArray) (bh:ByteArray) (bn:Bool):Option (Bool):=if (aI.size:Int)≤64 then (if bn=true then (some true) else ((eX.f k bh).bind fun t204=>(some t204))) else (some false)
theorem eJ.mono:∀ a0 a1 a2 k,cN (eJ.f k a0 a1 a2) (eJ.f (k + 1) a0 a1 a2):=by
 intro a0 a1 a2 k
 unfold eJ.f
 repeat' first
  |(with_reducible exact eX.mono _ _)
  |(with_reducible exact cN.refl _)
  |(with_reducible exact cN.none _)
  |(with_reducible refine cN.ite ?_ ?_)
  |(with_reducible refine cN.bind ?_ (fun _ =>?_))
  |refine cN.ite ?_ ?_
  |refine cN.bind ?_ (fun _ =>?_)
theorem eJ.calls (k:Nat) (aI:ByteArray) (bh:ByteArray) (bn:Bool) (r:Bool) (w:World) (hG:aW w) (h:eJ.f k aI bh bn=some r):
 Calls Tryz.prog 58 #[.agg #[.string aI,.string bh,.bool bn]] w fun e w'=>e= .returned (.bool r)∧Below w.heap.size w w':=by
 have M4:=Tryz.underlying30
 have HB:=ah.mk (Below.refl w.heap.size w)
 have HG:=ah.mk hG
 clear hG
 have H:(if (aI.size:Int)≤64 then (if bn=true then (some true) else ((eX.f k bh).bind fun t204=>(some t204))) else (some false))=some r:=h
 clear h
 by_cases c2:(aI.size:Int)≤64
 ·rw [if_pos c2] at H
  have Dw:decide ((aI.size:Int)≤64)=true:=decide_eq_true c2
  have P8:decide (aI.size≤64)=true:=decide_eq_true aq
  clear c2
  by_cases c3:bn=true
  ·subst c3
   have H1:(some true)=some r:=by rw [if_pos rfl] at H;exact H
   clear H
   have H:=H1
   clear H1
   obtain rfl:=Option.some.inj H
   go_enter Tryz.func58,Tryz.ntmps58
   go_wp2_with (first|((with_reducible refine cK (N:=1) rfl ?_);refine cu ?hg (N:=1) ?hd (cs:=#[.string aI,.string bh,.bool true]) (t:=30) ?hr ?_;(case hd=>rfl);(case hg=>rfl);(case hr=>first|(go_simp;done)|(go_simp;rfl));intro qX hg w4 cM hb;have bI:=ah.mk (az cA hb);have bP:=ah.mk (cM);have cw:=ah.mk ((dW:w.heap.size≤qX));have cW:=ah.mk ((dW:w.heap.size≤qX));clear HB;have HB:=bI;have nU:=bP;have ab7:=cw;have Wq:=cW;clear bI bP cw cW;clear hb cM hg;have Ls:w4.cell? ⟨qX,0,none⟩=some (.string aI):=(af nU.out 0).trans rfl;have Lt:w4.cell? ⟨qX,1,none⟩=some (.string bh):=(af nU.out 1).trans rfl;have Qh:w4.cell? ⟨qX,2,none⟩=some (.bool true):=(af nU.out 2).trans rfl;have Lu:=aa nU.out 0;have Lv:=aa nU.out 1;have Qi:=aa nU.out 2))
   go_ret
   exact ⟨cU,Gp⟩
  ·replace c3:=Bool.eq_false_iff.mpr c3
   subst c3
   have H1:((eX.f k bh).bind fun t204=>(some t204))=some r:=by rw [if_neg (show ¬ (false=true) by decide)] at H;exact H
   clear H
   have H:=H1
   clear H1
   replace H:=Option.bind_eq_some_iff.mp H
   obtain ⟨t204,yF,H⟩:=H
   replace H:(some t204)=some r:=H
   have A6:=ah.mk yF
   clear yF
   obtain rfl:=Option.some.inj H
   go_enter Tryz.func58,Tryz.ntmps58
   go_wp2_with (first|((with_reducible refine cK (N:=1) rfl ?_);refine cu ?hg (N:=1) ?hd (cs:=#[.string aI,.string bh,.bool false]) (t:=30) ?hr ?_;(case hd=>rfl);(case hg=>rfl);(case hr=>first|(go_simp;done)|(go_simp;rfl));intro qX hg w7 cM hb;have bI:=ah.mk (az cA hb);have bP:=ah.mk (cM);have cw:=ah.mk ((dW:w.heap.size≤qX));have cW:=ah.mk ((dW:w.heap.size≤qX));clear HB;have HB:=bI;have nU:=bP;have ab7:=cw;have Wq:=cW;clear bI bP cw cW;clear hb cM hg;have yT:w7.cell? ⟨qX,0,none⟩=some (.string aI):=(af nU.out 0).trans rfl;have yU:w7.cell? ⟨qX,1,none⟩=some (.string bh):=(af nU.out 1).trans rfl;have Du:w7.cell? ⟨qX,2,none⟩=some (.bool false):=(af nU.out 2).trans rfl;have yV:=aa nU.out 0;have yX:=aa nU.out 1;have Dv:=aa nU.out 2)|(go_at_call 61;(with_reducible refine (eX.calls k bh t204 _ ?bg A6.out).mono ?_);(case bg=>exact aW.below HG.out Gp);rintro e w9 ⟨rfl,hb⟩;have bI:=ah.mk (aR (g:=qX) (o:= .cells #[.string aI,.string bh,.bool false] 30 (0,0)) (by (with_reducible repeat (first|refine aK ?_ _|refine aV ?_|refine aJ ?_ _));exact nU.out) hb);have bP:=ah.mk (az Gp hb);clear nU;clear HB;have nU:=bI;have HB:=bP;clear bI bP;(try clear hb);(try clear hb2);(try clear hk);(try clear hi)))
   go_ret
   exact ⟨cU,Gp⟩
 ·rw [if_neg c2] at H
  have Dw:decide ((aI.size:Int)≤64)=false:=decide_eq_false c2
  have P8:decide (aI.size≤64)=false:=decide_eq_false aq
  clear c2
  obtain rfl:=Option.some.inj H
  go_enter Tryz.func58,Tryz.ntmps58
  go_wp2_with (first|((with_reducible refine cK (N:=1) rfl ?_);refine cu ?hg (N:=1) ?hd (cs:=#[.string aI,.string bh,.bool bn]) (t:=30) ?hr ?_;(case hd=>rfl);(case hg=>rfl);(case hr=>first|(go_simp;done)|(go_simp;rfl));intro qX hg vI cM hb;have bI:=ah.mk (az cA hb);have bP:=ah.mk (cM);have cw:=ah.mk ((dW:w.heap.size≤qX));have cW:=ah.mk ((dW:w.heap.size≤qX));clear HB;have HB:=bI;have nU:=bP;have ab7:=cw;have Wq:=cW;clear bI bP cw cW;clear hb cM hg;have uM:vI.cell? ⟨qX,0,none⟩=some (.string aI):=(af nU.out 0).trans rfl;have uN:vI.cell? ⟨qX,1,none⟩=some (.string bh):=(af nU.out 1).trans rfl;have uO:vI.cell? ⟨qX,2,none⟩=some (.bool bn):=(af nU.out 2).trans rfl;have uP:=aa nU.out 0;have uQ:=aa nU.out 1;have uR:=aa nU.out 2))
  go_ret
  exact ⟨cU,Gp⟩
def fZ.f (k:Nat) (a0:ByteArray):Option (Bool):=(eX.f k a0).bind fun t205=>(some (!t205))
theorem fZ.mono:∀ a0 k,cN (fZ.f k a0) (fZ.f (k + 1) a0):=by
 intro a0 k
 unfold fZ.f
 repeat' first
  |(with_reducible exact eX.mono _ _)
  |(with_reducible exact cN.refl _)
  |(with_reducible exact cN.none _)
  |(with_reducible refine cN.ite ?_ ?_)
  |(with_reducible refine cN.bind ?_ (fun _ =>?_))
  |refine cN.ite ?_ ?_
  |refine cN.bind ?_ (fun _ =>?_)
theorem fZ.calls (k:Nat) (a0:ByteArray) (r:Bool) (w:World) (hG:aW w) (h:fZ.f k a0=some r):
 Calls Tryz.prog 60 #[.string a0] w fun e w'=>e= .returned (.bool r)∧Below w.heap.size w w':=by
 have HB:=ah.mk (Below.refl w.heap.size w)
 have HG:=ah.mk hG
 clear hG
 have H:((eX.f k a0).bind fun t205=>(some (!t205)))=some r:=h
 clear h
 replace H:=Option.bind_eq_some_iff.mp H
 obtain ⟨t205,oL,H⟩:=H
 replace H:(some (!t205))=some r:=H
 have A2:=ah.mk oL
 clear oL
 obtain rfl:=Option.some.inj H
 go_enter Tryz.func60,Tryz.ntmps60
 go_wp2_with (first|((with_reducible refine aT (f:=61) rfl ?_);refine cC (some 4) rfl rfl Tryz.func61 av rfl #[.string a0] rfl cY ?_;(with_reducible refine (eX.calls k a0 t205 _ ?bg A2.out).mono ?_);(case bg=>exact aW.below HG.out cA);rintro e w3 ⟨rfl,hb⟩;refine ⟨_,rfl,?_⟩;have bI:=ah.mk (az cA hb);clear HB;have HB:=bI;clear bI;(try clear hb);(try clear hb2);(try clear hk);(try clear hi)))
 go_ret
 exact ⟨cU,cA⟩
def aG.l0:Nat→List ByteArray→Int→Int→Option (Int)
 | 0,_,_,_ =>none
 |k + 1,x0,x7,x8=>if x8 < x7 then (if 0≤x8 then (if x8 < (x0.length:Int) then ((fZ.f k (kG ByteArray.empty x0 x8)).bind fun t207=>(if t207=true then (some x8) else (aG.l0 k x0 x7 (wrap64 (x8 + 1))))) else (none)) else (none)) else (some (-1))
def aG.f (k:Nat) (l0:List ByteArray):Option (Int):=aG.l0 k l0 (l0.length:Int) 0
theorem aG.fU:∀ k,(∀ y0 y1 y2,cN (aG.l0 k y0 y1 y2) (aG.l0 (k + 1) y0 y1 y2))
 | 0=>fun _ _ _ r h=>by simp [aG.l0] at h
 |k + 1=>by
  have oK:=aG.fU k
  ·intro y0 y1 y2
   unfold aG.l0
   repeat' first
   |(with_reducible exact oK _ _ _)
   |(with_reducible exact fZ.mono _ _)
   |(with_reducible exact cN.refl _)
   |(with_reducible exact cN.none _)
   |(with_reducible refine cN.ite ?_ ?_)
   |(with_reducible refine cN.bind ?_ (fun _ =>?_))
   |refine cN.ite ?_ ?_
   |refine cN.bind ?_ (fun _ =>?_)
theorem aG.mono:∀ a0 k,cN (aG.f k a0) (aG.f (k + 1) a0):=by
 intro a0 k
 have oK:=aG.fU k
 unfold aG.f
 repeat' first
  |(with_reducible exact oK _ _ _)
  |(with_reducible exact fZ.mono _ _)
  |(with_reducible exact cN.refl _)
  |(with_reducible exact cN.none _)
  |(with_reducible refine cN.ite ?_ ?_)
  |(with_reducible refine cN.bind ?_ (fun _ =>?_))
  |refine cN.ite ?_ ?_
  |refine cN.bind ?_ (fun _ =>?_)
theorem aG.calls (k:Nat) (A0:Option Addr) (c0:Nat) (l0:List ByteArray) (r:Int) (w:World) (Bk:Kd.C Kd.string w A0 l0.length l0) (hc0:l0.length≤c0) (hG:aW w) (h:aG.f k l0=some r):
 Calls Tryz.prog 117 #[.slice A0 l0.length c0,.func (.func 60) #[] #[]] w fun e w'=>e= .returned (.int .i64 r)∧Below w.heap.size w w':=by
 have yI:=ah.mk Bk
 have S3:=ah.mk hc0
 clear Bk hc0
 have HB:=ah.mk (Below.refl w.heap.size w)
 have HG:=ah.mk hG
 clear hG
 have H:(aG.l0 k l0 (l0.length:Int) 0)=some r:=h
 clear h
 have H':=ah.mk H
 clear H
 go_enter Tryz.func117,Tryz.ntmps117
 go_wp2
 go_loopg [8] k (fun kq v8 w'=>∃ (eW:Int),v8= .int .i64 eW∧ah (aG.l0 kq l0 (l0.length:Int) eW=some r)∧ah (kq≤k)∧ah (Below w.heap.size w w'))
 case atStart=>exact ⟨(0),dL,H',⟨Nat.le_refl _⟩,⟨cA⟩⟩
 case round=>
  clear H'
  try clear c1
  try clear p2
  obtain ⟨eW,rfl,HA,wS,HB⟩:=hrel
  cases gk with
  |zero=>exact absurd HA.out (by simp [aG.l0])
  |succ k1=>
   have H:=HA.out
   clear HA
   simp only [aG.l0] at H
   by_cases c3:eW < (l0.length:Int)
   ·rw [if_pos c3] at H
    have rD:decide (eW < (l0.length:Int))=true:=decide_eq_true c3
    clear c3
    by_cases c4: 0≤eW
    ·rw [if_pos c4] at H
     have nP:decide (0≤eW)=true:=decide_eq_true c4
     clear c4
     by_cases c5:eW < (l0.length:Int)
     ·rw [if_pos c5] at H
      have vZ:decide (eW < (l0.length:Int))=true:=decide_eq_true c5
      clear c5
      replace H:=Option.bind_eq_some_iff.mp H
      obtain ⟨t207,yF,H⟩:=H
      replace H:(if t207=true then (some eW) else (aG.l0 k1 l0 (l0.length:Int) (wrap64 (eW + 1))))=some r:=H
      have A6:=ah.mk yF
      clear yF
      by_cases c7:t207=true
      ·subst c7
       have H1:(some eW)=some r:=by rw [if_pos rfl] at H;exact H
       clear H
       have H:=H1
       clear H1
       obtain rfl:=Option.some.inj H
       have Qj: 0≤(eW:Int):=of_decide_eq_true cO
       have Qk:eW < (l0.length:Int):=of_decide_eq_true cO
       obtain ⟨afW,adm,xR⟩:=Kd.jB yI.out eW Qj Qk
       cases adm
       replace xR:=(HB.out.cell (World.block_lt_of_cell? w _ xR)).trans xR
       replace Qj:=eq_true Qj
       replace Qk:=eq_true Qk
       go_wp2_with (first|(go_at_call 60;(with_reducible refine (fZ.calls k1 (kG ByteArray.empty l0 eW) true _ ?bg A6.out).mono ?_);(case bg=>exact aW.below HG.out cA);rintro e w8 ⟨rfl,hb⟩;have bI:=ah.mk (az cA hb);clear HB;have HB:=bI;clear bI;(try clear hb);(try clear hb2);(try clear hk);(try clear hi)))
       go_ret
       exact ⟨cU,cA⟩
      ·replace c7:=Bool.eq_false_iff.mpr c7
       subst c7
       have H1:(aG.l0 k1 l0 (l0.length:Int) (wrap64 (eW + 1)))=some r:=by rw [if_neg (show ¬ (false=true) by decide)] at H;exact H
       clear H
       have H:=H1
       clear H1
       have H':=ah.mk H
       clear H
       have Qj: 0≤(eW:Int):=of_decide_eq_true cO
       have Qk:eW < (l0.length:Int):=of_decide_eq_true cO
       obtain ⟨afW,adm,xR⟩:=Kd.jB yI.out eW Qj Qk
       cases adm
       replace xR:=(HB.out.cell (World.block_lt_of_cell? w _ xR)).trans xR
       replace Qj:=eq_true Qj
       replace Qk:=eq_true Qk
       go_wp2_with (first|(go_at_call 60;(with_reducible refine (fZ.calls k1 (kG ByteArray.empty l0 eW) false _ ?bg A6.out).mono ?_);(case bg=>exact aW.below HG.out cA);rintro e w9 ⟨rfl,hb⟩;have bI:=ah.mk (az cA hb);clear HB;have HB:=bI;clear bI;(try clear hb);(try clear hb2);(try clear hk);(try clear hi)))
       go_roundg k1
       case measure=>have:=wS.out;omega
       case rel=>exact ⟨(wrap64 (eW + 1)),dL,H',⟨ko⟩,⟨cA⟩⟩
     ·rw [if_neg c5] at H
      exact absurd H bf
    ·rw [if_neg c4] at H
     exact absurd H bf
   ·rw [if_neg c3] at H
    have rD:decide (eW < (l0.length:Int))=false:=decide_eq_false c3
    clear c3
    obtain rfl:=Option.some.inj H
    go_wp2
    go_ret
    exact ⟨cU,cA⟩
def bC.f (k:Nat) (l0:List ByteArray):Option (Bool):=(aG.f k l0).bind fun t208=>(some (decide (t208≥0)))
theorem bC.mono:∀ a0 k,cN (bC.f k a0) (bC.f (k + 1) a0):=by
 intro a0 k
 unfold bC.f
 repeat' first
  |(with_reducible exact aG.mono _ _)
  |(with_reducible exact cN.refl _)
  |(with_reducible exact cN.none _)
  |(with_reducible refine cN.ite ?_ ?_)
  |(with_reducible refine cN.bind ?_ (fun _ =>?_))
  |refine cN.ite ?_ ?_
  |refine cN.bind ?_ (fun _ =>?_)
theorem bC.calls (k:Nat) (A0:Option Addr) (c0:Nat) (l0:List ByteArray) (r:Bool) (w:World) (Bk:Kd.C Kd.string w A0 l0.length l0) (hc0:l0.length≤c0) (hG:aW w) (h:bC.f k l0=some r):
 Calls Tryz.prog 59 #[.slice A0 l0.length c0,.func (.func 60) #[] #[]] w fun e w'=>e= .returned (.bool r)∧Below w.heap.size w w':=by
 have yI:=ah.mk Bk
 have S3:=ah.mk hc0
 clear Bk hc0
 have HB:=ah.mk (Below.refl w.heap.size w)
 have HG:=ah.mk hG
 clear hG
 have H:((aG.f k l0).bind fun t208=>(some (decide (t208≥0))))=some r:=h
 clear h
 replace H:=Option.bind_eq_some_iff.mp H
 obtain ⟨t208,zb,H⟩:=H
 replace H:(some (decide (t208≥0)))=some r:=H
 have A3:=ah.mk zb
 clear zb
 obtain rfl:=Option.some.inj H
 go_enter Tryz.func59,Tryz.ntmps59
 go_wp2_with (first|((with_reducible refine aT (f:=117) rfl ?_);refine cC (some 7) rfl rfl Tryz.func117 av rfl #[.slice A0 l0.length c0,.func (.func 60) #[] #[]] rfl cY ?_;(with_reducible refine (aG.calls k _ _ l0 t208 _ ?bg ?bY ?eI A3.out).mono ?_);(case bg=>repeat (first|exact yI.out|(with_reducible refine Kd.dZ ?_ _)|(with_reducible refine Kd.eo ?_ _)|(with_reducible refine Kd.eZ ?_)));(case bY=>exact S3.out);(case eI=>exact aW.below HG.out cA);rintro e w4 ⟨rfl,hb⟩;refine ⟨_,rfl,?_⟩;have bI:=ah.mk (az cA hb);clear HB;have HB:=bI;clear bI;(try clear hb);(try clear hb2);(try clear hk);(try clear hi)))
 go_ret
 exact ⟨cU,cA⟩
end Go.Proofs.YtokpnfljjjjikaaGreatDoor.n9
