import Derived.Test.YtokpnfljjjjikaaGreatDoorEInner
namespace Go.Proofs.YtokpnfljjjjikaaGreatDoor.n9
open Go.RowKit Go.Proofs.aj.bQ Go.Proofs.aj.gf Go.Proofs.aj.cT
attribute [local go_sem] jt iY kQ kJ iJ iK ju jv
set_option linter.unusedVariables false
set_option linter.unusedSimpArgs false
def bU.j0:Nat→Bool→ByteArray→Int→Bool→List ByteArray→ByteArray→ByteArray→Bool→Option (Bool×List ByteArray×ByteArray×ByteArray×Bool×Int×Int)
 | 0,_,_,_,_,_,_,_,_ =>none
 |k + 1,x22,ajK,aac,aad,Lx,Tj,Tk,Tm=>if x22=true then (some (false,([]:List ByteArray),(⟨#[]⟩:ByteArray),(⟨#[]⟩:ByteArray),false,0,150)) else ((eJ.f k Tj Tk Tm).bind fun t229=>(if t229=true then (if (Lx.length:Int) > 20 then (some (false,([]:List ByteArray),(⟨#[]⟩:ByteArray),(⟨#[]⟩:ByteArray),false,0,3)) else ((bC.f k Lx).bind fun t230=>(if t230=true then (some (false,([]:List ByteArray),(⟨#[]⟩:ByteArray),(⟨#[]⟩:ByteArray),false,0,3)) else (some (aad,Lx,Tj,Tk,Tm,aac,0))))) else (some (false,([]:List ByteArray),(⟨#[]⟩:ByteArray),(⟨#[]⟩:ByteArray),false,0,3))))
def bU.f (k:Nat) (a0:ByteArray):Option (Bool×List ByteArray×ByteArray×ByteArray×Bool×Int×Int):=(strings_HasPrefix.f a0 (⟨#[60,62]⟩:ByteArray)).bind fun t210=>(if t210=true then (some (true,([]:List ByteArray),(⟨#[]⟩:ByteArray),(⟨#[]⟩:ByteArray),false,2,0)) else ((bu.f a0 0 60).bind fun uh=>((dh.f k uh.2.1 uh.2.2).bind fun dG=>(if uh.1=true then (if dG.2.2.2.2.2.1=true then ((bu.f dG.2.2.2.2.2.2.1 dG.2.2.2.2.2.2.2 62).bind fun kY=>(bU.j0 k (!kY.1) kY.2.1 kY.2.2 dG.1 dG.2.1 dG.2.2.1 dG.2.2.2.1 dG.2.2.2.2.1)) else (bU.j0 k true dG.2.2.2.2.2.2.1 dG.2.2.2.2.2.2.2 dG.1 dG.2.1 dG.2.2.1 dG.2.2.2.1 dG.2.2.2.2.1)) else (bU.j0 k true dG.2.2.2.2.2.2.1 dG.2.2.2.2.2.2.2 dG.1 dG.2.1 dG.2.2.1 dG.2.2.2.1 dG.2.2.2.2.1)))))
theorem bU.fU:∀ k,(∀ y0 y1 y2 y3 y4 y5 y6 y7,cN (bU.j0 k y0 y1 y2 y3 y4 y5 y6 y7) (bU.j0 (k + 1) y0 y1 y2 y3 y4 y5 y6 y7))
 | 0=>fun _ _ _ _ _ _ _ _ r h=>by simp [bU.j0] at h
 |k + 1=>by
  have oK:=bU.fU k
  ·intro y0 y1 y2 y3 y4 y5 y6 y7
   unfold bU.j0
   repeat' first
   |(with_reducible exact oK _ _ _ _ _ _ _ _)
   |(with_reducible exact dh.mono _ _ _)
   |(with_reducible exact eJ.mono _ _ _ _)
   |(with_reducible exact bC.mono _ _)
   |(with_reducible exact cN.refl _)
   |(with_reducible exact cN.none _)
   |(with_reducible refine cN.ite ?_ ?_)
   |(with_reducible refine cN.bind ?_ (fun _ =>?_))
   |refine cN.ite ?_ ?_
   |refine cN.bind ?_ (fun _ =>?_)
theorem bU.mono:∀ a0 k,cN (bU.f k a0) (bU.f (k + 1) a0):=by
 intro a0 k
 have oK:=bU.fU k
 unfold bU.f
 repeat' first
  |(with_reducible exact oK _ _ _ _ _ _ _ _)
  |(with_reducible exact dh.mono _ _ _)
  |(with_reducible exact eJ.mono _ _ _ _)
  |(with_reducible exact bC.mono _ _)
  |(with_reducible exact cN.refl _)
  |(with_reducible exact cN.none _)
  |(with_reducible refine cN.ite ?_ ?_)
  |(with_reducible refine cN.bind ?_ (fun _ =>?_))
  |refine cN.ite ?_ ?_
  |refine cN.bind ?_ (fun _ =>?_)
def bU.T10:Bool×List (List Nat×List Nat):=(true,[([],[]),([],[]),([1],[1]),([2],[2]),([3],[3]),([0,0],[0]),([4,5,0,1,2,3,4,5],[4]),([6,0,1,2,3,4,5,6],[])])
def bU.B10:List Nat:=[0,0,2,6,14,1,63,127]
theorem bU.af0:tA .any (opsOf Tryz.f17 10)=bU.T10:=by kernel_rfl
theorem bU.ado:uC bU.T10.2 bU.B10=true:=by kernel_rfl
set_option maxHeartbeats 8000000 in
set_option maxRecDepth 100000 in
theorem bU.calls (k:Nat) (a0:ByteArray) (r1:Bool) (r2:List ByteArray) (r3:ByteArray) (r4:ByteArray) (r5:Bool) (r6:Int) (r7:Int) (w:World) (hG:aW w) (h:bU.f k a0=some (r1,r2,r3,r4,r5,r6,r7)):
 Calls Tryz.prog 17 #[.string a0] w fun e w'=>∃ Ti:Value,e= .returned (.tuple #[.agg #[.bool r1,Ti,.string r3,.string r4,.bool r5],.int .i64 r6,.int .i64 r7])∧Kd.R Kd.string 9 w' w.heap.size (fun _ =>True) Ti r2∧Below w.heap.size w w':=by
 have M3:=Tryz.underlying32
 have aoj:=Tryz.underlying82
 have M4:=Tryz.underlying30
 have HB:=ah.mk (Below.refl w.heap.size w)
 have HG:=ah.mk hG
 clear hG
 have H:((strings_HasPrefix.f a0 (⟨#[60,62]⟩:ByteArray)).bind fun t210=>(if t210=true then (some (true,([]:List ByteArray),(⟨#[]⟩:ByteArray),(⟨#[]⟩:ByteArray),false,2,0)) else ((bu.f a0 0 60).bind fun uh=>((dh.f k uh.2.1 uh.2.2).bind fun dG=>(if uh.1=true then (if dG.2.2.2.2.2.1=true then ((bu.f dG.2.2.2.2.2.2.1 dG.2.2.2.2.2.2.2 62).bind fun kY=>(bU.j0 k (!kY.1) kY.2.1 kY.2.2 dG.1 dG.2.1 dG.2.2.1 dG.2.2.2.1 dG.2.2.2.2.1)) else (bU.j0 k true dG.2.2.2.2.2.2.1 dG.2.2.2.2.2.2.2 dG.1 dG.2.1 dG.2.2.1 dG.2.2.2.1 dG.2.2.2.2.1)) else (bU.j0 k true dG.2.2.2.2.2.2.1 dG.2.2.2.2.2.2.2 dG.1 dG.2.1 dG.2.2.1 dG.2.2.2.1 dG.2.2.2.2.1))))))=some (r1,r2,r3,r4,r5,r6,r7):=h
 clear h
 replace H:=Option.bind_eq_some_iff.mp H
 obtain ⟨t210,oL,H⟩:=H
 replace H:(if t210=true then (some (true,([]:List ByteArray),(⟨#[]⟩:ByteArray),(⟨#[]⟩:ByteArray),false,2,0)) else ((bu.f a0 0 60).bind fun uh=>((dh.f k uh.2.1 uh.2.2).bind fun dG=>(if uh.1=true then (if dG.2.2.2.2.2.1=true then ((bu.f dG.2.2.2.2.2.2.1 dG.2.2.2.2.2.2.2 62).bind fun kY=>(bU.j0 k (!kY.1) kY.2.1 kY.2.2 dG.1 dG.2.1 dG.2.2.1 dG.2.2.2.1 dG.2.2.2.2.1)) else (bU.j0 k true dG.2.2.2.2.2.2.1 dG.2.2.2.2.2.2.2 dG.1 dG.2.1 dG.2.2.1 dG.2.2.2.1 dG.2.2.2.2.1)) else (bU.j0 k true dG.2.2.2.2.2.2.1 dG.2.2.2.2.2.2.2 dG.1 dG.2.1 dG.2.2.1 dG.2.2.2.1 dG.2.2.2.2.1)))))=some (r1,r2,r3,r4,r5,r6,r7):=H
 have A2:=ah.mk oL
 clear oL
 by_cases c3:t210=true
 ·subst c3
  have H1:(some (true,([]:List ByteArray),(⟨#[]⟩:ByteArray),(⟨#[]⟩:ByteArray),false,2,0))=some (r1,r2,r3,r4,r5,r6,r7):=by rw [if_pos rfl] at H;exact H
  clear H
  have H:=H1
  clear H1
  simp only [Option.some.injEq,Prod.mk.injEq] at H
  obtain ⟨rfl,rfl,rfl,rfl,rfl,rfl,rfl⟩:=H
  go_enter Tryz.func17,Tryz.ntmps17
  go_wp2_with (first|((with_reducible refine cK (N:=2) rfl ?_);(try (refine eu (by rfl) ?_;dsimp only));refine cu ?hg (N:=2) ?hd (cs:=#[.bool false,.slice none 0 0,.string (⟨#[]⟩:ByteArray),.string (⟨#[]⟩:ByteArray),.bool false]) (t:=32) ?hr ?_;(case hd=>rfl);(case hg=>rfl);(case hr=>first|(go_simp;done)|(go_simp;rfl));intro dX hg w4 cM hb;have bI:=ah.mk (az cA hb);have bP:=ah.mk (cM);have cw:=ah.mk ((dW:w.heap.size≤dX));have cW:=ah.mk ((dW:w.heap.size≤dX));clear HB;have HB:=bI;have dS:=bP;have af1:=cw;have AR:=cW;clear bI bP cw cW;clear hb cM hg)|((with_reducible refine aT (f:=37) rfl ?_);refine cC (some 10) rfl rfl Tryz.func37 av rfl #[.string a0,.string (⟨#[60,62]⟩:ByteArray)] rfl cY ?_;(with_reducible refine (strings_HasPrefix.calls a0 (⟨#[60,62]⟩:ByteArray) true _ A2.out).mono ?_);rintro e w' ⟨rfl,⟨nd,rfl⟩⟩;refine ⟨_,rfl,?_⟩;(try (rw [GF w4];generalize hq_:World.drewN w4 _=w4;have bI:ah (w4.heap[dX]? =some (.cells #[.bool false,.slice none 0 0,.string (⟨#[]⟩:ByteArray),.string (⟨#[]⟩:ByteArray),.bool false] 32 (0,0))):=⟨RF⟩;have bP:ah (Below w.heap.size w w4):=⟨Rz⟩;clear dS HB hq_;have dS:=bI;have HB:=bP;clear bI bP));have Ls:w4.cell? ⟨dX,0,none⟩=some (.bool false):=(af dS.out 0).trans rfl;have Lt:w4.cell? ⟨dX,1,none⟩=some (.slice none 0 0):=(af dS.out 1).trans rfl;have Qh:w4.cell? ⟨dX,2,none⟩=some (.string (⟨#[]⟩:ByteArray)):=(af dS.out 2).trans rfl;have XD:w4.cell? ⟨dX,3,none⟩=some (.string (⟨#[]⟩:ByteArray)):=(af dS.out 3).trans rfl;have XE:w4.cell? ⟨dX,4,none⟩=some (.bool false):=(af dS.out 4).trans rfl;have Lu:=aa dS.out 0;have Lv:=aa dS.out 1;have Qi:=aa dS.out 2;have XF:=aa dS.out 3;have XG:=aa dS.out 4))
  refine bodyPost_ret (pS rfl _ _ dX 32 #[.bool true,.slice none 0 0,.string (⟨#[]⟩:ByteArray),.string (⟨#[]⟩:ByteArray),.bool false] (0,0) _ rfl (by (with_reducible repeat (first|refine aK ?_ _|refine aV ?_|refine aJ ?_ _));refine cj (cs:=#[.bool true,.slice none 0 0,.string (⟨#[]⟩:ByteArray),.string (⟨#[]⟩:ByteArray),.bool false]) ?_ 4 _ rfl;(with_reducible repeat (first|refine aK ?_ _|refine aV ?_|refine aJ ?_ _));refine cj (cs:=#[.bool true,.slice none 0 0,.string (⟨#[]⟩:ByteArray),.string (⟨#[]⟩:ByteArray),.bool false]) ?_ 3 _ rfl;(with_reducible repeat (first|refine aK ?_ _|refine aV ?_|refine aJ ?_ _));refine cj (cs:=#[.bool true,.slice none 0 0,.string (⟨#[]⟩:ByteArray),.string (⟨#[]⟩:ByteArray),.bool false]) ?_ 2 _ rfl;(with_reducible repeat (first|refine aK ?_ _|refine aV ?_|refine aJ ?_ _));refine cj (cs:=#[.bool true,.slice none 0 0,.string (⟨#[]⟩:ByteArray),.string (⟨#[]⟩:ByteArray),.bool false]) ?_ 1 _ rfl;(with_reducible repeat (first|refine aK ?_ _|refine aV ?_|refine aJ ?_ _));refine cj (cs:=#[.bool false,.slice none 0 0,.string (⟨#[]⟩:ByteArray),.string (⟨#[]⟩:ByteArray),.bool false]) ?_ 0 _ rfl;(with_reducible repeat (first|refine aK ?_ _|refine aV ?_|refine aJ ?_ _));exact dS.out) Tryz.underlying32 rfl av) rfl ?_
  exact ⟨_,cU,Dp,V7⟩
 ·replace c3:=Bool.eq_false_iff.mpr c3
  subst c3
  have H1:((bu.f a0 0 60).bind fun uh=>((dh.f k uh.2.1 uh.2.2).bind fun dG=>(if uh.1=true then (if dG.2.2.2.2.2.1=true then ((bu.f dG.2.2.2.2.2.2.1 dG.2.2.2.2.2.2.2 62).bind fun kY=>(bU.j0 k (!kY.1) kY.2.1 kY.2.2 dG.1 dG.2.1 dG.2.2.1 dG.2.2.2.1 dG.2.2.2.2.1)) else (bU.j0 k true dG.2.2.2.2.2.2.1 dG.2.2.2.2.2.2.2 dG.1 dG.2.1 dG.2.2.1 dG.2.2.2.1 dG.2.2.2.2.1)) else (bU.j0 k true dG.2.2.2.2.2.2.1 dG.2.2.2.2.2.2.2 dG.1 dG.2.1 dG.2.2.1 dG.2.2.2.1 dG.2.2.2.2.1))))=some (r1,r2,r3,r4,r5,r6,r7):=by rw [if_neg (show ¬ (false=true) by decide)] at H;exact H
  clear H
  have H:=H1
  clear H1
  replace H:=Option.bind_eq_some_iff.mp H
  obtain ⟨⟨t212,t213,t214⟩,yF,H⟩:=H
  replace H:((dh.f k t213 t214).bind fun dG=>(if t212=true then (if dG.2.2.2.2.2.1=true then ((bu.f dG.2.2.2.2.2.2.1 dG.2.2.2.2.2.2.2 62).bind fun kY=>(bU.j0 k (!kY.1) kY.2.1 kY.2.2 dG.1 dG.2.1 dG.2.2.1 dG.2.2.2.1 dG.2.2.2.2.1)) else (bU.j0 k true dG.2.2.2.2.2.2.1 dG.2.2.2.2.2.2.2 dG.1 dG.2.1 dG.2.2.1 dG.2.2.2.1 dG.2.2.2.2.1)) else (bU.j0 k true dG.2.2.2.2.2.2.1 dG.2.2.2.2.2.2.2 dG.1 dG.2.1 dG.2.2.1 dG.2.2.2.1 dG.2.2.2.2.1)))=some (r1,r2,r3,r4,r5,r6,r7):=H
  have A6:=ah.mk yF
  clear yF
  replace H:=Option.bind_eq_some_iff.mp H
  obtain ⟨⟨t215,t216,t219,t220,t221,t222,t223,t224⟩,GV,H⟩:=H
  replace H:(if t212=true then (if t222=true then ((bu.f t223 t224 62).bind fun kY=>(bU.j0 k (!kY.1) kY.2.1 kY.2.2 t215 t216 t219 t220 t221)) else (bU.j0 k true t223 t224 t215 t216 t219 t220 t221)) else (bU.j0 k true t223 t224 t215 t216 t219 t220 t221))=some (r1,r2,r3,r4,r5,r6,r7):=H
  have A7:=ah.mk GV
  clear GV
  have HC8:=ah.mk H
  clear H
  go_enter Tryz.func17,Tryz.ntmps17
  go_upto_region 6 with (first|((with_reducible refine cK (N:=2) rfl ?_);(try (refine eu (by rfl) ?_;dsimp only));refine cu ?hg (N:=2) ?hd (cs:=#[.bool false,.slice none 0 0,.string (⟨#[]⟩:ByteArray),.string (⟨#[]⟩:ByteArray),.bool false]) (t:=32) ?hr ?_;(case hd=>rfl);(case hg=>rfl);(case hr=>first|(go_simp;done)|(go_simp;rfl));intro dX hg w9 cM hb;have bI:=ah.mk (az cA hb);have bP:=ah.mk (cM);have cw:=ah.mk ((dW:w.heap.size≤dX));have cW:=ah.mk ((dW:w.heap.size≤dX));clear HB;have HB:=bI;have dS:=bP;have af1:=cw;have AR:=cW;clear bI bP cw cW;clear hb cM hg)|((with_reducible refine aT (f:=37) rfl ?_);refine cC (some 10) rfl rfl Tryz.func37 av rfl #[.string a0,.string (⟨#[60,62]⟩:ByteArray)] rfl cY ?_;(with_reducible refine (strings_HasPrefix.calls a0 (⟨#[60,62]⟩:ByteArray) false _ A2.out).mono ?_);rintro e w' ⟨rfl,⟨nd,rfl⟩⟩;refine ⟨_,rfl,?_⟩;(try (rw [GF w9];generalize hq_:World.drewN w9 _=w9;have bI:ah (w9.heap[dX]? =some (.cells #[.bool false,.slice none 0 0,.string (⟨#[]⟩:ByteArray),.string (⟨#[]⟩:ByteArray),.bool false] 32 (0,0))):=⟨RF⟩;have bP:ah (Below w.heap.size w w9):=⟨Rz⟩;clear dS HB hq_;have dS:=bI;have HB:=bP;clear bI bP)))|((with_reducible refine cK (N:=14) rfl ?_);(try (refine eu (by rfl) ?_;dsimp only));refine cu ?hg (N:=14) ?hd (cs:=#[.string a0,.int .i64 0]) (t:=82) ?hr ?_;(case hd=>rfl);(case hg=>rfl);(case hr=>first|(go_simp;done)|(go_simp;rfl));intro qZ hg vI cM hb;have bI:=ah.mk (aR (g:=dX) (o:= .cells #[.bool false,.slice none 0 0,.string (⟨#[]⟩:ByteArray),.string (⟨#[]⟩:ByteArray),.bool false] 32 (0,0)) tV hb);have bP:=ah.mk (az V7 hb);have cw:=ah.mk ((⟨cM,JX⟩:ay w vI qZ a0 0));have cW:=ah.mk ((JX:w.heap.size≤qZ));have jc:=ah.mk ((JX:w.heap.size≤qZ));have nv:=ah.mk ((Rt:dX≠qZ));have nI:=ah.mk ((Ru:qZ≠dX));clear dS;clear HB;have dS:=bI;have HB:=bP;have gS:=cw;have aqx:=cW;have aqy:=jc;have rF:=nv;have lA:=nI;clear bI bP cw cW jc nv nI;clear hb cM hg)|((with_reducible refine aT (f:=56) rfl ?_);refine cC (some 16) rfl rfl Tryz.func56 av rfl #[.pointer (some ⟨qZ,0,none⟩),.int .u8 60] rfl cY ?_;(with_reducible refine (bu.calls qZ a0 0 60 t212 t213 t214 w _ ?bg ?bY A6.out).mono ?_);(case bg=>repeat (first|(with_reducible first|exact gS.out|apply ay.alloc|apply ay.drewN|apply ay.drew|apply ay.fS|apply ay.fP|refine ay.far ?_ lA.out _)|exact gS.out));(case bY=>repeat (first|(with_reducible first|exact HB.out|apply aD|apply aM|apply bq|refine bp ?_ (ay.ge gS.out)|refine bp ?_ AR.out)|exact HB.out));rintro e w11 ⟨rfl,hi,hb,hk⟩;refine ⟨_,rfl,?_⟩;have bI:=ah.mk (bB.blk hk (g':=dX) (o:= .cells #[.bool false,.slice none 0 0,.string (⟨#[]⟩:ByteArray),.string (⟨#[]⟩:ByteArray),.bool false] 32 (0,0)) tV rF.out bf);have bP:=ah.mk (hb);have cw:=ah.mk (hi);clear dS;clear HB;clear gS;have dS:=bI;have HB:=bP;have gS:=cw;clear bI bP cw;(try clear hb);(try clear hb2);(try clear hk);(try clear hi))|((with_reducible refine aT (f:=57) rfl ?_);refine cC (some 19) rfl rfl Tryz.func57 av rfl #[.pointer (some ⟨qZ,0,none⟩)] rfl cY ?_;(with_reducible refine (dh.calls k qZ t213 t214 t215 t216 t219 t220 t221 t222 t223 t224 w _ ?bg ?bY ?eI A7.out).mono ?_);(case bg=>repeat (first|(with_reducible first|exact gS.out|apply ay.alloc|apply ay.drewN|apply ay.drew|apply ay.fS|apply ay.fP|refine ay.far ?_ lA.out _)|exact gS.out));(case bY=>repeat (first|(with_reducible first|exact HB.out|apply aD|apply aM|apply bq|refine bp ?_ (ay.ge gS.out)|refine bp ?_ AR.out)|exact HB.out));(case eI=>exact HG.out);rintro e IB ⟨asR,rfl,ho0,hi,hb,hk⟩;refine ⟨_,rfl,?_⟩;have bI:=ah.mk (bB.blk hk (g':=dX) (o:= .cells #[.bool false,.slice none 0 0,.string (⟨#[]⟩:ByteArray),.string (⟨#[]⟩:ByteArray),.bool false] 32 (0,0)) tV rF.out bf);have bP:=ah.mk (Kd.gv ho0 (dK Ws));have cw:=ah.mk (hb);have cW:=ah.mk (hi);clear dS;clear HB;clear gS;have dS:=bI;have D6:=bP;have HB:=cw;have gS:=cW;clear bI bP cw cW;(try clear hb);(try clear hb2);(try clear hk);(try clear hi);(try clear ho0))|((with_reducible refine cK (N:=7) rfl ?_);(try (refine eu (by rfl) ?_;dsimp only));refine cu ?hg (N:=7) ?hd (cs:=#[.bool false,.slice none 0 0,.string (⟨#[]⟩:ByteArray),.string (⟨#[]⟩:ByteArray),.bool false]) (t:=32) ?hr ?_;(case hd=>rfl);(case hg=>rfl);(case hr=>first|(go_simp;done)|(go_simp;rfl));intro fQ hg n7 cM hb;have bI:=ah.mk (Kd.dA RJ hb);have bP:=ah.mk (aR (g:=dX) (o:= .cells #[.bool false,.slice none 0 0,.string (⟨#[]⟩:ByteArray),.string (⟨#[]⟩:ByteArray),.bool false] 32 (0,0)) tV hb);have cw:=ah.mk (ay.below (by repeat (first|(with_reducible first|exact gS.out|apply ay.alloc|apply ay.drewN|apply ay.drew|apply ay.fS|apply ay.fP|refine ay.far ?_ lA.out _)|exact gS.out)) hb);have cW:=ah.mk (az Ws hb);have jc:=ah.mk (cM);have nv:=ah.mk ((Rv:w.heap.size≤fQ));have nI:=ah.mk ((Rv:w.heap.size≤fQ));have wD:=ah.mk ((Rt:dX≠fQ));have yA:=ah.mk ((Ru:fQ≠dX));have n9_ :=ah.mk ((by rw [hg];exact Nat.ne_of_lt (ay.lt (show ay w _ qZ t223 t224 from by repeat (first|(with_reducible first|exact gS.out|apply ay.alloc|apply ay.drewN|apply ay.drew|apply ay.fS|apply ay.fP|refine ay.far ?_ lA.out _)|exact gS.out))):qZ≠fQ));have af2:=ah.mk ((by rw [hg];exact Nat.ne_of_gt (ay.lt (show ay w _ qZ t223 t224 from by repeat (first|(with_reducible first|exact gS.out|apply ay.alloc|apply ay.drewN|apply ay.drew|apply ay.fS|apply ay.fP|refine ay.far ?_ lA.out _)|exact gS.out))):fQ≠qZ));clear D6;clear dS;clear gS;clear HB;have D6:=bI;have dS:=bP;have gS:=cw;have HB:=cW;have dO:=jc;have aqA:=nv;have abC:=nI;have jA:=wD;have eU:=yA;have pQ:=n9_;have tQ:=af2;clear bI bP cw cW jc nv nI wD yA n9_ af2;clear hb cM hg;have afn:=eU.out;have afo:=jA.out;have af3:=tQ.out;have af4:=pQ.out;have oa:n7.cell? ⟨fQ,0,none⟩=some (.bool false):=(af dO.out 0).trans rfl;have oc:n7.cell? ⟨fQ,1,none⟩=some (.slice none 0 0):=(af dO.out 1).trans rfl;have rJ:n7.cell? ⟨fQ,2,none⟩=some (.string (⟨#[]⟩:ByteArray)):=(af dO.out 2).trans rfl;have uH:n7.cell? ⟨fQ,3,none⟩=some (.string (⟨#[]⟩:ByteArray)):=(af dO.out 3).trans rfl;have uI:n7.cell? ⟨fQ,4,none⟩=some (.bool false):=(af dO.out 4).trans rfl;have og:=aa dO.out 0;have om:=aa dO.out 1;have rK:=aa dO.out 2;have uJ:=aa dO.out 3;have uK:=aa dO.out 4;obtain ⟨qR,qT,adp⟩:=Kd.eB D6.out;subst adp))
  (try simp only [Act.put,List.setIfInBounds_toArray,List.set_cons_zero,List.set_cons_succ])
  go_cut [22] (fun v22 wc=>∃ (kq:Nat) (Tn:Bool) (Au:ByteArray) (ot:Int),v22= .bool Tn∧ah (bU.j0 kq Tn Au ot t215 t216 t219 t220 t221=some (r1,r2,r3,r4,r5,r6,r7))∧ah (kq≤k)∧ah (Kd.R Kd.string 9 wc w.heap.size (fun _ =>True) (.slice qR t216.length qT) t216)∧ah (wc.heap[dX]? =some (.cells #[.bool false,(.slice none 0 0),.string (⟨#[]⟩:ByteArray),.string (⟨#[]⟩:ByteArray),.bool false] 32 (0,0)))∧ah (wc.heap[fQ]? =some (.cells #[.bool t215,(.slice qR t216.length qT),.string t219,.string t220,.bool t221] 32 (0,0)))∧ah (ay w wc qZ Au ot)∧ah (Below w.heap.size w wc))
  case first=>
   have H:=HC8.out
   clear HC8
   by_cases c18:t212=true
   ·subst c18
    have H1:(if t222=true then ((bu.f t223 t224 62).bind fun kY=>(bU.j0 k (!kY.1) kY.2.1 kY.2.2 t215 t216 t219 t220 t221)) else (bU.j0 k true t223 t224 t215 t216 t219 t220 t221))=some (r1,r2,r3,r4,r5,r6,r7):=by rw [if_pos rfl] at H;exact H
    clear H
    have H:=H1
    clear H1
    by_cases c19:t222=true
    ·subst c19
     have H1:((bu.f t223 t224 62).bind fun kY=>(bU.j0 k (!kY.1) kY.2.1 kY.2.2 t215 t216 t219 t220 t221))=some (r1,r2,r3,r4,r5,r6,r7):=by rw [if_pos rfl] at H;exact H
     clear H
     have H:=H1
     clear H1
     replace H:=Option.bind_eq_some_iff.mp H
     obtain ⟨⟨t226,t227,t228⟩,XH,H⟩:=H
     replace H:(bU.j0 k (!t226) t227 t228 t215 t216 t219 t220 t221)=some (r1,r2,r3,r4,r5,r6,r7):=H
     have oL:=ah.mk XH
     clear XH
     have H':=ah.mk H
     clear H
     go_wp2_with (first|(go_at_call 56;(with_reducible refine (bu.calls qZ t223 t224 62 t226 t227 t228 w _ ?bg ?bY oL.out).mono ?_);(case bg=>repeat (first|(with_reducible first|exact gS.out|apply ay.alloc|apply ay.drewN|apply ay.drew|apply ay.fS|apply ay.fP|refine ay.far ?_ lA.out _|refine ay.far ?_ pQ.out _)|exact gS.out));(case bY=>repeat (first|(with_reducible first|exact HB.out|apply aD|apply aM|apply bq|refine bp ?_ (ay.ge gS.out)|refine bp ?_ AR.out|refine bp ?_ abC.out)|exact HB.out));rintro e w21 ⟨rfl,hi,hb,hk⟩;have bI:=ah.mk (bB.blk hk (g':=dX) (o:= .cells #[.bool false,.slice none 0 0,.string (⟨#[]⟩:ByteArray),.string (⟨#[]⟩:ByteArray),.bool false] 32 (0,0)) Pp rF.out bf);have bP:=ah.mk (Kd.gp (Kd.ud (ay.apart (show ay w _ qZ t223 t224 from by repeat (first|(with_reducible first|exact gS.out|apply ay.alloc|apply ay.drewN|apply ay.drew|apply ay.fS|apply ay.fP|refine ay.far ?_ lA.out _|refine ay.far ?_ pQ.out _)|exact gS.out)) (by (with_reducible repeat (first|apply Kd.fX|apply Kd.fY|apply Kd.gW));exact (Kd.gp (Kd.cJ (p:=⟨fQ,4,none⟩) (Kd.cJ (p:=⟨fQ,3,none⟩) (Kd.cJ (p:=⟨fQ,2,none⟩) (Kd.cJ (p:=⟨fQ,1,none⟩) (Kd.cJ (p:=⟨fQ,0,none⟩) (Kd.kj D6.out dO.out bL) (fun _ hk=>hk.2) (.bool t215)) (fun _ hk=>hk.2) (.slice qR t216.length qT)) (fun _ hk=>hk.2) (.string t219)) (fun _ hk=>hk.2) (.string t220)) (fun _ hk=>hk.2) (.bool t221)) (fun _ h_ =>h_.1))) bL) hk (fun _ h=>h.2)) (fun _ h=>h.1));have cw:=ah.mk (bB.blk hk (g':=fQ) (o:= .cells #[.bool t215,.slice qR t216.length qT,.string t219,.string t220,.bool t221] 32 (0,0)) Po tQ.out bf);have cW:=ah.mk (hb);have jc:=ah.mk (hi);clear dS;clear D6;clear dO;clear HB;clear gS;have dS:=bI;have D6:=bP;have dO:=cw;have HB:=cW;have gS:=jc;clear bI bP cw cW jc;(try clear hb);(try clear hb2);(try clear hk);(try clear hi)))
     go_meet
     case rel=>exact ⟨_,(!t226),(t227),(t228),dL,H',⟨nB⟩,⟨RJ⟩,⟨tV⟩,⟨Bd⟩,⟨wO⟩,⟨lY⟩⟩
    ·replace c19:=Bool.eq_false_iff.mpr c19
     subst c19
     have H1:(bU.j0 k true t223 t224 t215 t216 t219 t220 t221)=some (r1,r2,r3,r4,r5,r6,r7):=by rw [if_neg (show ¬ (false=true) by decide)] at H;exact H
     clear H
     have H:=H1
     clear H1
     have H':=ah.mk H
     clear H
     go_wp2
     go_meet
     case rel=>exact ⟨_,(true),(t223),(t224),dL,H',⟨nB⟩,⟨Wt⟩,⟨Pp⟩,⟨Po⟩,⟨wO⟩,⟨lY⟩⟩
   ·replace c18:=Bool.eq_false_iff.mpr c18
    subst c18
    have H1:(bU.j0 k true t223 t224 t215 t216 t219 t220 t221)=some (r1,r2,r3,r4,r5,r6,r7):=by rw [if_neg (show ¬ (false=true) by decide)] at H;exact H
    clear H
    have H:=H1
    clear H1
    have H':=ah.mk H
    clear H
    go_wp2
    go_meet
    case rel=>exact ⟨_,(true),(t223),(t224),dL,H',⟨nB⟩,⟨Wt⟩,⟨Pp⟩,⟨Po⟩,⟨wO⟩,⟨lY⟩⟩
  case rest=>
   clear HC8
   try clear c1
   try clear p2
   try clear c3
   try clear c5
   try clear c14
   try clear c15
   try clear c17
   try clear c18
   try clear c19
   try clear oa
   try clear oc
   try clear rJ
   try clear uH
   try clear uI
   try clear Ls
   try clear Lt
   try clear Qh
   try clear XD
   try clear XE
   try clear og
   try clear om
   try clear rK
   try clear uJ
   try clear uK
   try clear Lu
   try clear Lv
   try clear Qi
   try clear XF
   try clear XG
   obtain ⟨kq,Tn,Au,ot,rfl,HA,HJ7,gU,dS,dO,gS,HB⟩:=hcut
   cases kq with
   |zero=>exact absurd HA.out (by simp [bU.j0])
   |succ Za=>
    have H:=HA.out
    clear HA
    simp only [bU.j0] at H
    by_cases Dh:Tn=true
    ·subst Dh
     have H1:(some (false,([]:List ByteArray),(⟨#[]⟩:ByteArray),(⟨#[]⟩:ByteArray),false,0,150))=some (r1,r2,r3,r4,r5,r6,r7):=by rw [if_pos rfl] at H;exact H
     clear H
     have H:=H1
     clear H1
     simp only [Option.some.injEq,Prod.mk.injEq] at H
     obtain ⟨rfl,rfl,rfl,rfl,rfl,rfl,rfl⟩:=H
     have aft:=jA.out
     have afu:=eU.out
     have afU:=rF.out
     have afV:=lA.out
     have vC:wc.cell? ⟨dX,0,none⟩=some (.bool false):=(af dS.out 0).trans rfl
     have vD:wc.cell? ⟨dX,1,none⟩=some (.slice none 0 0):=(af dS.out 1).trans rfl
     have vE:wc.cell? ⟨dX,2,none⟩=some (.string (⟨#[]⟩:ByteArray)):=(af dS.out 2).trans rfl
     have Ao:wc.cell? ⟨dX,3,none⟩=some (.string (⟨#[]⟩:ByteArray)):=(af dS.out 3).trans rfl
     have Ap:wc.cell? ⟨dX,4,none⟩=some (.bool false):=(af dS.out 4).trans rfl
     have vF:=aa dS.out 0
     have vG:=aa dS.out 1
     have vH:=aa dS.out 2
     have Aq:=aa dS.out 3
     have Ar:=aa dS.out 4
     go_wp2
     refine bodyPost_ret (pS rfl _ _ dX 32 #[.bool false,.slice none 0 0,.string (⟨#[]⟩:ByteArray),.string (⟨#[]⟩:ByteArray),.bool false] (0,0) _ rfl JQ Tryz.underlying32 rfl av) rfl ?_
     exact ⟨_,cU,Dp,lY⟩
    ·replace Dh:=Bool.eq_false_iff.mpr Dh
     subst Dh
     have H1:((eJ.f Za t219 t220 t221).bind fun t229=>(if t229=true then (if (t216.length:Int) > 20 then (some (false,([]:List ByteArray),(⟨#[]⟩:ByteArray),(⟨#[]⟩:ByteArray),false,0,3)) else ((bC.f Za t216).bind fun t230=>(if t230=true then (some (false,([]:List ByteArray),(⟨#[]⟩:ByteArray),(⟨#[]⟩:ByteArray),false,0,3)) else (some (t215,t216,t219,t220,t221,ot,0))))) else (some (false,([]:List ByteArray),(⟨#[]⟩:ByteArray),(⟨#[]⟩:ByteArray),false,0,3))))=some (r1,r2,r3,r4,r5,r6,r7):=by rw [if_neg (show ¬ (false=true) by decide)] at H;exact H
     clear H
     have H:=H1
     clear H1
     replace H:=Option.bind_eq_some_iff.mp H
     obtain ⟨t229,XI,H⟩:=H
     replace H:(if t229=true then (if (t216.length:Int) > 20 then (some (false,([]:List ByteArray),(⟨#[]⟩:ByteArray),(⟨#[]⟩:ByteArray),false,0,3)) else ((bC.f Za t216).bind fun t230=>(if t230=true then (some (false,([]:List ByteArray),(⟨#[]⟩:ByteArray),(⟨#[]⟩:ByteArray),false,0,3)) else (some (t215,t216,t219,t220,t221,ot,0))))) else (some (false,([]:List ByteArray),(⟨#[]⟩:ByteArray),(⟨#[]⟩:ByteArray),false,0,3)))=some (r1,r2,r3,r4,r5,r6,r7):=H
     have A26:=ah.mk XI
     clear XI
     by_cases IJ:t229=true
     ·subst IJ
      have H1:(if (t216.length:Int) > 20 then (some (false,([]:List ByteArray),(⟨#[]⟩:ByteArray),(⟨#[]⟩:ByteArray),false,0,3)) else ((bC.f Za t216).bind fun t230=>(if t230=true then (some (false,([]:List ByteArray),(⟨#[]⟩:ByteArray),(⟨#[]⟩:ByteArray),false,0,3)) else (some (t215,t216,t219,t220,t221,ot,0)))))=some (r1,r2,r3,r4,r5,r6,r7):=by rw [if_pos rfl] at H;exact H
      clear H
      have H:=H1
      clear H1
      by_cases c28:(t216.length:Int) > 20
      ·rw [if_pos c28] at H
       have Ej:decide (20 < (t216.length:Int))=true:=decide_eq_true c28
       have XJ:decide (20 < t216.length)=true:=decide_eq_true aq
       clear c28
       simp only [Option.some.injEq,Prod.mk.injEq] at H
       obtain ⟨rfl,rfl,rfl,rfl,rfl,rfl,rfl⟩:=H
       have aqB:=eU.out
       have aqC:=jA.out
       have ab5:=tQ.out
       have ab6:=pQ.out
       have vN:wc.cell? ⟨fQ,0,none⟩=some (.bool t215):=(af dO.out 0).trans rfl
       have vO:wc.cell? ⟨fQ,1,none⟩=some (.slice qR t216.length qT):=(af dO.out 1).trans rfl
       have xP:wc.cell? ⟨fQ,2,none⟩=some (.string t219):=(af dO.out 2).trans rfl
       have Lz:wc.cell? ⟨fQ,3,none⟩=some (.string t220):=(af dO.out 3).trans rfl
       have LA:wc.cell? ⟨fQ,4,none⟩=some (.bool t221):=(af dO.out 4).trans rfl
       have vP:=aa dO.out 0
       have vQ:=aa dO.out 1
       have xQ:=aa dO.out 2
       have LB:=aa dO.out 3
       have LC:=aa dO.out 4
       go_wp2_with (first|((with_reducible refine aT (f:=58) rfl ?_);refine cC (some 38) rfl rfl Tryz.func58 av rfl #[.agg #[.string t219,.string t220,.bool t221]] rfl cY ?_;(with_reducible refine (eJ.calls Za t219 t220 t221 true _ ?bg A26.out).mono ?_);(case bg=>exact aW.below HG.out lY);rintro e Ek ⟨rfl,hb⟩;refine ⟨_,rfl,?_⟩;have bI:=ah.mk (Kd.dA Dr hb);have bP:=ah.mk (aR (g:=dX) (o:= .cells #[.bool false,.slice none 0 0,.string (⟨#[]⟩:ByteArray),.string (⟨#[]⟩:ByteArray),.bool false] 32 (0,0)) tV hb);have cw:=ah.mk (aR (g:=fQ) (o:= .cells #[.bool t215,.slice qR t216.length qT,.string t219,.string t220,.bool t221] 32 (0,0)) Bd hb);have cW:=ah.mk (ay.below wO hb);have jc:=ah.mk (az lY hb);clear gU;clear dS;clear dO;clear gS;clear HB;have gU:=bI;have dS:=bP;have dO:=cw;have gS:=cW;have HB:=jc;clear bI bP cw cW jc;(try clear hb);(try clear hb2);(try clear hk);(try clear hi);have S7:Ek.cell? ⟨fQ,0,none⟩=some (.bool t215):=(af dO.out 0).trans rfl;have S8:Ek.cell? ⟨fQ,1,none⟩=some (.slice qR t216.length qT):=(af dO.out 1).trans rfl;have aae:Ek.cell? ⟨fQ,2,none⟩=some (.string t219):=(af dO.out 2).trans rfl;have aaf:Ek.cell? ⟨fQ,3,none⟩=some (.string t220):=(af dO.out 3).trans rfl;have aag:Ek.cell? ⟨fQ,4,none⟩=some (.bool t221):=(af dO.out 4).trans rfl;have S9:=aa dO.out 0;have Ta:=aa dO.out 1;have aah:=aa dO.out 2;have aai:=aa dO.out 3;have aaj:=aa dO.out 4;have afv:=rF.out;have afw:=lA.out;have Cq:Ek.cell? ⟨dX,0,none⟩=some (.bool false):=(af dS.out 0).trans rfl;have Cr:Ek.cell? ⟨dX,1,none⟩=some (.slice none 0 0):=(af dS.out 1).trans rfl;have Cs:Ek.cell? ⟨dX,2,none⟩=some (.string (⟨#[]⟩:ByteArray)):=(af dS.out 2).trans rfl;have SR:Ek.cell? ⟨dX,3,none⟩=some (.string (⟨#[]⟩:ByteArray)):=(af dS.out 3).trans rfl;have SS:Ek.cell? ⟨dX,4,none⟩=some (.bool false):=(af dS.out 4).trans rfl;have Ct:=aa dS.out 0;have Cu:=aa dS.out 1;have Cv:=aa dS.out 2;have SU:=aa dS.out 3;have SV:=aa dS.out 4))
       refine bodyPost_ret (pS rfl _ _ dX 32 #[.bool false,.slice none 0 0,.string (⟨#[]⟩:ByteArray),.string (⟨#[]⟩:ByteArray),.bool false] (0,0) _ rfl JQ Tryz.underlying32 rfl av) rfl ?_
       exact ⟨_,cU,Dp,lY⟩
      ·rw [if_neg c28] at H
       have Ej:decide (20 < (t216.length:Int))=false:=decide_eq_false c28
       have XJ:decide (20 < t216.length)=false:=decide_eq_false aq
       clear c28
       replace H:=Option.bind_eq_some_iff.mp H
       obtain ⟨t230,af5,H⟩:=H
       replace H:(if t230=true then (some (false,([]:List ByteArray),(⟨#[]⟩:ByteArray),(⟨#[]⟩:ByteArray),false,0,3)) else (some (t215,t216,t219,t220,t221,ot,0)))=some (r1,r2,r3,r4,r5,r6,r7):=H
       have A36:=ah.mk af5
       clear af5
       by_cases c37:t230=true
       ·subst c37
        have H1:(some (false,([]:List ByteArray),(⟨#[]⟩:ByteArray),(⟨#[]⟩:ByteArray),false,0,3))=some (r1,r2,r3,r4,r5,r6,r7):=by rw [if_pos rfl] at H;exact H
        clear H
        have H:=H1
        clear H1
        simp only [Option.some.injEq,Prod.mk.injEq] at H
        obtain ⟨rfl,rfl,rfl,rfl,rfl,rfl,rfl⟩:=H
        have aqE:=eU.out
        have aqF:=jA.out
        have af6:=tQ.out
        have af7:=pQ.out
        have Tp:wc.cell? ⟨fQ,0,none⟩=some (.bool t215):=(af dO.out 0).trans rfl
        have Tq:wc.cell? ⟨fQ,1,none⟩=some (.slice qR t216.length qT):=(af dO.out 1).trans rfl
        have Tt:wc.cell? ⟨fQ,2,none⟩=some (.string t219):=(af dO.out 2).trans rfl
        have Tu:wc.cell? ⟨fQ,3,none⟩=some (.string t220):=(af dO.out 3).trans rfl
        have Tv:wc.cell? ⟨fQ,4,none⟩=some (.bool t221):=(af dO.out 4).trans rfl
        have Tw:=aa dO.out 0
        have Tx:=aa dO.out 1
        have Ty:=aa dO.out 2
        have Tz:=aa dO.out 3
        have TA:=aa dO.out 4
        go_wp2_with (first|((with_reducible refine aT (f:=58) rfl ?_);refine cC (some 38) rfl rfl Tryz.func58 av rfl #[.agg #[.string t219,.string t220,.bool t221]] rfl cY ?_;(with_reducible refine (eJ.calls Za t219 t220 t221 true _ ?bg A26.out).mono ?_);(case bg=>exact aW.below HG.out lY);rintro e TB ⟨rfl,hb⟩;refine ⟨_,rfl,?_⟩;have bI:=ah.mk (Kd.dA Dr hb);have bP:=ah.mk (aR (g:=dX) (o:= .cells #[.bool false,.slice none 0 0,.string (⟨#[]⟩:ByteArray),.string (⟨#[]⟩:ByteArray),.bool false] 32 (0,0)) tV hb);have cw:=ah.mk (aR (g:=fQ) (o:= .cells #[.bool t215,.slice qR t216.length qT,.string t219,.string t220,.bool t221] 32 (0,0)) Bd hb);have cW:=ah.mk (ay.below wO hb);have jc:=ah.mk (az lY hb);clear gU;clear dS;clear dO;clear gS;clear HB;have gU:=bI;have dS:=bP;have dO:=cw;have gS:=cW;have HB:=jc;clear bI bP cw cW jc;(try clear hb);(try clear hb2);(try clear hk);(try clear hi);have aak:TB.cell? ⟨fQ,0,none⟩=some (.bool t215):=(af dO.out 0).trans rfl;have aal:TB.cell? ⟨fQ,1,none⟩=some (.slice qR t216.length qT):=(af dO.out 1).trans rfl;have aam:TB.cell? ⟨fQ,2,none⟩=some (.string t219):=(af dO.out 2).trans rfl;have aan:TB.cell? ⟨fQ,3,none⟩=some (.string t220):=(af dO.out 3).trans rfl;have aao:TB.cell? ⟨fQ,4,none⟩=some (.bool t221):=(af dO.out 4).trans rfl;have aap:=aa dO.out 0;have aaq:=aa dO.out 1;have aar:=aa dO.out 2;have aas:=aa dO.out 3;have aat:=aa dO.out 4)|(go_at_call 59;(with_reducible refine (bC.calls Za _ _ t216 true _ ?bg ?bY ?eI A36.out).mono ?_);(case bg=>repeat (first|exact (Kd.fD gU.out).2.2|(with_reducible refine Kd.dZ ?_ _)|(with_reducible refine Kd.eo ?_ _)|(with_reducible refine Kd.eZ ?_)));(case bY=>exact (Kd.fD gU.out).2.1);(case eI=>exact aW.below HG.out lY);rintro e TC ⟨rfl,hb⟩;have bI:=ah.mk (Kd.dA Dr hb);have bP:=ah.mk (aR (g:=dX) (o:= .cells #[.bool false,.slice none 0 0,.string (⟨#[]⟩:ByteArray),.string (⟨#[]⟩:ByteArray),.bool false] 32 (0,0)) tV hb);have cw:=ah.mk (aR (g:=fQ) (o:= .cells #[.bool t215,.slice qR t216.length qT,.string t219,.string t220,.bool t221] 32 (0,0)) Bd hb);have cW:=ah.mk (ay.below wO hb);have jc:=ah.mk (az lY hb);clear gU;clear dS;clear dO;clear gS;clear HB;have gU:=bI;have dS:=bP;have dO:=cw;have gS:=cW;have HB:=jc;clear bI bP cw cW jc;(try clear hb);(try clear hb2);(try clear hk);(try clear hi);have aqG:=rF.out;have aqH:=lA.out;have aau:TC.cell? ⟨dX,0,none⟩=some (.bool false):=(af dS.out 0).trans rfl;have aav:TC.cell? ⟨dX,1,none⟩=some (.slice none 0 0):=(af dS.out 1).trans rfl;have aaw:TC.cell? ⟨dX,2,none⟩=some (.string (⟨#[]⟩:ByteArray)):=(af dS.out 2).trans rfl;have ajL:TC.cell? ⟨dX,3,none⟩=some (.string (⟨#[]⟩:ByteArray)):=(af dS.out 3).trans rfl;have ajM:TC.cell? ⟨dX,4,none⟩=some (.bool false):=(af dS.out 4).trans rfl;have aax:=aa dS.out 0;have aay:=aa dS.out 1;have aaz:=aa dS.out 2;have ajN:=aa dS.out 3;have ajO:=aa dS.out 4))
        refine bodyPost_ret (pS rfl _ _ dX 32 #[.bool false,.slice none 0 0,.string (⟨#[]⟩:ByteArray),.string (⟨#[]⟩:ByteArray),.bool false] (0,0) _ rfl JQ Tryz.underlying32 rfl av) rfl ?_
        exact ⟨_,cU,Dp,lY⟩
       ·replace c37:=Bool.eq_false_iff.mpr c37
        subst c37
        have H1:(some (t215,t216,t219,t220,t221,ot,0))=some (r1,r2,r3,r4,r5,r6,r7):=by rw [if_neg (show ¬ (false=true) by decide)] at H;exact H
        clear H
        have H:=H1
        clear H1
        simp only [Option.some.injEq,Prod.mk.injEq] at H
        obtain ⟨rfl,rfl,rfl,rfl,rfl,rfl,rfl⟩:=H
        have af8:=eU.out
        have af9:=jA.out
        have aqI:=tQ.out
        have aqJ:=pQ.out
        have aaA:wc.cell? ⟨fQ,0,none⟩=some (.bool t215):=(af dO.out 0).trans rfl
        have aaB:wc.cell? ⟨fQ,1,none⟩=some (.slice qR t216.length qT):=(af dO.out 1).trans rfl
        have aaC:wc.cell? ⟨fQ,2,none⟩=some (.string t219):=(af dO.out 2).trans rfl
        have ajP:wc.cell? ⟨fQ,3,none⟩=some (.string t220):=(af dO.out 3).trans rfl
        have ajQ:wc.cell? ⟨fQ,4,none⟩=some (.bool t221):=(af dO.out 4).trans rfl
        have aaD:=aa dO.out 0
        have aaE:=aa dO.out 1
        have aaF:=aa dO.out 2
        have ajR:=aa dO.out 3
        have ajS:=aa dO.out 4
        try go_wp2_with (first|((with_reducible refine aT (f:=58) rfl ?_);refine cC (some 38) rfl rfl Tryz.func58 av rfl #[.agg #[.string t219,.string t220,.bool t221]] rfl cY ?_;(with_reducible refine (eJ.calls Za t219 t220 t221 true _ ?bg A26.out).mono ?_);(case bg=>exact aW.below HG.out lY);rintro e w49 ⟨rfl,hb⟩;refine ⟨_,rfl,?_⟩;have bI:=ah.mk (Kd.dA Dr hb);have bP:=ah.mk (aR (g:=dX) (o:= .cells #[.bool false,.slice none 0 0,.string (⟨#[]⟩:ByteArray),.string (⟨#[]⟩:ByteArray),.bool false] 32 (0,0)) tV hb);have cw:=ah.mk (aR (g:=fQ) (o:= .cells #[.bool t215,.slice qR t216.length qT,.string t219,.string t220,.bool t221] 32 (0,0)) Bd hb);have cW:=ah.mk (ay.below wO hb);have jc:=ah.mk (az lY hb);clear gU;clear dS;clear dO;clear gS;clear HB;have gU:=bI;have dS:=bP;have dO:=cw;have gS:=cW;have HB:=jc;clear bI bP cw cW jc;(try clear hb);(try clear hb2);(try clear hk);(try clear hi);have aaG:w49.cell? ⟨fQ,0,none⟩=some (.bool t215):=(af dO.out 0).trans rfl;have aaH:w49.cell? ⟨fQ,1,none⟩=some (.slice qR t216.length qT):=(af dO.out 1).trans rfl;have aaI:w49.cell? ⟨fQ,2,none⟩=some (.string t219):=(af dO.out 2).trans rfl;have ajT:w49.cell? ⟨fQ,3,none⟩=some (.string t220):=(af dO.out 3).trans rfl;have ajU:w49.cell? ⟨fQ,4,none⟩=some (.bool t221):=(af dO.out 4).trans rfl;have aaJ:=aa dO.out 0;have aaK:=aa dO.out 1;have aaL:=aa dO.out 2;have ajV:=aa dO.out 3;have ajW:=aa dO.out 4)|(go_at_call 59;(with_reducible refine (bC.calls Za _ _ t216 false _ ?bg ?bY ?eI A36.out).mono ?_);(case bg=>repeat (first|exact (Kd.fD gU.out).2.2|(with_reducible refine Kd.dZ ?_ _)|(with_reducible refine Kd.eo ?_ _)|(with_reducible refine Kd.eZ ?_)));(case bY=>exact (Kd.fD gU.out).2.1);(case eI=>exact aW.below HG.out lY);rintro e w51 ⟨rfl,hb⟩;have bI:=ah.mk (Kd.dA Dr hb);have bP:=ah.mk (aR (g:=dX) (o:= .cells #[.bool false,.slice none 0 0,.string (⟨#[]⟩:ByteArray),.string (⟨#[]⟩:ByteArray),.bool false] 32 (0,0)) tV hb);have cw:=ah.mk (aR (g:=fQ) (o:= .cells #[.bool t215,.slice qR t216.length qT,.string t219,.string t220,.bool t221] 32 (0,0)) Bd hb);have cW:=ah.mk (ay.below wO hb);have jc:=ah.mk (az lY hb);clear gU;clear dS;clear dO;clear gS;clear HB;have gU:=bI;have dS:=bP;have dO:=cw;have gS:=cW;have HB:=jc;clear bI bP cw cW jc;(try clear hb);(try clear hb2);(try clear hk);(try clear hi)))
        have bI:=ah.mk (Kd.gW gU.out)
        have bP:=ah.mk (aV dS.out)
        have cw:=ah.mk (aV dO.out)
        have cW:=ah.mk (ay.drew gS.out)
        have jc:=ah.mk (bq HB.out)
        clear gU
        clear dS
        clear dO
        clear gS
        clear HB
        have gU:=bI
        have dS:=bP
        have dO:=cw
        have gS:=cW
        have HB:=jc
        clear bI bP cw cW jc
        refine Bf (n:=8) (S:=fun w'=>w'.cell? ⟨fQ,0,none⟩=some (.bool t215)∧w'.cell? ⟨fQ,1,none⟩=some (.slice qR t216.length qT)∧w'.cell? ⟨fQ,2,none⟩=some (.string t219)∧w'.cell? ⟨fQ,3,none⟩=some (.string t220)∧w'.cell? ⟨fQ,4,none⟩=some (.bool t221)∧w'.cell? ⟨qZ,0,none⟩=some (.string Au)∧w'.cell? ⟨qZ,1,none⟩=some (.int .i64 ot)) (ds:=[]) #[false,false,false,false,false,false,false,false] av (by rfl) (by rfl) ⟨(af dO.out 0).trans rfl,(af dO.out 1).trans rfl,(af dO.out 2).trans rfl,(af dO.out 3).trans rfl,(af dO.out 4).trans rfl,dR gS.out.1,dM gS.out.1⟩ (fun hHeld=>?_);refine tO bU.af0 bU.ado (fun lB Ph=>?_)
        generalize w51.drew=w52 at gU dS dO gS HB hHeld ⊢
        refine eG (i:=1) (N:=some 53) (v:=?_) (a':=?_) #[false,true,false,false,false,false,false,false] rfl rfl (fA lB.out av) (fun _ _ _ h=>h) (Or.inl ⟨by rfl,?_⟩) ?_ ?_
        rotate_left
        ·intro w'
         go_simp
         with_reducible rfl
        rotate_left
        ·simp only [Act.put,List.setIfInBounds_toArray,List.set_cons_zero,List.set_cons_succ,cS,cV]
         rfl
        refine eG (i:=2) (N:=some 54) (v:=?_) (a':=?_) #[false,true,true,false,false,false,false,false] rfl rfl (fA lB.out av) (fun _ _ _ h=>h) (Or.inl ⟨by rfl,?_⟩) ?_ ?_
        rotate_left
        ·intro w'
         go_simp
         with_reducible rfl
        rotate_left
        ·simp only [Act.put,List.setIfInBounds_toArray,List.set_cons_zero,List.set_cons_succ,cS,cV]
         rfl
        refine eG (i:=3) (N:=some 55) (v:=?_) (a':=?_) #[false,true,true,true,false,false,false,false] rfl rfl (fA lB.out av) (fun _ _ _ h=>h) (Or.inl ⟨by rfl,?_⟩) ?_ ?_
        rotate_left
        ·intro w'
         go_simp
         with_reducible rfl
        rotate_left
        ·simp only [Act.put,List.setIfInBounds_toArray,List.set_cons_zero,List.set_cons_succ,cS,cV]
         rfl
        refine nR (i:=0) (N:=some 52) (v:=?_) (a':=?_) #[true,true,true,true,false,false,false,false] rfl rfl (nS lB.out Ph.out av) (fun _ _ _ h=>h) (Or.inl ⟨by rfl,?_⟩) hHeld ?_ ?_
        rotate_left
        ·rintro w' ⟨s0,s1,s2,s3,s4,s5,s6⟩
         go_simp
         with_reducible rfl
        rotate_left
        ·simp only [Act.put,List.setIfInBounds_toArray,List.set_cons_zero,List.set_cons_succ,cS,cV]
         rfl
        refine nR (i:=4) (N:=some 56) (v:=?_) (a':=?_) #[true,true,true,true,true,false,false,false] rfl rfl (nS lB.out Ph.out av) (fun _ _ _ h=>h) (Or.inl ⟨by rfl,?_⟩) hHeld ?_ ?_
        rotate_left
        ·rintro w' ⟨s0,s1,s2,s3,s4,s5,s6⟩
         go_simp
         with_reducible rfl
        rotate_left
        ·simp only [Act.put,List.setIfInBounds_toArray,List.set_cons_zero,List.set_cons_succ,cS,cV]
         rfl
        refine II (i:=5) (N:=none) #[true,true,true,true,true,true,false,false] rfl rfl (wV lB.out av) bL (fun K hK=>?_)
        have asT:w52.cell? ⟨dX,0,none⟩=some (.bool false):=(af dS.out 0).trans rfl
        have aqK:=aa dS.out 0
        have ajX:=eU.out
        have ajY:=jA.out
        have asU:w52.cell? ⟨dX,1,none⟩=some (.slice none 0 0):=(af dS.out 1).trans rfl
        have aqL:=aa dS.out 1
        have ajZ:=eU.out
        have aj0:=jA.out
        have asV:w52.cell? ⟨dX,2,none⟩=some (.string (⟨#[]⟩:ByteArray)):=(af dS.out 2).trans rfl
        have aqM:=aa dS.out 2
        have aj1:=eU.out
        have aj2:=jA.out
        have asW:w52.cell? ⟨dX,3,none⟩=some (.string (⟨#[]⟩:ByteArray)):=(af dS.out 3).trans rfl
        have aqN:=aa dS.out 3
        have aj3:=eU.out
        have aj4:=jA.out
        have asX:w52.cell? ⟨dX,4,none⟩=some (.bool false):=(af dS.out 4).trans rfl
        have aqO:=aa dS.out 4
        have aj5:=eU.out
        have aj6:=jA.out
        refine afg (w1:=?_) (by rfl) rfl ?_ ?_
        rotate_left
        ·go_simp
         rfl
        refine hK.out _ _ ⟨((cell_far (p:=⟨dX,_,none⟩) eU.out _).trans (((cell_far (p:=⟨dX,_,none⟩) eU.out _).trans (((cell_far (p:=⟨dX,_,none⟩) eU.out _).trans (((cell_far (p:=⟨dX,_,none⟩) eU.out _).trans (((cell_far (p:=⟨dX,_,none⟩) eU.out _).trans (hHeld.1)))))))))),((cell_far (p:=⟨dX,_,none⟩) eU.out _).trans (((cell_far (p:=⟨dX,_,none⟩) eU.out _).trans (((cell_far (p:=⟨dX,_,none⟩) eU.out _).trans (((cell_far (p:=⟨dX,_,none⟩) eU.out _).trans (((cell_far (p:=⟨dX,_,none⟩) eU.out _).trans (hHeld.2.1)))))))))),((cell_far (p:=⟨dX,_,none⟩) eU.out _).trans (((cell_far (p:=⟨dX,_,none⟩) eU.out _).trans (((cell_far (p:=⟨dX,_,none⟩) eU.out _).trans (((cell_far (p:=⟨dX,_,none⟩) eU.out _).trans (((cell_far (p:=⟨dX,_,none⟩) eU.out _).trans (hHeld.2.2.1)))))))))),((cell_far (p:=⟨dX,_,none⟩) eU.out _).trans (((cell_far (p:=⟨dX,_,none⟩) eU.out _).trans (((cell_far (p:=⟨dX,_,none⟩) eU.out _).trans (((cell_far (p:=⟨dX,_,none⟩) eU.out _).trans (((cell_far (p:=⟨dX,_,none⟩) eU.out _).trans (hHeld.2.2.2.1)))))))))),((cell_far (p:=⟨dX,_,none⟩) eU.out _).trans (((cell_far (p:=⟨dX,_,none⟩) eU.out _).trans (((cell_far (p:=⟨dX,_,none⟩) eU.out _).trans (((cell_far (p:=⟨dX,_,none⟩) eU.out _).trans (((cell_far (p:=⟨dX,_,none⟩) eU.out _).trans (hHeld.2.2.2.2.1)))))))))),((cell_far (p:=⟨dX,_,none⟩) vT _).trans (((cell_far (p:=⟨dX,_,none⟩) vT _).trans (((cell_far (p:=⟨dX,_,none⟩) vT _).trans (((cell_far (p:=⟨dX,_,none⟩) vT _).trans (((cell_far (p:=⟨dX,_,none⟩) vT _).trans (hHeld.2.2.2.2.2.1)))))))))),((cell_far (p:=⟨dX,_,none⟩) vT _).trans (((cell_far (p:=⟨dX,_,none⟩) vT _).trans (((cell_far (p:=⟨dX,_,none⟩) vT _).trans (((cell_far (p:=⟨dX,_,none⟩) vT _).trans (((cell_far (p:=⟨dX,_,none⟩) vT _).trans (hHeld.2.2.2.2.2.2))))))))))⟩ (fun hHeld=>?_)
        clear hK K
        refine eG (i:=6) (N:=some 3) (v:=?_) (a':=?_) #[true,true,true,true,true,true,true,false] rfl rfl (fA lB.out av) (fun _ _ _ h=>h) (Or.inl ⟨by rfl,?_⟩) ?_ ?_
        rotate_left
        ·intro w'
         go_simp
         with_reducible rfl
        rotate_left
        ·simp only [Act.put,List.setIfInBounds_toArray,List.set_cons_zero,List.set_cons_succ,cS,cV]
         rfl
        refine eG (i:=7) (N:=some 4) (v:=?_) (a':=?_) #[true,true,true,true,true,true,true,true] rfl rfl (fA lB.out av) (fun _ _ _ h=>h) (Or.inl ⟨by rfl,?_⟩) ?_ ?_
        rotate_left
        ·intro w'
         go_simp
         with_reducible rfl
        rotate_left
        ·simp only [Act.put,List.setIfInBounds_toArray,List.set_cons_zero,List.set_cons_succ,cS,cV]
         rfl
        refine Gz (zN lB.out av) ?_
        try go_wp2
        refine bodyPost_ret (pS rfl _ _ dX 32 #[.bool t215,.slice qR t216.length qT,.string t219,.string t220,.bool t221] (0,0) _ rfl (by (with_reducible repeat (first|refine aK ?_ _|refine aV ?_|refine aJ ?_ _));refine cj (cs:=#[.bool t215,.slice qR t216.length qT,.string t219,.string t220,.bool false]) ?_ 4 _ rfl;(with_reducible repeat (first|refine aK ?_ _|refine aV ?_|refine aJ ?_ _));refine cj (cs:=#[.bool t215,.slice qR t216.length qT,.string t219,.string (⟨#[]⟩:ByteArray),.bool false]) ?_ 3 _ rfl;(with_reducible repeat (first|refine aK ?_ _|refine aV ?_|refine aJ ?_ _));refine cj (cs:=#[.bool t215,.slice qR t216.length qT,.string (⟨#[]⟩:ByteArray),.string (⟨#[]⟩:ByteArray),.bool false]) ?_ 2 _ rfl;(with_reducible repeat (first|refine aK ?_ _|refine aV ?_|refine aJ ?_ _));refine cj (cs:=#[.bool t215,.slice none 0 0,.string (⟨#[]⟩:ByteArray),.string (⟨#[]⟩:ByteArray),.bool false]) ?_ 1 _ rfl;(with_reducible repeat (first|refine aK ?_ _|refine aV ?_|refine aJ ?_ _));refine cj (cs:=#[.bool false,.slice none 0 0,.string (⟨#[]⟩:ByteArray),.string (⟨#[]⟩:ByteArray),.bool false]) ?_ 0 _ rfl;(with_reducible repeat (first|refine aK ?_ _|refine aV ?_|refine aJ ?_ _));exact dS.out) Tryz.underlying32 rfl av) rfl ?_
        exact ⟨_,cU,by (with_reducible repeat (first|apply Kd.fX|apply Kd.fY|apply Kd.gW));exact Kd.gp (Kd.cJ (p:=⟨dX,4,none⟩) (Kd.cJ (p:=⟨dX,3,none⟩) (Kd.cJ (p:=⟨dX,2,none⟩) (Kd.cJ (p:=⟨dX,1,none⟩) (Kd.cJ (p:=⟨dX,0,none⟩) (Kd.kj gU.out dS.out bL) (fun _ hk=>hk.2) (.bool t215)) (fun _ hk=>hk.2) (.slice qR t216.length qT)) (fun _ hk=>hk.2) (.string t219)) (fun _ hk=>hk.2) (.string t220)) (fun _ hk=>hk.2) (.bool t221)) (fun _ hk=>trivial),lY⟩
     ·replace IJ:=Bool.eq_false_iff.mpr IJ
      subst IJ
      have H1:(some (false,([]:List ByteArray),(⟨#[]⟩:ByteArray),(⟨#[]⟩:ByteArray),false,0,3))=some (r1,r2,r3,r4,r5,r6,r7):=by rw [if_neg (show ¬ (false=true) by decide)] at H;exact H
      clear H
      have H:=H1
      clear H1
      simp only [Option.some.injEq,Prod.mk.injEq] at H
      obtain ⟨rfl,rfl,rfl,rfl,rfl,rfl,rfl⟩:=H
      have aqP:=eU.out
      have aqQ:=jA.out
      have aqR:=tQ.out
      have aqS:=pQ.out
      have aj7:wc.cell? ⟨fQ,0,none⟩=some (.bool t215):=(af dO.out 0).trans rfl
      have aj8:wc.cell? ⟨fQ,1,none⟩=some (.slice qR t216.length qT):=(af dO.out 1).trans rfl
      have aj9:wc.cell? ⟨fQ,2,none⟩=some (.string t219):=(af dO.out 2).trans rfl
      have aka:wc.cell? ⟨fQ,3,none⟩=some (.string t220):=(af dO.out 3).trans rfl
      have akb:wc.cell? ⟨fQ,4,none⟩=some (.bool t221):=(af dO.out 4).trans rfl
      have akc:=aa dO.out 0
      have akd:=aa dO.out 1
      have ake:=aa dO.out 2
      have akf:=aa dO.out 3
      have akg:=aa dO.out 4
      go_wp2_with (first|((with_reducible refine aT (f:=58) rfl ?_);refine cC (some 38) rfl rfl Tryz.func58 av rfl #[.agg #[.string t219,.string t220,.bool t221]] rfl cY ?_;(with_reducible refine (eJ.calls Za t219 t220 t221 false _ ?bg A26.out).mono ?_);(case bg=>exact aW.below HG.out lY);rintro e w61 ⟨rfl,hb⟩;refine ⟨_,rfl,?_⟩;have bI:=ah.mk (Kd.dA Dr hb);have bP:=ah.mk (aR (g:=dX) (o:= .cells #[.bool false,.slice none 0 0,.string (⟨#[]⟩:ByteArray),.string (⟨#[]⟩:ByteArray),.bool false] 32 (0,0)) tV hb);have cw:=ah.mk (aR (g:=fQ) (o:= .cells #[.bool t215,.slice qR t216.length qT,.string t219,.string t220,.bool t221] 32 (0,0)) Bd hb);have cW:=ah.mk (ay.below wO hb);have jc:=ah.mk (az lY hb);clear gU;clear dS;clear dO;clear gS;clear HB;have gU:=bI;have dS:=bP;have dO:=cw;have gS:=cW;have HB:=jc;clear bI bP cw cW jc;(try clear hb);(try clear hb2);(try clear hk);(try clear hi);have aqT:=rF.out;have aqU:=lA.out;have akh:w61.cell? ⟨dX,0,none⟩=some (.bool false):=(af dS.out 0).trans rfl;have aki:w61.cell? ⟨dX,1,none⟩=some (.slice none 0 0):=(af dS.out 1).trans rfl;have akj:w61.cell? ⟨dX,2,none⟩=some (.string (⟨#[]⟩:ByteArray)):=(af dS.out 2).trans rfl;have akk:w61.cell? ⟨dX,3,none⟩=some (.string (⟨#[]⟩:ByteArray)):=(af dS.out 3).trans rfl;have akl:w61.cell? ⟨dX,4,none⟩=some (.bool false):=(af dS.out 4).trans rfl;have akm:=aa dS.out 0;have akn:=aa dS.out 1;have ako:=aa dS.out 2;have akp:=aa dS.out 3;have akq:=aa dS.out 4))
      refine bodyPost_ret (pS rfl _ _ dX 32 #[.bool false,.slice none 0 0,.string (⟨#[]⟩:ByteArray),.string (⟨#[]⟩:ByteArray),.bool false] (0,0) _ rfl JQ Tryz.underlying32 rfl av) rfl ?_
      exact ⟨_,cU,Dp,lY⟩
end Go.Proofs.YtokpnfljjjjikaaGreatDoor.n9
