import Derived.Test.YtokpnfljjjjikaaGreatDoorZo
import Derived.Test.YtokpnfljjjjikaaGreatDoorQCbx0
import Derived.Test.YtokpnfljjjjikaaGreatDoorQCbx3
import Derived.Test.YtokpnfljjjjikaaGreatDoorQCbx5
import Derived.Test.YtokpnfljjjjikaaGreatDoorQCbx8
import Derived.Test.YtokpnfljjjjikaaGreatDoorEInner
namespace Go.Proofs.YtokpnfljjjjikaaGreatDoor.pJ
open Go.RowKit Go.Proofs.aj.bV Go.Proofs.aj.gq Go.Proofs.aj.dB
attribute [local go_sem] jo jq kM kN iO iP jr jt
set_option linter.unusedVariables false
set_option linter.unusedSimpArgs false
def bS.j0:Nat→Bool→ByteArray→Int→Bool→List ByteArray→ByteArray→ByteArray→Bool→Option (Bool×List ByteArray×ByteArray×ByteArray×Bool×Int×Int)
 | 0,_,_,_,_,_,_,_,_ =>none
 |k + 1,x22,ahB,Yy,Yz,J8,RN,RO,RP=>if x22=true then (some (false,([]:List ByteArray),(⟨#[]⟩:ByteArray),(⟨#[]⟩:ByteArray),false,0,150)) else ((eN.f k RN RO RP).bind fun t229=>(if t229=true then (if (J8.length:Int) > 20 then (some (false,([]:List ByteArray),(⟨#[]⟩:ByteArray),(⟨#[]⟩:ByteArray),false,0,3)) else ((bD.f k J8).bind fun t230=>(if t230=true then (some (false,([]:List ByteArray),(⟨#[]⟩:ByteArray),(⟨#[]⟩:ByteArray),false,0,3)) else (some (Yz,J8,RN,RO,RP,Yy,0))))) else (some (false,([]:List ByteArray),(⟨#[]⟩:ByteArray),(⟨#[]⟩:ByteArray),false,0,3))))
def bS.f (k:Nat) (a0:ByteArray):Option (Bool×List ByteArray×ByteArray×ByteArray×Bool×Int×Int):=(strings_HasPrefix.f a0 (⟨#[60,62]⟩:ByteArray)).bind fun t210=>(if t210=true then (some (true,([]:List ByteArray),(⟨#[]⟩:ByteArray),(⟨#[]⟩:ByteArray),false,2,0)) else ((bq.f a0 0 60).bind fun sM=>((dm.f k sM.2.1 sM.2.2).bind fun dH=>(if sM.1=true then (if dH.2.2.2.2.2.1=true then ((bq.f dH.2.2.2.2.2.2.1 dH.2.2.2.2.2.2.2 62).bind fun kU=>(bS.j0 k (!kU.1) kU.2.1 kU.2.2 dH.1 dH.2.1 dH.2.2.1 dH.2.2.2.1 dH.2.2.2.2.1)) else (bS.j0 k true dH.2.2.2.2.2.2.1 dH.2.2.2.2.2.2.2 dH.1 dH.2.1 dH.2.2.1 dH.2.2.2.1 dH.2.2.2.2.1)) else (bS.j0 k true dH.2.2.2.2.2.2.1 dH.2.2.2.2.2.2.2 dH.1 dH.2.1 dH.2.2.1 dH.2.2.2.1 dH.2.2.2.2.1)))))
theorem bS.gf:∀ k,(∀ y0 y1 y2 y3 y4 y5 y6 y7,cN (bS.j0 k y0 y1 y2 y3 y4 y5 y6 y7) (bS.j0 (k + 1) y0 y1 y2 y3 y4 y5 y6 y7))
 | 0=>fun _ _ _ _ _ _ _ _ r h=>by simp [bS.j0] at h
 |k + 1=>by
  have oo:=bS.gf k
  ·intro y0 y1 y2 y3 y4 y5 y6 y7
   unfold bS.j0
   repeat' first
   |(with_reducible exact oo _ _ _ _ _ _ _ _)
   |(with_reducible exact dm.mono _ _ _)
   |(with_reducible exact eN.mono _ _ _ _)
   |(with_reducible exact bD.mono _ _)
   |(with_reducible exact cN.refl _)
   |(with_reducible exact cN.none _)
   |(with_reducible refine cN.ite ?_ ?_)
   |(with_reducible refine cN.bind ?_ (fun _ =>?_))
   |refine cN.ite ?_ ?_
   |refine cN.bind ?_ (fun _ =>?_)
theorem bS.mono:∀ a0 k,cN (bS.f k a0) (bS.f (k + 1) a0):=by
 intro a0 k
 have oo:=bS.gf k
 unfold bS.f
 repeat' first
  |(with_reducible exact oo _ _ _ _ _ _ _ _)
  |(with_reducible exact dm.mono _ _ _)
  |(with_reducible exact eN.mono _ _ _ _)
  |(with_reducible exact bD.mono _ _)
  |(with_reducible exact cN.refl _)
  |(with_reducible exact cN.none _)
  |(with_reducible refine cN.ite ?_ ?_)
  |(with_reducible refine cN.bind ?_ (fun _ =>?_))
  |refine cN.ite ?_ ?_
  |refine cN.bind ?_ (fun _ =>?_)
def bS.T10:Bool×List (List Nat×List Nat):=(true,[([],[]),([],[]),([1],[1]),([2],[2]),([3],[3]),([0,0],[0]),([4,5,0,1,2,3,4,5],[4]),([6,0,1,2,3,4,5,6],[])])
def bS.B10:List Nat:=[0,0,2,6,14,1,63,127]
theorem bS.aev:sH .any (opsOf Tryz.f17 10)=bS.T10:=by kernel_rfl
theorem bS.abH:u5 bS.T10.2 bS.B10=true:=by kernel_rfl
set_option maxHeartbeats 8000000 in
set_option maxRecDepth 100000 in
theorem bS.calls (k:Nat) (a0:ByteArray) (r1:Bool) (r2:List ByteArray) (r3:ByteArray) (r4:ByteArray) (r5:Bool) (r6:Int) (r7:Int) (w:World) (hG:aU w) (h:bS.f k a0=some (r1,r2,r3,r4,r5,r6,r7)):
 Calls Tryz.prog 17 #[.string a0] w fun e w'=>∃ RM:Value,e= .returned (.tuple #[.agg #[.bool r1,RM,.string r3,.string r4,.bool r5],.int .i64 r6,.int .i64 r7])∧Kd.R Kd.string 9 w' w.heap.size (fun _ =>True) RM r2∧Below w.heap.size w w':=by
 have Oi:=Tryz.underlying32
 have amu:=Tryz.underlying82
 have LP:=Tryz.underlying30
 have HB:=ah.mk (Below.refl w.heap.size w)
 have HG:=ah.mk hG
 clear hG
 have H:((strings_HasPrefix.f a0 (⟨#[60,62]⟩:ByteArray)).bind fun t210=>(if t210=true then (some (true,([]:List ByteArray),(⟨#[]⟩:ByteArray),(⟨#[]⟩:ByteArray),false,2,0)) else ((bq.f a0 0 60).bind fun sM=>((dm.f k sM.2.1 sM.2.2).bind fun dH=>(if sM.1=true then (if dH.2.2.2.2.2.1=true then ((bq.f dH.2.2.2.2.2.2.1 dH.2.2.2.2.2.2.2 62).bind fun kU=>(bS.j0 k (!kU.1) kU.2.1 kU.2.2 dH.1 dH.2.1 dH.2.2.1 dH.2.2.2.1 dH.2.2.2.2.1)) else (bS.j0 k true dH.2.2.2.2.2.2.1 dH.2.2.2.2.2.2.2 dH.1 dH.2.1 dH.2.2.1 dH.2.2.2.1 dH.2.2.2.2.1)) else (bS.j0 k true dH.2.2.2.2.2.2.1 dH.2.2.2.2.2.2.2 dH.1 dH.2.1 dH.2.2.1 dH.2.2.2.1 dH.2.2.2.2.1))))))=some (r1,r2,r3,r4,r5,r6,r7):=h
 clear h
 replace H:=Option.bind_eq_some_iff.mp H
 obtain ⟨t210,nU,H⟩:=H
 replace H:(if t210=true then (some (true,([]:List ByteArray),(⟨#[]⟩:ByteArray),(⟨#[]⟩:ByteArray),false,2,0)) else ((bq.f a0 0 60).bind fun sM=>((dm.f k sM.2.1 sM.2.2).bind fun dH=>(if sM.1=true then (if dH.2.2.2.2.2.1=true then ((bq.f dH.2.2.2.2.2.2.1 dH.2.2.2.2.2.2.2 62).bind fun kU=>(bS.j0 k (!kU.1) kU.2.1 kU.2.2 dH.1 dH.2.1 dH.2.2.1 dH.2.2.2.1 dH.2.2.2.2.1)) else (bS.j0 k true dH.2.2.2.2.2.2.1 dH.2.2.2.2.2.2.2 dH.1 dH.2.1 dH.2.2.1 dH.2.2.2.1 dH.2.2.2.2.1)) else (bS.j0 k true dH.2.2.2.2.2.2.1 dH.2.2.2.2.2.2.2 dH.1 dH.2.1 dH.2.2.1 dH.2.2.2.1 dH.2.2.2.2.1)))))=some (r1,r2,r3,r4,r5,r6,r7):=H
 have A2:=ah.mk nU
 clear nU
 by_cases c3:t210=true
 ·subst c3
  have H1:(some (true,([]:List ByteArray),(⟨#[]⟩:ByteArray),(⟨#[]⟩:ByteArray),false,2,0))=some (r1,r2,r3,r4,r5,r6,r7):=by rw [if_pos rfl] at H;exact H
  clear H
  have H:=H1
  clear H1
  simp only [Option.some.injEq,Prod.mk.injEq] at H
  obtain ⟨rfl,rfl,rfl,rfl,rfl,rfl,rfl⟩:=H
  go_enter Tryz.func17,Tryz.ntmps17
  go_wp2_with (first|((with_reducible refine cC (N:=2) rfl ?_);(try (refine cO (by rfl) ?_;dsimp only));refine b9 ?hg (N:=2) ?hd (cs:=#[.bool false,.slice none 0 0,.string (⟨#[]⟩:ByteArray),.string (⟨#[]⟩:ByteArray),.bool false]) (t:=32) ?hr ?_;(case hd=>rfl);(case hg=>rfl);(case hr=>first|(go_simp;done)|(go_simp;rfl));intro eu hg w4 cJ hb;have bB:=ah.mk (ay bN hb);have bL:=ah.mk (cJ);have bY:=ah.mk ((dz:w.heap.size≤eu));have cK:=ah.mk ((dz:w.heap.size≤eu));clear HB;have HB:=bB;have dX:=bL;have aew:=bY;have zh:=cK;clear bB bL bY cK;clear hb cJ hg)|((with_reducible refine aQ (f:=37) rfl ?_);refine cu (some 10) rfl rfl Tryz.func37 av rfl #[.string a0,.string (⟨#[60,62]⟩:ByteArray)] rfl cT ?_;(with_reducible refine (strings_HasPrefix.calls a0 (⟨#[60,62]⟩:ByteArray) true _ A2.out).mono ?_);rintro e w' ⟨rfl,⟨nd,rfl⟩⟩;refine ⟨_,rfl,?_⟩;(try (rw [Fk w4];generalize hq_:World.drewN w4 _=w4;have bB:ah (w4.heap[eu]? =some (.cells #[.bool false,.slice none 0 0,.string (⟨#[]⟩:ByteArray),.string (⟨#[]⟩:ByteArray),.bool false] 32 (0,0))):=⟨P6⟩;have bL:ah (Below w.heap.size w w4):=⟨PY⟩;clear dX HB hq_;have dX:=bB;have HB:=bL;clear bB bL));have J4:w4.cell? ⟨eu,0,none⟩=some (.bool false):=(af dX.out 0).trans rfl;have J5:w4.cell? ⟨eu,1,none⟩=some (.slice none 0 0):=(af dX.out 1).trans rfl;have OO:w4.cell? ⟨eu,2,none⟩=some (.string (⟨#[]⟩:ByteArray)):=(af dX.out 2).trans rfl;have V8:w4.cell? ⟨eu,3,none⟩=some (.string (⟨#[]⟩:ByteArray)):=(af dX.out 3).trans rfl;have V9:w4.cell? ⟨eu,4,none⟩=some (.bool false):=(af dX.out 4).trans rfl;have J6:=aa dX.out 0;have J7:=aa dX.out 1;have OP:=aa dX.out 2;have Wa:=aa dX.out 3;have Wb:=aa dX.out 4))
  refine bodyPost_ret (pH rfl _ _ eu 32 #[.bool true,.slice none 0 0,.string (⟨#[]⟩:ByteArray),.string (⟨#[]⟩:ByteArray),.bool false] (0,0) _ rfl (by (with_reducible repeat (first|refine au ?_ _|refine aG ?_|refine az ?_ _));refine bw (cs:=#[.bool true,.slice none 0 0,.string (⟨#[]⟩:ByteArray),.string (⟨#[]⟩:ByteArray),.bool false]) ?_ 4 _ rfl;(with_reducible repeat (first|refine au ?_ _|refine aG ?_|refine az ?_ _));refine bw (cs:=#[.bool true,.slice none 0 0,.string (⟨#[]⟩:ByteArray),.string (⟨#[]⟩:ByteArray),.bool false]) ?_ 3 _ rfl;(with_reducible repeat (first|refine au ?_ _|refine aG ?_|refine az ?_ _));refine bw (cs:=#[.bool true,.slice none 0 0,.string (⟨#[]⟩:ByteArray),.string (⟨#[]⟩:ByteArray),.bool false]) ?_ 2 _ rfl;(with_reducible repeat (first|refine au ?_ _|refine aG ?_|refine az ?_ _));refine bw (cs:=#[.bool true,.slice none 0 0,.string (⟨#[]⟩:ByteArray),.string (⟨#[]⟩:ByteArray),.bool false]) ?_ 1 _ rfl;(with_reducible repeat (first|refine au ?_ _|refine aG ?_|refine az ?_ _));refine bw (cs:=#[.bool false,.slice none 0 0,.string (⟨#[]⟩:ByteArray),.string (⟨#[]⟩:ByteArray),.bool false]) ?_ 0 _ rfl;(with_reducible repeat (first|refine au ?_ _|refine aG ?_|refine az ?_ _));exact dX.out) Tryz.underlying32 rfl av) rfl ?_
  exact ⟨_,cR,xQ,Uh⟩
 ·replace c3:=Bool.eq_false_iff.mpr c3
  subst c3
  have H1:((bq.f a0 0 60).bind fun sM=>((dm.f k sM.2.1 sM.2.2).bind fun dH=>(if sM.1=true then (if dH.2.2.2.2.2.1=true then ((bq.f dH.2.2.2.2.2.2.1 dH.2.2.2.2.2.2.2 62).bind fun kU=>(bS.j0 k (!kU.1) kU.2.1 kU.2.2 dH.1 dH.2.1 dH.2.2.1 dH.2.2.2.1 dH.2.2.2.2.1)) else (bS.j0 k true dH.2.2.2.2.2.2.1 dH.2.2.2.2.2.2.2 dH.1 dH.2.1 dH.2.2.1 dH.2.2.2.1 dH.2.2.2.2.1)) else (bS.j0 k true dH.2.2.2.2.2.2.1 dH.2.2.2.2.2.2.2 dH.1 dH.2.1 dH.2.2.1 dH.2.2.2.1 dH.2.2.2.2.1))))=some (r1,r2,r3,r4,r5,r6,r7):=by rw [if_neg (show ¬ (false=true) by decide)] at H;exact H
  clear H
  have H:=H1
  clear H1
  replace H:=Option.bind_eq_some_iff.mp H
  obtain ⟨⟨t212,t213,t214⟩,xw,H⟩:=H
  replace H:((dm.f k t213 t214).bind fun dH=>(if t212=true then (if dH.2.2.2.2.2.1=true then ((bq.f dH.2.2.2.2.2.2.1 dH.2.2.2.2.2.2.2 62).bind fun kU=>(bS.j0 k (!kU.1) kU.2.1 kU.2.2 dH.1 dH.2.1 dH.2.2.1 dH.2.2.2.1 dH.2.2.2.2.1)) else (bS.j0 k true dH.2.2.2.2.2.2.1 dH.2.2.2.2.2.2.2 dH.1 dH.2.1 dH.2.2.1 dH.2.2.2.1 dH.2.2.2.2.1)) else (bS.j0 k true dH.2.2.2.2.2.2.1 dH.2.2.2.2.2.2.2 dH.1 dH.2.1 dH.2.2.1 dH.2.2.2.1 dH.2.2.2.2.1)))=some (r1,r2,r3,r4,r5,r6,r7):=H
  have A6:=ah.mk xw
  clear xw
  replace H:=Option.bind_eq_some_iff.mp H
  obtain ⟨⟨t215,t216,t219,t220,t221,t222,t223,t224⟩,Hg,H⟩:=H
  replace H:(if t212=true then (if t222=true then ((bq.f t223 t224 62).bind fun kU=>(bS.j0 k (!kU.1) kU.2.1 kU.2.2 t215 t216 t219 t220 t221)) else (bS.j0 k true t223 t224 t215 t216 t219 t220 t221)) else (bS.j0 k true t223 t224 t215 t216 t219 t220 t221))=some (r1,r2,r3,r4,r5,r6,r7):=H
  have A7:=ah.mk Hg
  clear Hg
  have HC8:=ah.mk H
  clear H
  go_enter Tryz.func17,Tryz.ntmps17
  go_upto_region 6 with (first|((with_reducible refine cC (N:=2) rfl ?_);(try (refine cO (by rfl) ?_;dsimp only));refine b9 ?hg (N:=2) ?hd (cs:=#[.bool false,.slice none 0 0,.string (⟨#[]⟩:ByteArray),.string (⟨#[]⟩:ByteArray),.bool false]) (t:=32) ?hr ?_;(case hd=>rfl);(case hg=>rfl);(case hr=>first|(go_simp;done)|(go_simp;rfl));intro eu hg w9 cJ hb;have bB:=ah.mk (ay bN hb);have bL:=ah.mk (cJ);have bY:=ah.mk ((dz:w.heap.size≤eu));have cK:=ah.mk ((dz:w.heap.size≤eu));clear HB;have HB:=bB;have dX:=bL;have aew:=bY;have zh:=cK;clear bB bL bY cK;clear hb cJ hg)|((with_reducible refine aQ (f:=37) rfl ?_);refine cu (some 10) rfl rfl Tryz.func37 av rfl #[.string a0,.string (⟨#[60,62]⟩:ByteArray)] rfl cT ?_;(with_reducible refine (strings_HasPrefix.calls a0 (⟨#[60,62]⟩:ByteArray) false _ A2.out).mono ?_);rintro e w' ⟨rfl,⟨nd,rfl⟩⟩;refine ⟨_,rfl,?_⟩;(try (rw [Fk w9];generalize hq_:World.drewN w9 _=w9;have bB:ah (w9.heap[eu]? =some (.cells #[.bool false,.slice none 0 0,.string (⟨#[]⟩:ByteArray),.string (⟨#[]⟩:ByteArray),.bool false] 32 (0,0))):=⟨P6⟩;have bL:ah (Below w.heap.size w w9):=⟨PY⟩;clear dX HB hq_;have dX:=bB;have HB:=bL;clear bB bL)))|((with_reducible refine cC (N:=14) rfl ?_);(try (refine cO (by rfl) ?_;dsimp only));refine b9 ?hg (N:=14) ?hd (cs:=#[.string a0,.int .i64 0]) (t:=82) ?hr ?_;(case hd=>rfl);(case hg=>rfl);(case hr=>first|(go_simp;done)|(go_simp;rfl));intro qy hg uk cJ hb;have bB:=ah.mk (aM (g:=eu) (o:= .cells #[.bool false,.slice none 0 0,.string (⟨#[]⟩:ByteArray),.string (⟨#[]⟩:ByteArray),.bool false] 32 (0,0)) sy hb);have bL:=ah.mk (ay Uh hb);have bY:=ah.mk ((⟨cJ,IB⟩:aA w uk qy a0 0));have cK:=ah.mk ((IB:w.heap.size≤qy));have gY:=ah.mk ((IB:w.heap.size≤qy));have jc:=ah.mk ((PR:eu≠qy));have nH:=ah.mk ((PT:qy≠eu));clear dX;clear HB;have dX:=bB;have HB:=bL;have gT:=bY;have aoz:=cK;have aoA:=gY;have qK:=jc;have lA:=nH;clear bB bL bY cK gY jc nH;clear hb cJ hg)|((with_reducible refine aQ (f:=56) rfl ?_);refine cu (some 16) rfl rfl Tryz.func56 av rfl #[.pointer (some ⟨qy,0,none⟩),.int .u8 60] rfl cT ?_;(with_reducible refine (bq.calls qy a0 0 60 t212 t213 t214 w _ ?aX ?bT A6.out).mono ?_);(case aX=>repeat (first|(with_reducible first|exact gT.out|apply aA.alloc|apply aA.drewN|apply aA.drew|apply aA.fZ|apply aA.fV|refine aA.far ?_ lA.out _)|exact gT.out));(case bT=>repeat (first|(with_reducible first|exact HB.out|apply aB|apply aC|apply br|refine bh ?_ (aA.ge gT.out)|refine bh ?_ zh.out)|exact HB.out));rintro e w11 ⟨rfl,hi,hb,hk⟩;refine ⟨_,rfl,?_⟩;have bB:=ah.mk (bC.blk hk (g':=eu) (o:= .cells #[.bool false,.slice none 0 0,.string (⟨#[]⟩:ByteArray),.string (⟨#[]⟩:ByteArray),.bool false] 32 (0,0)) sy qK.out bn);have bL:=ah.mk (hb);have bY:=ah.mk (hi);clear dX;clear HB;clear gT;have dX:=bB;have HB:=bL;have gT:=bY;clear bB bL bY;(try clear hb);(try clear hb2);(try clear hk);(try clear hi))|((with_reducible refine aQ (f:=57) rfl ?_);refine cu (some 19) rfl rfl Tryz.func57 av rfl #[.pointer (some ⟨qy,0,none⟩)] rfl cT ?_;(with_reducible refine (dm.calls k qy t213 t214 t215 t216 t219 t220 t221 t222 t223 t224 w _ ?aX ?bT ?eo A7.out).mono ?_);(case aX=>repeat (first|(with_reducible first|exact gT.out|apply aA.alloc|apply aA.drewN|apply aA.drew|apply aA.fZ|apply aA.fV|refine aA.far ?_ lA.out _)|exact gT.out));(case bT=>repeat (first|(with_reducible first|exact HB.out|apply aB|apply aC|apply br|refine bh ?_ (aA.ge gT.out)|refine bh ?_ zh.out)|exact HB.out));(case eo=>exact HG.out);rintro e Rv ⟨aqz,rfl,ho0,hi,hb,hk⟩;refine ⟨_,rfl,?_⟩;have bB:=ah.mk (bC.blk hk (g':=eu) (o:= .cells #[.bool false,.slice none 0 0,.string (⟨#[]⟩:ByteArray),.string (⟨#[]⟩:ByteArray),.bool false] 32 (0,0)) sy qK.out bn);have bL:=ah.mk (Kd.eF ho0 (cE PK));have bY:=ah.mk (hb);have cK:=ah.mk (hi);clear dX;clear HB;clear gT;have dX:=bB;have Cx:=bL;have HB:=bY;have gT:=cK;clear bB bL bY cK;(try clear hb);(try clear hb2);(try clear hk);(try clear hi);(try clear ho0))|((with_reducible refine cC (N:=7) rfl ?_);(try (refine cO (by rfl) ?_;dsimp only));refine b9 ?hg (N:=7) ?hd (cs:=#[.bool false,.slice none 0 0,.string (⟨#[]⟩:ByteArray),.string (⟨#[]⟩:ByteArray),.bool false]) (t:=32) ?hr ?_;(case hd=>rfl);(case hg=>rfl);(case hr=>first|(go_simp;done)|(go_simp;rfl));intro fW hg mA cJ hb;have bB:=ah.mk (Kd.bP Qa hb);have bL:=ah.mk (aM (g:=eu) (o:= .cells #[.bool false,.slice none 0 0,.string (⟨#[]⟩:ByteArray),.string (⟨#[]⟩:ByteArray),.bool false] 32 (0,0)) sy hb);have bY:=ah.mk (aA.below (by repeat (first|(with_reducible first|exact gT.out|apply aA.alloc|apply aA.drewN|apply aA.drew|apply aA.fZ|apply aA.fV|refine aA.far ?_ lA.out _)|exact gT.out)) hb);have cK:=ah.mk (ay PK hb);have gY:=ah.mk (cJ);have jc:=ah.mk ((PU:w.heap.size≤fW));have nH:=ah.mk ((PU:w.heap.size≤fW));have zq:=ah.mk ((PR:eu≠fW));have Bo:=ah.mk ((PT:fW≠eu));have Mz:=ah.mk ((by rw [hg];exact Nat.ne_of_lt (aA.lt (show aA w _ qy t223 t224 from by repeat (first|(with_reducible first|exact gT.out|apply aA.alloc|apply aA.drewN|apply aA.drew|apply aA.fZ|apply aA.fV|refine aA.far ?_ lA.out _)|exact gT.out))):qy≠fW));have xA:=ah.mk ((by rw [hg];exact Nat.ne_of_gt (aA.lt (show aA w _ qy t223 t224 from by repeat (first|(with_reducible first|exact gT.out|apply aA.alloc|apply aA.drewN|apply aA.drew|apply aA.fZ|apply aA.fV|refine aA.far ?_ lA.out _)|exact gT.out))):fW≠qy));clear Cx;clear dX;clear gT;clear HB;have Cx:=bB;have dX:=bL;have gT:=bY;have HB:=cK;have dP:=gY;have aoB:=jc;have Z3:=nH;have jz:=zq;have eX:=Bo;have pF:=Mz;have sj:=xA;clear bB bL bY cK gY jc nH zq Bo Mz xA;clear hb cJ hg;have adI:=eX.out;have adJ:=jz.out;have aex:=sj.out;have aey:=pF.out;have nO:mA.cell? ⟨fW,0,none⟩=some (.bool false):=(af dP.out 0).trans rfl;have nP:mA.cell? ⟨fW,1,none⟩=some (.slice none 0 0):=(af dP.out 1).trans rfl;have qR:mA.cell? ⟨fW,2,none⟩=some (.string (⟨#[]⟩:ByteArray)):=(af dP.out 2).trans rfl;have s9:mA.cell? ⟨fW,3,none⟩=some (.string (⟨#[]⟩:ByteArray)):=(af dP.out 3).trans rfl;have td:mA.cell? ⟨fW,4,none⟩=some (.bool false):=(af dP.out 4).trans rfl;have nQ:=aa dP.out 0;have nR:=aa dP.out 1;have qT:=aa dP.out 2;have tj:=aa dP.out 3;have tq:=aa dP.out 4;obtain ⟨qo,qp,abI⟩:=Kd.dn Cx.out;subst abI))
  (try simp only [Act.put,List.setIfInBounds_toArray,List.set_cons_zero,List.set_cons_succ])
  go_cut [22] (fun v22 wc=>∃ (kq:Nat) (RQ:Bool) (yR:ByteArray) (nV:Int),v22= .bool RQ∧ah (bS.j0 kq RQ yR nV t215 t216 t219 t220 t221=some (r1,r2,r3,r4,r5,r6,r7))∧ah (kq≤k)∧ah (Kd.R Kd.string 9 wc w.heap.size (fun _ =>True) (.slice qo t216.length qp) t216)∧ah (wc.heap[eu]? =some (.cells #[.bool false,(.slice none 0 0),.string (⟨#[]⟩:ByteArray),.string (⟨#[]⟩:ByteArray),.bool false] 32 (0,0)))∧ah (wc.heap[fW]? =some (.cells #[.bool t215,(.slice qo t216.length qp),.string t219,.string t220,.bool t221] 32 (0,0)))∧ah (aA w wc qy yR nV)∧ah (Below w.heap.size w wc))
  case first=>
   have H:=HC8.out
   clear HC8
   by_cases c18:t212=true
   ·subst c18
    have H1:(if t222=true then ((bq.f t223 t224 62).bind fun kU=>(bS.j0 k (!kU.1) kU.2.1 kU.2.2 t215 t216 t219 t220 t221)) else (bS.j0 k true t223 t224 t215 t216 t219 t220 t221))=some (r1,r2,r3,r4,r5,r6,r7):=by rw [if_pos rfl] at H;exact H
    clear H
    have H:=H1
    clear H1
    by_cases c19:t222=true
    ·subst c19
     have H1:((bq.f t223 t224 62).bind fun kU=>(bS.j0 k (!kU.1) kU.2.1 kU.2.2 t215 t216 t219 t220 t221))=some (r1,r2,r3,r4,r5,r6,r7):=by rw [if_pos rfl] at H;exact H
     clear H
     have H:=H1
     clear H1
     replace H:=Option.bind_eq_some_iff.mp H
     obtain ⟨⟨t226,t227,t228⟩,Wc,H⟩:=H
     replace H:(bS.j0 k (!t226) t227 t228 t215 t216 t219 t220 t221)=some (r1,r2,r3,r4,r5,r6,r7):=H
     have nU:=ah.mk Wc
     clear Wc
     have H':=ah.mk H
     clear H
     go_wp2_with (first|(go_at_call 56;(with_reducible refine (bq.calls qy t223 t224 62 t226 t227 t228 w _ ?aX ?bT nU.out).mono ?_);(case aX=>repeat (first|(with_reducible first|exact gT.out|apply aA.alloc|apply aA.drewN|apply aA.drew|apply aA.fZ|apply aA.fV|refine aA.far ?_ lA.out _|refine aA.far ?_ pF.out _)|exact gT.out));(case bT=>repeat (first|(with_reducible first|exact HB.out|apply aB|apply aC|apply br|refine bh ?_ (aA.ge gT.out)|refine bh ?_ zh.out|refine bh ?_ Z3.out)|exact HB.out));rintro e w21 ⟨rfl,hi,hb,hk⟩;have bB:=ah.mk (bC.blk hk (g':=eu) (o:= .cells #[.bool false,.slice none 0 0,.string (⟨#[]⟩:ByteArray),.string (⟨#[]⟩:ByteArray),.bool false] 32 (0,0)) NT qK.out bn);have bL:=ah.mk (Kd.ez (Kd.sG (aA.apart (show aA w _ qy t223 t224 from by repeat (first|(with_reducible first|exact gT.out|apply aA.alloc|apply aA.drewN|apply aA.drew|apply aA.fZ|apply aA.fV|refine aA.far ?_ lA.out _|refine aA.far ?_ pF.out _)|exact gT.out)) (by (with_reducible repeat (first|apply Kd.dR|apply Kd.dW|apply Kd.eW));exact (Kd.ez (Kd.aY (p:=⟨fW,4,none⟩) (Kd.aY (p:=⟨fW,3,none⟩) (Kd.aY (p:=⟨fW,2,none⟩) (Kd.aY (p:=⟨fW,1,none⟩) (Kd.aY (p:=⟨fW,0,none⟩) (Kd.fG Cx.out dP.out bU) (fun _ hk=>hk.2) (.bool t215)) (fun _ hk=>hk.2) (.slice qo t216.length qp)) (fun _ hk=>hk.2) (.string t219)) (fun _ hk=>hk.2) (.string t220)) (fun _ hk=>hk.2) (.bool t221)) (fun _ h_ =>h_.1))) bU) hk (fun _ h=>h.2)) (fun _ h=>h.1));have bY:=ah.mk (bC.blk hk (g':=fW) (o:= .cells #[.bool t215,.slice qo t216.length qp,.string t219,.string t220,.bool t221] 32 (0,0)) NR sj.out bn);have cK:=ah.mk (hb);have gY:=ah.mk (hi);clear dX;clear Cx;clear dP;clear HB;clear gT;have dX:=bB;have Cx:=bL;have dP:=bY;have HB:=cK;have gT:=gY;clear bB bL bY cK gY;(try clear hb);(try clear hb2);(try clear hk);(try clear hi)))
     go_meet
     case rel=>exact ⟨_,(!t226),(t227),(t228),ey,H',⟨lU⟩,⟨Qa⟩,⟨sy⟩,⟨zB⟩,⟨uS⟩,⟨lZ⟩⟩
    ·replace c19:=Bool.eq_false_iff.mpr c19
     subst c19
     have H1:(bS.j0 k true t223 t224 t215 t216 t219 t220 t221)=some (r1,r2,r3,r4,r5,r6,r7):=by rw [if_neg (show ¬ (false=true) by decide)] at H;exact H
     clear H
     have H:=H1
     clear H1
     have H':=ah.mk H
     clear H
     go_wp2
     go_meet
     case rel=>exact ⟨_,(true),(t223),(t224),ey,H',⟨lU⟩,⟨PL⟩,⟨NT⟩,⟨NR⟩,⟨uS⟩,⟨lZ⟩⟩
   ·replace c18:=Bool.eq_false_iff.mpr c18
    subst c18
    have H1:(bS.j0 k true t223 t224 t215 t216 t219 t220 t221)=some (r1,r2,r3,r4,r5,r6,r7):=by rw [if_neg (show ¬ (false=true) by decide)] at H;exact H
    clear H
    have H:=H1
    clear H1
    have H':=ah.mk H
    clear H
    go_wp2
    go_meet
    case rel=>exact ⟨_,(true),(t223),(t224),ey,H',⟨lU⟩,⟨PL⟩,⟨NT⟩,⟨NR⟩,⟨uS⟩,⟨lZ⟩⟩
  case rest=>
   clear HC8
   try clear c1
   try clear p2
   try clear c3
   try clear c5
   try clear c14
   try clear c15
   try clear c17
   try clear c18
   try clear c19
   try clear nO
   try clear nP
   try clear qR
   try clear s9
   try clear td
   try clear J4
   try clear J5
   try clear OO
   try clear V8
   try clear V9
   try clear nQ
   try clear nR
   try clear qT
   try clear tj
   try clear tq
   try clear J6
   try clear J7
   try clear OP
   try clear Wa
   try clear Wb
   obtain ⟨kq,RQ,yR,nV,rfl,HA,HJ7,gV,dX,dP,gT,HB⟩:=hcut
   cases kq with
   |zero=>exact absurd HA.out (by simp [bS.j0])
   |succ Xr=>
    have H:=HA.out
    clear HA
    simp only [bS.j0] at H
    by_cases GG:RQ=true
    ·subst GG
     have H1:(some (false,([]:List ByteArray),(⟨#[]⟩:ByteArray),(⟨#[]⟩:ByteArray),false,0,150))=some (r1,r2,r3,r4,r5,r6,r7):=by rw [if_pos rfl] at H;exact H
     clear H
     have H:=H1
     clear H1
     simp only [Option.some.injEq,Prod.mk.injEq] at H
     obtain ⟨rfl,rfl,rfl,rfl,rfl,rfl,rfl⟩:=H
     have adR:=jz.out
     have adS:=eX.out
     have aem:=qK.out
     have aen:=lA.out
     have ud:wc.cell? ⟨eu,0,none⟩=some (.bool false):=(af dX.out 0).trans rfl
     have ue:wc.cell? ⟨eu,1,none⟩=some (.slice none 0 0):=(af dX.out 1).trans rfl
     have uf:wc.cell? ⟨eu,2,none⟩=some (.string (⟨#[]⟩:ByteArray)):=(af dX.out 2).trans rfl
     have yC:wc.cell? ⟨eu,3,none⟩=some (.string (⟨#[]⟩:ByteArray)):=(af dX.out 3).trans rfl
     have yD:wc.cell? ⟨eu,4,none⟩=some (.bool false):=(af dX.out 4).trans rfl
     have ug:=aa dX.out 0
     have uh:=aa dX.out 1
     have uj:=aa dX.out 2
     have yE:=aa dX.out 3
     have yF:=aa dX.out 4
     go_wp2
     refine bodyPost_ret (pH rfl _ _ eu 32 #[.bool false,.slice none 0 0,.string (⟨#[]⟩:ByteArray),.string (⟨#[]⟩:ByteArray),.bool false] (0,0) _ rfl Ik Tryz.underlying32 rfl av) rfl ?_
     exact ⟨_,cR,xQ,lZ⟩
    ·replace GG:=Bool.eq_false_iff.mpr GG
     subst GG
     have H1:((eN.f Xr t219 t220 t221).bind fun t229=>(if t229=true then (if (t216.length:Int) > 20 then (some (false,([]:List ByteArray),(⟨#[]⟩:ByteArray),(⟨#[]⟩:ByteArray),false,0,3)) else ((bD.f Xr t216).bind fun t230=>(if t230=true then (some (false,([]:List ByteArray),(⟨#[]⟩:ByteArray),(⟨#[]⟩:ByteArray),false,0,3)) else (some (t215,t216,t219,t220,t221,nV,0))))) else (some (false,([]:List ByteArray),(⟨#[]⟩:ByteArray),(⟨#[]⟩:ByteArray),false,0,3))))=some (r1,r2,r3,r4,r5,r6,r7):=by rw [if_neg (show ¬ (false=true) by decide)] at H;exact H
     clear H
     have H:=H1
     clear H1
     replace H:=Option.bind_eq_some_iff.mp H
     obtain ⟨t229,aez,H⟩:=H
     replace H:(if t229=true then (if (t216.length:Int) > 20 then (some (false,([]:List ByteArray),(⟨#[]⟩:ByteArray),(⟨#[]⟩:ByteArray),false,0,3)) else ((bD.f Xr t216).bind fun t230=>(if t230=true then (some (false,([]:List ByteArray),(⟨#[]⟩:ByteArray),(⟨#[]⟩:ByteArray),false,0,3)) else (some (t215,t216,t219,t220,t221,nV,0))))) else (some (false,([]:List ByteArray),(⟨#[]⟩:ByteArray),(⟨#[]⟩:ByteArray),false,0,3)))=some (r1,r2,r3,r4,r5,r6,r7):=H
     have A26:=ah.mk aez
     clear aez
     by_cases Re:t229=true
     ·subst Re
      have H1:(if (t216.length:Int) > 20 then (some (false,([]:List ByteArray),(⟨#[]⟩:ByteArray),(⟨#[]⟩:ByteArray),false,0,3)) else ((bD.f Xr t216).bind fun t230=>(if t230=true then (some (false,([]:List ByteArray),(⟨#[]⟩:ByteArray),(⟨#[]⟩:ByteArray),false,0,3)) else (some (t215,t216,t219,t220,t221,nV,0)))))=some (r1,r2,r3,r4,r5,r6,r7):=by rw [if_pos rfl] at H;exact H
      clear H
      have H:=H1
      clear H1
      by_cases c28:(t216.length:Int) > 20
      ·rw [if_pos c28] at H
       have Hl:decide (20 < (t216.length:Int))=true:=decide_eq_true c28
       have aeA:decide (20 < t216.length)=true:=decide_eq_true aq
       clear c28
       simp only [Option.some.injEq,Prod.mk.injEq] at H
       obtain ⟨rfl,rfl,rfl,rfl,rfl,rfl,rfl⟩:=H
       have aoC:=eX.out
       have aoD:=jz.out
       have aas:=sj.out
       have aat:=pF.out
       have yN:wc.cell? ⟨fW,0,none⟩=some (.bool t215):=(af dP.out 0).trans rfl
       have yO:wc.cell? ⟨fW,1,none⟩=some (.slice qo t216.length qp):=(af dP.out 1).trans rfl
       have Bk:wc.cell? ⟨fW,2,none⟩=some (.string t219):=(af dP.out 2).trans rfl
       have YA:wc.cell? ⟨fW,3,none⟩=some (.string t220):=(af dP.out 3).trans rfl
       have YB:wc.cell? ⟨fW,4,none⟩=some (.bool t221):=(af dP.out 4).trans rfl
       have yP:=aa dP.out 0
       have yQ:=aa dP.out 1
       have Bl:=aa dP.out 2
       have YC:=aa dP.out 3
       have YD:=aa dP.out 4
       go_wp2_with (first|((with_reducible refine aQ (f:=58) rfl ?_);refine cu (some 38) rfl rfl Tryz.func58 av rfl #[.agg #[.string t219,.string t220,.bool t221]] rfl cT ?_;(with_reducible refine (eN.calls Xr t219 t220 t221 true _ ?aX A26.out).mono ?_);(case aX=>exact aU.below HG.out lZ);rintro e EJ ⟨rfl,hb⟩;refine ⟨_,rfl,?_⟩;have bB:=ah.mk (Kd.bP xS hb);have bL:=ah.mk (aM (g:=eu) (o:= .cells #[.bool false,.slice none 0 0,.string (⟨#[]⟩:ByteArray),.string (⟨#[]⟩:ByteArray),.bool false] 32 (0,0)) sy hb);have bY:=ah.mk (aM (g:=fW) (o:= .cells #[.bool t215,.slice qo t216.length qp,.string t219,.string t220,.bool t221] 32 (0,0)) zB hb);have cK:=ah.mk (aA.below uS hb);have gY:=ah.mk (ay lZ hb);clear gV;clear dX;clear dP;clear gT;clear HB;have gV:=bB;have dX:=bL;have dP:=bY;have gT:=cK;have HB:=gY;clear bB bL bY cK gY;(try clear hb);(try clear hb2);(try clear hk);(try clear hi);have Ry:EJ.cell? ⟨fW,0,none⟩=some (.bool t215):=(af dP.out 0).trans rfl;have Rz:EJ.cell? ⟨fW,1,none⟩=some (.slice qo t216.length qp):=(af dP.out 1).trans rfl;have YE:EJ.cell? ⟨fW,2,none⟩=some (.string t219):=(af dP.out 2).trans rfl;have YF:EJ.cell? ⟨fW,3,none⟩=some (.string t220):=(af dP.out 3).trans rfl;have YG:EJ.cell? ⟨fW,4,none⟩=some (.bool t221):=(af dP.out 4).trans rfl;have RA:=aa dP.out 0;have RB:=aa dP.out 1;have YH:=aa dP.out 2;have YI:=aa dP.out 3;have YJ:=aa dP.out 4;have adU:=qK.out;have adV:=lA.out;have AR:EJ.cell? ⟨eu,0,none⟩=some (.bool false):=(af dX.out 0).trans rfl;have AU:EJ.cell? ⟨eu,1,none⟩=some (.slice none 0 0):=(af dX.out 1).trans rfl;have AV:EJ.cell? ⟨eu,2,none⟩=some (.string (⟨#[]⟩:ByteArray)):=(af dX.out 2).trans rfl;have Rg:EJ.cell? ⟨eu,3,none⟩=some (.string (⟨#[]⟩:ByteArray)):=(af dX.out 3).trans rfl;have Rh:EJ.cell? ⟨eu,4,none⟩=some (.bool false):=(af dX.out 4).trans rfl;have AW:=aa dX.out 0;have AX:=aa dX.out 1;have AY:=aa dX.out 2;have Ri:=aa dX.out 3;have Rj:=aa dX.out 4))
       refine bodyPost_ret (pH rfl _ _ eu 32 #[.bool false,.slice none 0 0,.string (⟨#[]⟩:ByteArray),.string (⟨#[]⟩:ByteArray),.bool false] (0,0) _ rfl Ik Tryz.underlying32 rfl av) rfl ?_
       exact ⟨_,cR,xQ,lZ⟩
      ·rw [if_neg c28] at H
       have Hl:decide (20 < (t216.length:Int))=false:=decide_eq_false c28
       have aeA:decide (20 < t216.length)=false:=decide_eq_false aq
       clear c28
       replace H:=Option.bind_eq_some_iff.mp H
       obtain ⟨t230,aeB,H⟩:=H
       replace H:(if t230=true then (some (false,([]:List ByteArray),(⟨#[]⟩:ByteArray),(⟨#[]⟩:ByteArray),false,0,3)) else (some (t215,t216,t219,t220,t221,nV,0)))=some (r1,r2,r3,r4,r5,r6,r7):=H
       have A36:=ah.mk aeB
       clear aeB
       by_cases c37:t230=true
       ·subst c37
        have H1:(some (false,([]:List ByteArray),(⟨#[]⟩:ByteArray),(⟨#[]⟩:ByteArray),false,0,3))=some (r1,r2,r3,r4,r5,r6,r7):=by rw [if_pos rfl] at H;exact H
        clear H
        have H:=H1
        clear H1
        simp only [Option.some.injEq,Prod.mk.injEq] at H
        obtain ⟨rfl,rfl,rfl,rfl,rfl,rfl,rfl⟩:=H
        have aoF:=eX.out
        have aoG:=jz.out
        have aeC:=sj.out
        have aeD:=pF.out
        have RR:wc.cell? ⟨fW,0,none⟩=some (.bool t215):=(af dP.out 0).trans rfl
        have RS:wc.cell? ⟨fW,1,none⟩=some (.slice qo t216.length qp):=(af dP.out 1).trans rfl
        have RT:wc.cell? ⟨fW,2,none⟩=some (.string t219):=(af dP.out 2).trans rfl
        have RU:wc.cell? ⟨fW,3,none⟩=some (.string t220):=(af dP.out 3).trans rfl
        have RV:wc.cell? ⟨fW,4,none⟩=some (.bool t221):=(af dP.out 4).trans rfl
        have RX:=aa dP.out 0
        have RY:=aa dP.out 1
        have RZ:=aa dP.out 2
        have R3:=aa dP.out 3
        have R4:=aa dP.out 4
        go_wp2_with (first|((with_reducible refine aQ (f:=58) rfl ?_);refine cu (some 38) rfl rfl Tryz.func58 av rfl #[.agg #[.string t219,.string t220,.bool t221]] rfl cT ?_;(with_reducible refine (eN.calls Xr t219 t220 t221 true _ ?aX A26.out).mono ?_);(case aX=>exact aU.below HG.out lZ);rintro e OT ⟨rfl,hb⟩;refine ⟨_,rfl,?_⟩;have bB:=ah.mk (Kd.bP xS hb);have bL:=ah.mk (aM (g:=eu) (o:= .cells #[.bool false,.slice none 0 0,.string (⟨#[]⟩:ByteArray),.string (⟨#[]⟩:ByteArray),.bool false] 32 (0,0)) sy hb);have bY:=ah.mk (aM (g:=fW) (o:= .cells #[.bool t215,.slice qo t216.length qp,.string t219,.string t220,.bool t221] 32 (0,0)) zB hb);have cK:=ah.mk (aA.below uS hb);have gY:=ah.mk (ay lZ hb);clear gV;clear dX;clear dP;clear gT;clear HB;have gV:=bB;have dX:=bL;have dP:=bY;have gT:=cK;have HB:=gY;clear bB bL bY cK gY;(try clear hb);(try clear hb2);(try clear hk);(try clear hi);have YK:OT.cell? ⟨fW,0,none⟩=some (.bool t215):=(af dP.out 0).trans rfl;have YL:OT.cell? ⟨fW,1,none⟩=some (.slice qo t216.length qp):=(af dP.out 1).trans rfl;have YM:OT.cell? ⟨fW,2,none⟩=some (.string t219):=(af dP.out 2).trans rfl;have YN:OT.cell? ⟨fW,3,none⟩=some (.string t220):=(af dP.out 3).trans rfl;have YO:OT.cell? ⟨fW,4,none⟩=some (.bool t221):=(af dP.out 4).trans rfl;have YP:=aa dP.out 0;have YQ:=aa dP.out 1;have YR:=aa dP.out 2;have YS:=aa dP.out 3;have YT:=aa dP.out 4)|(go_at_call 59;(with_reducible refine (bD.calls Xr _ _ t216 true _ ?aX ?bT ?eo A36.out).mono ?_);(case aX=>repeat (first|exact (Kd.ck gV.out).2.2|(with_reducible refine Kd.eJ ?_ _)|(with_reducible refine Kd.eK ?_ _)|(with_reducible refine Kd.fR ?_)));(case bT=>exact (Kd.ck gV.out).2.1);(case eo=>exact aU.below HG.out lZ);rintro e R5 ⟨rfl,hb⟩;have bB:=ah.mk (Kd.bP xS hb);have bL:=ah.mk (aM (g:=eu) (o:= .cells #[.bool false,.slice none 0 0,.string (⟨#[]⟩:ByteArray),.string (⟨#[]⟩:ByteArray),.bool false] 32 (0,0)) sy hb);have bY:=ah.mk (aM (g:=fW) (o:= .cells #[.bool t215,.slice qo t216.length qp,.string t219,.string t220,.bool t221] 32 (0,0)) zB hb);have cK:=ah.mk (aA.below uS hb);have gY:=ah.mk (ay lZ hb);clear gV;clear dX;clear dP;clear gT;clear HB;have gV:=bB;have dX:=bL;have dP:=bY;have gT:=cK;have HB:=gY;clear bB bL bY cK gY;(try clear hb);(try clear hb2);(try clear hk);(try clear hi);have aoH:=qK.out;have aoI:=lA.out;have YU:R5.cell? ⟨eu,0,none⟩=some (.bool false):=(af dX.out 0).trans rfl;have YV:R5.cell? ⟨eu,1,none⟩=some (.slice none 0 0):=(af dX.out 1).trans rfl;have YW:R5.cell? ⟨eu,2,none⟩=some (.string (⟨#[]⟩:ByteArray)):=(af dX.out 2).trans rfl;have ahD:R5.cell? ⟨eu,3,none⟩=some (.string (⟨#[]⟩:ByteArray)):=(af dX.out 3).trans rfl;have ahE:R5.cell? ⟨eu,4,none⟩=some (.bool false):=(af dX.out 4).trans rfl;have YX:=aa dX.out 0;have YY:=aa dX.out 1;have YZ:=aa dX.out 2;have ahF:=aa dX.out 3;have ahG:=aa dX.out 4))
        refine bodyPost_ret (pH rfl _ _ eu 32 #[.bool false,.slice none 0 0,.string (⟨#[]⟩:ByteArray),.string (⟨#[]⟩:ByteArray),.bool false] (0,0) _ rfl Ik Tryz.underlying32 rfl av) rfl ?_
        exact ⟨_,cR,xQ,lZ⟩
       ·replace c37:=Bool.eq_false_iff.mpr c37
        subst c37
        have H1:(some (t215,t216,t219,t220,t221,nV,0))=some (r1,r2,r3,r4,r5,r6,r7):=by rw [if_neg (show ¬ (false=true) by decide)] at H;exact H
        clear H
        have H:=H1
        clear H1
        simp only [Option.some.injEq,Prod.mk.injEq] at H
        obtain ⟨rfl,rfl,rfl,rfl,rfl,rfl,rfl⟩:=H
        have aoJ:=eX.out
        have aoK:=jz.out
        have aoL:=sj.out
        have aoM:=pF.out
        have Y0:wc.cell? ⟨fW,0,none⟩=some (.bool t215):=(af dP.out 0).trans rfl
        have Y1:wc.cell? ⟨fW,1,none⟩=some (.slice qo t216.length qp):=(af dP.out 1).trans rfl
        have Y2:wc.cell? ⟨fW,2,none⟩=some (.string t219):=(af dP.out 2).trans rfl
        have ahH:wc.cell? ⟨fW,3,none⟩=some (.string t220):=(af dP.out 3).trans rfl
        have ahI:wc.cell? ⟨fW,4,none⟩=some (.bool t221):=(af dP.out 4).trans rfl
        have Y3:=aa dP.out 0
        have Y4:=aa dP.out 1
        have Y5:=aa dP.out 2
        have ahJ:=aa dP.out 3
        have ahK:=aa dP.out 4
        try go_wp2_with (first|((with_reducible refine aQ (f:=58) rfl ?_);refine cu (some 38) rfl rfl Tryz.func58 av rfl #[.agg #[.string t219,.string t220,.bool t221]] rfl cT ?_;(with_reducible refine (eN.calls Xr t219 t220 t221 true _ ?aX A26.out).mono ?_);(case aX=>exact aU.below HG.out lZ);rintro e w49 ⟨rfl,hb⟩;refine ⟨_,rfl,?_⟩;have bB:=ah.mk (Kd.bP xS hb);have bL:=ah.mk (aM (g:=eu) (o:= .cells #[.bool false,.slice none 0 0,.string (⟨#[]⟩:ByteArray),.string (⟨#[]⟩:ByteArray),.bool false] 32 (0,0)) sy hb);have bY:=ah.mk (aM (g:=fW) (o:= .cells #[.bool t215,.slice qo t216.length qp,.string t219,.string t220,.bool t221] 32 (0,0)) zB hb);have cK:=ah.mk (aA.below uS hb);have gY:=ah.mk (ay lZ hb);clear gV;clear dX;clear dP;clear gT;clear HB;have gV:=bB;have dX:=bL;have dP:=bY;have gT:=cK;have HB:=gY;clear bB bL bY cK gY;(try clear hb);(try clear hb2);(try clear hk);(try clear hi);have R6:w49.cell? ⟨fW,0,none⟩=some (.bool t215):=(af dP.out 0).trans rfl;have R7:w49.cell? ⟨fW,1,none⟩=some (.slice qo t216.length qp):=(af dP.out 1).trans rfl;have R8:w49.cell? ⟨fW,2,none⟩=some (.string t219):=(af dP.out 2).trans rfl;have Y6:w49.cell? ⟨fW,3,none⟩=some (.string t220):=(af dP.out 3).trans rfl;have Y7:w49.cell? ⟨fW,4,none⟩=some (.bool t221):=(af dP.out 4).trans rfl;have R9:=aa dP.out 0;have Sa:=aa dP.out 1;have Sb:=aa dP.out 2;have Y8:=aa dP.out 3;have Y9:=aa dP.out 4)|(go_at_call 59;(with_reducible refine (bD.calls Xr _ _ t216 false _ ?aX ?bT ?eo A36.out).mono ?_);(case aX=>repeat (first|exact (Kd.ck gV.out).2.2|(with_reducible refine Kd.eJ ?_ _)|(with_reducible refine Kd.eK ?_ _)|(with_reducible refine Kd.fR ?_)));(case bT=>exact (Kd.ck gV.out).2.1);(case eo=>exact aU.below HG.out lZ);rintro e w51 ⟨rfl,hb⟩;have bB:=ah.mk (Kd.bP xS hb);have bL:=ah.mk (aM (g:=eu) (o:= .cells #[.bool false,.slice none 0 0,.string (⟨#[]⟩:ByteArray),.string (⟨#[]⟩:ByteArray),.bool false] 32 (0,0)) sy hb);have bY:=ah.mk (aM (g:=fW) (o:= .cells #[.bool t215,.slice qo t216.length qp,.string t219,.string t220,.bool t221] 32 (0,0)) zB hb);have cK:=ah.mk (aA.below uS hb);have gY:=ah.mk (ay lZ hb);clear gV;clear dX;clear dP;clear gT;clear HB;have gV:=bB;have dX:=bL;have dP:=bY;have gT:=cK;have HB:=gY;clear bB bL bY cK gY;(try clear hb);(try clear hb2);(try clear hk);(try clear hi)))
        have bB:=ah.mk (Kd.eW gV.out)
        have bL:=ah.mk (aG dX.out)
        have bY:=ah.mk (aG dP.out)
        have cK:=ah.mk (aA.drew gT.out)
        have gY:=ah.mk (br HB.out)
        clear gV
        clear dX
        clear dP
        clear gT
        clear HB
        have gV:=bB
        have dX:=bL
        have dP:=bY
        have gT:=cK
        have HB:=gY
        clear bB bL bY cK gY
        refine BW (n:=8) (S:=fun w'=>w'.cell? ⟨fW,0,none⟩=some (.bool t215)∧w'.cell? ⟨fW,1,none⟩=some (.slice qo t216.length qp)∧w'.cell? ⟨fW,2,none⟩=some (.string t219)∧w'.cell? ⟨fW,3,none⟩=some (.string t220)∧w'.cell? ⟨fW,4,none⟩=some (.bool t221)∧w'.cell? ⟨qy,0,none⟩=some (.string yR)∧w'.cell? ⟨qy,1,none⟩=some (.int .i64 nV)) (ds:=[]) #[false,false,false,false,false,false,false,false] av (by rfl) (by rfl) ⟨(af dP.out 0).trans rfl,(af dP.out 1).trans rfl,(af dP.out 2).trans rfl,(af dP.out 3).trans rfl,(af dP.out 4).trans rfl,dV gT.out.1,dM gT.out.1⟩ (fun hHeld=>?_);refine uJ bS.aev bS.abH (fun mB OC=>?_)
        generalize w51.drew=w52 at gV dX dP gT HB hHeld ⊢
        refine eY (i:=1) (N:=some 53) (v:=?_) (a':=?_) #[false,true,false,false,false,false,false,false] rfl rfl (fY mB.out av) (fun _ _ _ h=>h) (Or.inl ⟨by rfl,?_⟩) ?_ ?_
        rotate_left
        ·intro w'
         go_simp
         with_reducible rfl
        rotate_left
        ·simp only [Act.put,List.setIfInBounds_toArray,List.set_cons_zero,List.set_cons_succ,dx,dA]
         rfl
        refine eY (i:=2) (N:=some 54) (v:=?_) (a':=?_) #[false,true,true,false,false,false,false,false] rfl rfl (fY mB.out av) (fun _ _ _ h=>h) (Or.inl ⟨by rfl,?_⟩) ?_ ?_
        rotate_left
        ·intro w'
         go_simp
         with_reducible rfl
        rotate_left
        ·simp only [Act.put,List.setIfInBounds_toArray,List.set_cons_zero,List.set_cons_succ,dx,dA]
         rfl
        refine eY (i:=3) (N:=some 55) (v:=?_) (a':=?_) #[false,true,true,true,false,false,false,false] rfl rfl (fY mB.out av) (fun _ _ _ h=>h) (Or.inl ⟨by rfl,?_⟩) ?_ ?_
        rotate_left
        ·intro w'
         go_simp
         with_reducible rfl
        rotate_left
        ·simp only [Act.put,List.setIfInBounds_toArray,List.set_cons_zero,List.set_cons_succ,dx,dA]
         rfl
        refine nE (i:=0) (N:=some 52) (v:=?_) (a':=?_) #[true,true,true,true,false,false,false,false] rfl rfl (nG mB.out OC.out av) (fun _ _ _ h=>h) (Or.inl ⟨by rfl,?_⟩) hHeld ?_ ?_
        rotate_left
        ·rintro w' ⟨s0,s1,s2,s3,s4,s5,s6⟩
         go_simp
         with_reducible rfl
        rotate_left
        ·simp only [Act.put,List.setIfInBounds_toArray,List.set_cons_zero,List.set_cons_succ,dx,dA]
         rfl
        refine nE (i:=4) (N:=some 56) (v:=?_) (a':=?_) #[true,true,true,true,true,false,false,false] rfl rfl (nG mB.out OC.out av) (fun _ _ _ h=>h) (Or.inl ⟨by rfl,?_⟩) hHeld ?_ ?_
        rotate_left
        ·rintro w' ⟨s0,s1,s2,s3,s4,s5,s6⟩
         go_simp
         with_reducible rfl
        rotate_left
        ·simp only [Act.put,List.setIfInBounds_toArray,List.set_cons_zero,List.set_cons_succ,dx,dA]
         rfl
        refine IY (i:=5) (N:=none) #[true,true,true,true,true,true,false,false] rfl rfl (xd mB.out av) bU (fun K hK=>?_)
        have aqB:w52.cell? ⟨eu,0,none⟩=some (.bool false):=(af dX.out 0).trans rfl
        have aoN:=aa dX.out 0
        have ahL:=eX.out
        have ahM:=jz.out
        have aqC:w52.cell? ⟨eu,1,none⟩=some (.slice none 0 0):=(af dX.out 1).trans rfl
        have aoO:=aa dX.out 1
        have ahN:=eX.out
        have ahO:=jz.out
        have aqD:w52.cell? ⟨eu,2,none⟩=some (.string (⟨#[]⟩:ByteArray)):=(af dX.out 2).trans rfl
        have aoP:=aa dX.out 2
        have ahP:=eX.out
        have ahQ:=jz.out
        have aqE:w52.cell? ⟨eu,3,none⟩=some (.string (⟨#[]⟩:ByteArray)):=(af dX.out 3).trans rfl
        have aoQ:=aa dX.out 3
        have ahR:=eX.out
        have ahS:=jz.out
        have aqF:w52.cell? ⟨eu,4,none⟩=some (.bool false):=(af dX.out 4).trans rfl
        have aoR:=aa dX.out 4
        have ahT:=eX.out
        have ahU:=jz.out
        refine adB (w1:=?_) (by rfl) rfl ?_ ?_
        rotate_left
        ·go_simp
         rfl
        refine hK.out _ _ ⟨((cell_far (p:=⟨eu,_,none⟩) eX.out _).trans (((cell_far (p:=⟨eu,_,none⟩) eX.out _).trans (((cell_far (p:=⟨eu,_,none⟩) eX.out _).trans (((cell_far (p:=⟨eu,_,none⟩) eX.out _).trans (((cell_far (p:=⟨eu,_,none⟩) eX.out _).trans (hHeld.1)))))))))),((cell_far (p:=⟨eu,_,none⟩) eX.out _).trans (((cell_far (p:=⟨eu,_,none⟩) eX.out _).trans (((cell_far (p:=⟨eu,_,none⟩) eX.out _).trans (((cell_far (p:=⟨eu,_,none⟩) eX.out _).trans (((cell_far (p:=⟨eu,_,none⟩) eX.out _).trans (hHeld.2.1)))))))))),((cell_far (p:=⟨eu,_,none⟩) eX.out _).trans (((cell_far (p:=⟨eu,_,none⟩) eX.out _).trans (((cell_far (p:=⟨eu,_,none⟩) eX.out _).trans (((cell_far (p:=⟨eu,_,none⟩) eX.out _).trans (((cell_far (p:=⟨eu,_,none⟩) eX.out _).trans (hHeld.2.2.1)))))))))),((cell_far (p:=⟨eu,_,none⟩) eX.out _).trans (((cell_far (p:=⟨eu,_,none⟩) eX.out _).trans (((cell_far (p:=⟨eu,_,none⟩) eX.out _).trans (((cell_far (p:=⟨eu,_,none⟩) eX.out _).trans (((cell_far (p:=⟨eu,_,none⟩) eX.out _).trans (hHeld.2.2.2.1)))))))))),((cell_far (p:=⟨eu,_,none⟩) eX.out _).trans (((cell_far (p:=⟨eu,_,none⟩) eX.out _).trans (((cell_far (p:=⟨eu,_,none⟩) eX.out _).trans (((cell_far (p:=⟨eu,_,none⟩) eX.out _).trans (((cell_far (p:=⟨eu,_,none⟩) eX.out _).trans (hHeld.2.2.2.2.1)))))))))),((cell_far (p:=⟨eu,_,none⟩) uq _).trans (((cell_far (p:=⟨eu,_,none⟩) uq _).trans (((cell_far (p:=⟨eu,_,none⟩) uq _).trans (((cell_far (p:=⟨eu,_,none⟩) uq _).trans (((cell_far (p:=⟨eu,_,none⟩) uq _).trans (hHeld.2.2.2.2.2.1)))))))))),((cell_far (p:=⟨eu,_,none⟩) uq _).trans (((cell_far (p:=⟨eu,_,none⟩) uq _).trans (((cell_far (p:=⟨eu,_,none⟩) uq _).trans (((cell_far (p:=⟨eu,_,none⟩) uq _).trans (((cell_far (p:=⟨eu,_,none⟩) uq _).trans (hHeld.2.2.2.2.2.2))))))))))⟩ (fun hHeld=>?_)
        clear hK K
        refine eY (i:=6) (N:=some 3) (v:=?_) (a':=?_) #[true,true,true,true,true,true,true,false] rfl rfl (fY mB.out av) (fun _ _ _ h=>h) (Or.inl ⟨by rfl,?_⟩) ?_ ?_
        rotate_left
        ·intro w'
         go_simp
         with_reducible rfl
        rotate_left
        ·simp only [Act.put,List.setIfInBounds_toArray,List.set_cons_zero,List.set_cons_succ,dx,dA]
         rfl
        refine eY (i:=7) (N:=some 4) (v:=?_) (a':=?_) #[true,true,true,true,true,true,true,true] rfl rfl (fY mB.out av) (fun _ _ _ h=>h) (Or.inl ⟨by rfl,?_⟩) ?_ ?_
        rotate_left
        ·intro w'
         go_simp
         with_reducible rfl
        rotate_left
        ·simp only [Act.put,List.setIfInBounds_toArray,List.set_cons_zero,List.set_cons_succ,dx,dA]
         rfl
        refine G6 (Ag mB.out av) ?_
        try go_wp2
        refine bodyPost_ret (pH rfl _ _ eu 32 #[.bool t215,.slice qo t216.length qp,.string t219,.string t220,.bool t221] (0,0) _ rfl (by (with_reducible repeat (first|refine au ?_ _|refine aG ?_|refine az ?_ _));refine bw (cs:=#[.bool t215,.slice qo t216.length qp,.string t219,.string t220,.bool false]) ?_ 4 _ rfl;(with_reducible repeat (first|refine au ?_ _|refine aG ?_|refine az ?_ _));refine bw (cs:=#[.bool t215,.slice qo t216.length qp,.string t219,.string (⟨#[]⟩:ByteArray),.bool false]) ?_ 3 _ rfl;(with_reducible repeat (first|refine au ?_ _|refine aG ?_|refine az ?_ _));refine bw (cs:=#[.bool t215,.slice qo t216.length qp,.string (⟨#[]⟩:ByteArray),.string (⟨#[]⟩:ByteArray),.bool false]) ?_ 2 _ rfl;(with_reducible repeat (first|refine au ?_ _|refine aG ?_|refine az ?_ _));refine bw (cs:=#[.bool t215,.slice none 0 0,.string (⟨#[]⟩:ByteArray),.string (⟨#[]⟩:ByteArray),.bool false]) ?_ 1 _ rfl;(with_reducible repeat (first|refine au ?_ _|refine aG ?_|refine az ?_ _));refine bw (cs:=#[.bool false,.slice none 0 0,.string (⟨#[]⟩:ByteArray),.string (⟨#[]⟩:ByteArray),.bool false]) ?_ 0 _ rfl;(with_reducible repeat (first|refine au ?_ _|refine aG ?_|refine az ?_ _));exact dX.out) Tryz.underlying32 rfl av) rfl ?_
        exact ⟨_,cR,by (with_reducible repeat (first|apply Kd.dR|apply Kd.dW|apply Kd.eW));exact Kd.ez (Kd.aY (p:=⟨eu,4,none⟩) (Kd.aY (p:=⟨eu,3,none⟩) (Kd.aY (p:=⟨eu,2,none⟩) (Kd.aY (p:=⟨eu,1,none⟩) (Kd.aY (p:=⟨eu,0,none⟩) (Kd.fG gV.out dX.out bU) (fun _ hk=>hk.2) (.bool t215)) (fun _ hk=>hk.2) (.slice qo t216.length qp)) (fun _ hk=>hk.2) (.string t219)) (fun _ hk=>hk.2) (.string t220)) (fun _ hk=>hk.2) (.bool t221)) (fun _ hk=>trivial),lZ⟩
     ·replace Re:=Bool.eq_false_iff.mpr Re
      subst Re
      have H1:(some (false,([]:List ByteArray),(⟨#[]⟩:ByteArray),(⟨#[]⟩:ByteArray),false,0,3))=some (r1,r2,r3,r4,r5,r6,r7):=by rw [if_neg (show ¬ (false=true) by decide)] at H;exact H
      clear H
      have H:=H1
      clear H1
      simp only [Option.some.injEq,Prod.mk.injEq] at H
      obtain ⟨rfl,rfl,rfl,rfl,rfl,rfl,rfl⟩:=H
      have aoS:=eX.out
      have aoT:=jz.out
      have aoU:=sj.out
      have aoV:=pF.out
      have ahV:wc.cell? ⟨fW,0,none⟩=some (.bool t215):=(af dP.out 0).trans rfl
      have ahW:wc.cell? ⟨fW,1,none⟩=some (.slice qo t216.length qp):=(af dP.out 1).trans rfl
      have ahX:wc.cell? ⟨fW,2,none⟩=some (.string t219):=(af dP.out 2).trans rfl
      have ahY:wc.cell? ⟨fW,3,none⟩=some (.string t220):=(af dP.out 3).trans rfl
      have ahZ:wc.cell? ⟨fW,4,none⟩=some (.bool t221):=(af dP.out 4).trans rfl
      have ah0:=aa dP.out 0
      have ah1:=aa dP.out 1
      have ah2:=aa dP.out 2
      have ah3:=aa dP.out 3
      have ah4:=aa dP.out 4
      go_wp2_with (first|((with_reducible refine aQ (f:=58) rfl ?_);refine cu (some 38) rfl rfl Tryz.func58 av rfl #[.agg #[.string t219,.string t220,.bool t221]] rfl cT ?_;(with_reducible refine (eN.calls Xr t219 t220 t221 false _ ?aX A26.out).mono ?_);(case aX=>exact aU.below HG.out lZ);rintro e w61 ⟨rfl,hb⟩;refine ⟨_,rfl,?_⟩;have bB:=ah.mk (Kd.bP xS hb);have bL:=ah.mk (aM (g:=eu) (o:= .cells #[.bool false,.slice none 0 0,.string (⟨#[]⟩:ByteArray),.string (⟨#[]⟩:ByteArray),.bool false] 32 (0,0)) sy hb);have bY:=ah.mk (aM (g:=fW) (o:= .cells #[.bool t215,.slice qo t216.length qp,.string t219,.string t220,.bool t221] 32 (0,0)) zB hb);have cK:=ah.mk (aA.below uS hb);have gY:=ah.mk (ay lZ hb);clear gV;clear dX;clear dP;clear gT;clear HB;have gV:=bB;have dX:=bL;have dP:=bY;have gT:=cK;have HB:=gY;clear bB bL bY cK gY;(try clear hb);(try clear hb2);(try clear hk);(try clear hi);have aoW:=qK.out;have aoX:=lA.out;have ah5:w61.cell? ⟨eu,0,none⟩=some (.bool false):=(af dX.out 0).trans rfl;have ah6:w61.cell? ⟨eu,1,none⟩=some (.slice none 0 0):=(af dX.out 1).trans rfl;have ah7:w61.cell? ⟨eu,2,none⟩=some (.string (⟨#[]⟩:ByteArray)):=(af dX.out 2).trans rfl;have ah8:w61.cell? ⟨eu,3,none⟩=some (.string (⟨#[]⟩:ByteArray)):=(af dX.out 3).trans rfl;have ah9:w61.cell? ⟨eu,4,none⟩=some (.bool false):=(af dX.out 4).trans rfl;have aia:=aa dX.out 0;have aib:=aa dX.out 1;have aic:=aa dX.out 2;have aid:=aa dX.out 3;have aie:=aa dX.out 4))
      refine bodyPost_ret (pH rfl _ _ eu 32 #[.bool false,.slice none 0 0,.string (⟨#[]⟩:ByteArray),.string (⟨#[]⟩:ByteArray),.bool false] (0,0) _ rfl Ik Tryz.underlying32 rfl av) rfl ?_
      exact ⟨_,cR,xQ,lZ⟩
end Go.Proofs.YtokpnfljjjjikaaGreatDoor.pJ
