import Derived.Test.YtokpnfljjjjikaaGreatDoorZo
import Derived.Test.YtokpnfljjjjikaaGreatDoorQCbx0
import Derived.Test.YtokpnfljjjjikaaGreatDoorQCbx3
import Derived.Test.YtokpnfljjjjikaaGreatDoorQCbx5
import Derived.Test.YtokpnfljjjjikaaGreatDoorQCbx8
import Derived.Test.YtokpnfljjjjikaaGreatDoorEInner
namespace Go.Proofs.YtokpnfljjjjikaaGreatDoor.nX
open Go.RowKit Go.Proofs.aj.bW Go.Proofs.aj.fW Go.Proofs.aj.dz
attribute [local go_sem] jg jh kO kP iK iL ji jk
set_option linter.unusedVariables false
set_option linter.unusedSimpArgs false
def bX.j0:Nat→Bool→ByteArray→Int→Bool→List ByteArray→ByteArray→ByteArray→Bool→Option (Bool×List ByteArray×ByteArray×ByteArray×Bool×Int×Int)
 | 0,_,_,_,_,_,_,_,_ =>none
 |k + 1,x22,ahA,X3,X4,JZ,Rt,Ru,Rv=>if x22=true then (some (false,([]:List ByteArray),(⟨#[]⟩:ByteArray),(⟨#[]⟩:ByteArray),false,0,150)) else ((eF.f k Rt Ru Rv).bind fun t229=>(if t229=true then (if (JZ.length:Int) > 20 then (some (false,([]:List ByteArray),(⟨#[]⟩:ByteArray),(⟨#[]⟩:ByteArray),false,0,3)) else ((bB.f k JZ).bind fun t230=>(if t230=true then (some (false,([]:List ByteArray),(⟨#[]⟩:ByteArray),(⟨#[]⟩:ByteArray),false,0,3)) else (some (X4,JZ,Rt,Ru,Rv,X3,0))))) else (some (false,([]:List ByteArray),(⟨#[]⟩:ByteArray),(⟨#[]⟩:ByteArray),false,0,3))))
def bX.f (k:Nat) (a0:ByteArray):Option (Bool×List ByteArray×ByteArray×ByteArray×Bool×Int×Int):=(strings_HasPrefix.f a0 (⟨#[60,62]⟩:ByteArray)).bind fun t210=>(if t210=true then (some (true,([]:List ByteArray),(⟨#[]⟩:ByteArray),(⟨#[]⟩:ByteArray),false,2,0)) else ((br.f a0 0 60).bind fun sD=>((dw.f k sD.2.1 sD.2.2).bind fun dM=>(if sD.1=true then (if dM.2.2.2.2.2.1=true then ((br.f dM.2.2.2.2.2.2.1 dM.2.2.2.2.2.2.2 62).bind fun kV=>(bX.j0 k (!kV.1) kV.2.1 kV.2.2 dM.1 dM.2.1 dM.2.2.1 dM.2.2.2.1 dM.2.2.2.2.1)) else (bX.j0 k true dM.2.2.2.2.2.2.1 dM.2.2.2.2.2.2.2 dM.1 dM.2.1 dM.2.2.1 dM.2.2.2.1 dM.2.2.2.2.1)) else (bX.j0 k true dM.2.2.2.2.2.2.1 dM.2.2.2.2.2.2.2 dM.1 dM.2.1 dM.2.2.1 dM.2.2.2.1 dM.2.2.2.2.1)))))
theorem bX.fR:∀ k,(∀ y0 y1 y2 y3 y4 y5 y6 y7,cR (bX.j0 k y0 y1 y2 y3 y4 y5 y6 y7) (bX.j0 (k + 1) y0 y1 y2 y3 y4 y5 y6 y7))
 | 0=>fun _ _ _ _ _ _ _ _ r h=>by simp [bX.j0] at h
 |k + 1=>by
  have nY:=bX.fR k
  ·intro y0 y1 y2 y3 y4 y5 y6 y7
   unfold bX.j0
   repeat' first
   |(with_reducible exact nY _ _ _ _ _ _ _ _)
   |(with_reducible exact dw.mono _ _ _)
   |(with_reducible exact eF.mono _ _ _ _)
   |(with_reducible exact bB.mono _ _)
   |(with_reducible exact cR.refl _)
   |(with_reducible exact cR.none _)
   |(with_reducible refine cR.ite ?_ ?_)
   |(with_reducible refine cR.bind ?_ (fun _ =>?_))
   |refine cR.ite ?_ ?_
   |refine cR.bind ?_ (fun _ =>?_)
theorem bX.mono:∀ a0 k,cR (bX.f k a0) (bX.f (k + 1) a0):=by
 intro a0 k
 have nY:=bX.fR k
 unfold bX.f
 repeat' first
  |(with_reducible exact nY _ _ _ _ _ _ _ _)
  |(with_reducible exact dw.mono _ _ _)
  |(with_reducible exact eF.mono _ _ _ _)
  |(with_reducible exact bB.mono _ _)
  |(with_reducible exact cR.refl _)
  |(with_reducible exact cR.none _)
  |(with_reducible refine cR.ite ?_ ?_)
  |(with_reducible refine cR.bind ?_ (fun _ =>?_))
  |refine cR.ite ?_ ?_
  |refine cR.bind ?_ (fun _ =>?_)
def bX.T10:Bool×List (List Nat×List Nat):=(true,[([],[]),([],[]),([1],[1]),([2],[2]),([3],[3]),([0,0],[0]),([4,5,0,1,2,3,4,5],[4]),([6,0,1,2,3,4,5,6],[])])
def bX.B10:List Nat:=[0,0,2,6,14,1,63,127]
theorem bX.aeM:sx .any (opsOf Tryz.f17 10)=bX.T10:=by kernel_rfl
theorem bX.ab4:uG bX.T10.2 bX.B10=true:=by kernel_rfl
set_option maxHeartbeats 8000000 in
set_option maxRecDepth 100000 in
theorem bX.calls (k:Nat) (a0:ByteArray) (r1:Bool) (r2:List ByteArray) (r3:ByteArray) (r4:ByteArray) (r5:Bool) (r6:Int) (r7:Int) (w:World) (hG:aT w) (h:bX.f k a0=some (r1,r2,r3,r4,r5,r6,r7)):
 Calls Tryz.prog 17 #[.string a0] w fun e w'=>∃ Rs:Value,e= .returned (.tuple #[.agg #[.bool r1,Rs,.string r3,.string r4,.bool r5],.int .i64 r6,.int .i64 r7])∧Kd.R Kd.string 9 w' w.heap.size (fun _ =>True) Rs r2∧Below w.heap.size w w':=by
 have Oi:=Tryz.underlying32
 have ang:=Tryz.underlying82
 have LI:=Tryz.underlying30
 have HB:=ah.mk (Below.refl w.heap.size w)
 have HG:=ah.mk hG
 clear hG
 have H:((strings_HasPrefix.f a0 (⟨#[60,62]⟩:ByteArray)).bind fun t210=>(if t210=true then (some (true,([]:List ByteArray),(⟨#[]⟩:ByteArray),(⟨#[]⟩:ByteArray),false,2,0)) else ((br.f a0 0 60).bind fun sD=>((dw.f k sD.2.1 sD.2.2).bind fun dM=>(if sD.1=true then (if dM.2.2.2.2.2.1=true then ((br.f dM.2.2.2.2.2.2.1 dM.2.2.2.2.2.2.2 62).bind fun kV=>(bX.j0 k (!kV.1) kV.2.1 kV.2.2 dM.1 dM.2.1 dM.2.2.1 dM.2.2.2.1 dM.2.2.2.2.1)) else (bX.j0 k true dM.2.2.2.2.2.2.1 dM.2.2.2.2.2.2.2 dM.1 dM.2.1 dM.2.2.1 dM.2.2.2.1 dM.2.2.2.2.1)) else (bX.j0 k true dM.2.2.2.2.2.2.1 dM.2.2.2.2.2.2.2 dM.1 dM.2.1 dM.2.2.1 dM.2.2.2.1 dM.2.2.2.2.1))))))=some (r1,r2,r3,r4,r5,r6,r7):=h
 clear h
 replace H:=Option.bind_eq_some_iff.mp H
 obtain ⟨t210,nK,H⟩:=H
 replace H:(if t210=true then (some (true,([]:List ByteArray),(⟨#[]⟩:ByteArray),(⟨#[]⟩:ByteArray),false,2,0)) else ((br.f a0 0 60).bind fun sD=>((dw.f k sD.2.1 sD.2.2).bind fun dM=>(if sD.1=true then (if dM.2.2.2.2.2.1=true then ((br.f dM.2.2.2.2.2.2.1 dM.2.2.2.2.2.2.2 62).bind fun kV=>(bX.j0 k (!kV.1) kV.2.1 kV.2.2 dM.1 dM.2.1 dM.2.2.1 dM.2.2.2.1 dM.2.2.2.2.1)) else (bX.j0 k true dM.2.2.2.2.2.2.1 dM.2.2.2.2.2.2.2 dM.1 dM.2.1 dM.2.2.1 dM.2.2.2.1 dM.2.2.2.2.1)) else (bX.j0 k true dM.2.2.2.2.2.2.1 dM.2.2.2.2.2.2.2 dM.1 dM.2.1 dM.2.2.1 dM.2.2.2.1 dM.2.2.2.2.1)))))=some (r1,r2,r3,r4,r5,r6,r7):=H
 have A2:=ah.mk nK
 clear nK
 by_cases c3:t210=true
 ·subst c3
  have H1:(some (true,([]:List ByteArray),(⟨#[]⟩:ByteArray),(⟨#[]⟩:ByteArray),false,2,0))=some (r1,r2,r3,r4,r5,r6,r7):=by rw [if_pos rfl] at H;exact H
  clear H
  have H:=H1
  clear H1
  simp only [Option.some.injEq,Prod.mk.injEq] at H
  obtain ⟨rfl,rfl,rfl,rfl,rfl,rfl,rfl⟩:=H
  go_enter Tryz.func17,Tryz.ntmps17
  go_wp2_with (first|((with_reducible refine cG (N:=2) rfl ?_);(try (refine dg (by rfl) ?_;dsimp only));refine cj ?hg (N:=2) ?hd (cs:=#[.bool false,.slice none 0 0,.string (⟨#[]⟩:ByteArray),.string (⟨#[]⟩:ByteArray),.bool false]) (t:=32) ?hr ?_;(case hd=>rfl);(case hg=>rfl);(case hr=>first|(go_simp;done)|(go_simp;rfl));intro eo hg w4 cJ hb;have bD:=ah.mk (ay cw hb);have bN:=ah.mk (cJ);have cz:=ah.mk ((dK:w.heap.size≤eo));have cY:=ah.mk ((dK:w.heap.size≤eo));clear HB;have HB:=bD;have dX:=bN;have aeN:=cz;have yS:=cY;clear bD bN cz cY;clear hb cJ hg)|((with_reducible refine aN (f:=37) rfl ?_);refine cr (some 10) rfl rfl Tryz.func37 au rfl #[.string a0,.string (⟨#[60,62]⟩:ByteArray)] rfl cV ?_;(with_reducible refine (strings_HasPrefix.calls a0 (⟨#[60,62]⟩:ByteArray) true _ A2.out).mono ?_);rintro e w' ⟨rfl,⟨nd,rfl⟩⟩;refine ⟨_,rfl,?_⟩;(try (rw [E0 w4];generalize hq_:World.drewN w4 _=w4;have bD:ah (w4.heap[eo]? =some (.cells #[.bool false,.slice none 0 0,.string (⟨#[]⟩:ByteArray),.string (⟨#[]⟩:ByteArray),.bool false] 32 (0,0))):=⟨PR⟩;have bN:ah (Below w.heap.size w w4):=⟨PL⟩;clear dX HB hq_;have dX:=bD;have HB:=bN;clear bD bN));have JU:w4.cell? ⟨eo,0,none⟩=some (.bool false):=(af dX.out 0).trans rfl;have JV:w4.cell? ⟨eo,1,none⟩=some (.slice none 0 0):=(af dX.out 1).trans rfl;have OC:w4.cell? ⟨eo,2,none⟩=some (.string (⟨#[]⟩:ByteArray)):=(af dX.out 2).trans rfl;have Vz:w4.cell? ⟨eo,3,none⟩=some (.string (⟨#[]⟩:ByteArray)):=(af dX.out 3).trans rfl;have VA:w4.cell? ⟨eo,4,none⟩=some (.bool false):=(af dX.out 4).trans rfl;have JW:=aa dX.out 0;have JX:=aa dX.out 1;have OD:=aa dX.out 2;have VB:=aa dX.out 3;have VC:=aa dX.out 4))
  refine bodyPost_ret (oW rfl _ _ eo 32 #[.bool true,.slice none 0 0,.string (⟨#[]⟩:ByteArray),.string (⟨#[]⟩:ByteArray),.bool false] (0,0) _ rfl (by (with_reducible repeat (first|refine aM ?_ _|refine bh ?_|refine aU ?_ _));refine cv (cs:=#[.bool true,.slice none 0 0,.string (⟨#[]⟩:ByteArray),.string (⟨#[]⟩:ByteArray),.bool false]) ?_ 4 _ rfl;(with_reducible repeat (first|refine aM ?_ _|refine bh ?_|refine aU ?_ _));refine cv (cs:=#[.bool true,.slice none 0 0,.string (⟨#[]⟩:ByteArray),.string (⟨#[]⟩:ByteArray),.bool false]) ?_ 3 _ rfl;(with_reducible repeat (first|refine aM ?_ _|refine bh ?_|refine aU ?_ _));refine cv (cs:=#[.bool true,.slice none 0 0,.string (⟨#[]⟩:ByteArray),.string (⟨#[]⟩:ByteArray),.bool false]) ?_ 2 _ rfl;(with_reducible repeat (first|refine aM ?_ _|refine bh ?_|refine aU ?_ _));refine cv (cs:=#[.bool true,.slice none 0 0,.string (⟨#[]⟩:ByteArray),.string (⟨#[]⟩:ByteArray),.bool false]) ?_ 1 _ rfl;(with_reducible repeat (first|refine aM ?_ _|refine bh ?_|refine aU ?_ _));refine cv (cs:=#[.bool false,.slice none 0 0,.string (⟨#[]⟩:ByteArray),.string (⟨#[]⟩:ByteArray),.bool false]) ?_ 0 _ rfl;(with_reducible repeat (first|refine aM ?_ _|refine bh ?_|refine aU ?_ _));exact dX.out) Tryz.underlying32 rfl au) rfl ?_
  exact ⟨_,cZ,BG,Ub⟩
 ·replace c3:=Bool.eq_false_iff.mpr c3
  subst c3
  have H1:((br.f a0 0 60).bind fun sD=>((dw.f k sD.2.1 sD.2.2).bind fun dM=>(if sD.1=true then (if dM.2.2.2.2.2.1=true then ((br.f dM.2.2.2.2.2.2.1 dM.2.2.2.2.2.2.2 62).bind fun kV=>(bX.j0 k (!kV.1) kV.2.1 kV.2.2 dM.1 dM.2.1 dM.2.2.1 dM.2.2.2.1 dM.2.2.2.2.1)) else (bX.j0 k true dM.2.2.2.2.2.2.1 dM.2.2.2.2.2.2.2 dM.1 dM.2.1 dM.2.2.1 dM.2.2.2.1 dM.2.2.2.2.1)) else (bX.j0 k true dM.2.2.2.2.2.2.1 dM.2.2.2.2.2.2.2 dM.1 dM.2.1 dM.2.2.1 dM.2.2.2.1 dM.2.2.2.2.1))))=some (r1,r2,r3,r4,r5,r6,r7):=by rw [if_neg (show ¬ (false=true) by decide)] at H;exact H
  clear H
  have H:=H1
  clear H1
  replace H:=Option.bind_eq_some_iff.mp H
  obtain ⟨⟨t212,t213,t214⟩,wR,H⟩:=H
  replace H:((dw.f k t213 t214).bind fun dM=>(if t212=true then (if dM.2.2.2.2.2.1=true then ((br.f dM.2.2.2.2.2.2.1 dM.2.2.2.2.2.2.2 62).bind fun kV=>(bX.j0 k (!kV.1) kV.2.1 kV.2.2 dM.1 dM.2.1 dM.2.2.1 dM.2.2.2.1 dM.2.2.2.2.1)) else (bX.j0 k true dM.2.2.2.2.2.2.1 dM.2.2.2.2.2.2.2 dM.1 dM.2.1 dM.2.2.1 dM.2.2.2.1 dM.2.2.2.2.1)) else (bX.j0 k true dM.2.2.2.2.2.2.1 dM.2.2.2.2.2.2.2 dM.1 dM.2.1 dM.2.2.1 dM.2.2.2.1 dM.2.2.2.2.1)))=some (r1,r2,r3,r4,r5,r6,r7):=H
  have A6:=ah.mk wR
  clear wR
  replace H:=Option.bind_eq_some_iff.mp H
  obtain ⟨⟨t215,t216,t219,t220,t221,t222,t223,t224⟩,GW,H⟩:=H
  replace H:(if t212=true then (if t222=true then ((br.f t223 t224 62).bind fun kV=>(bX.j0 k (!kV.1) kV.2.1 kV.2.2 t215 t216 t219 t220 t221)) else (bX.j0 k true t223 t224 t215 t216 t219 t220 t221)) else (bX.j0 k true t223 t224 t215 t216 t219 t220 t221))=some (r1,r2,r3,r4,r5,r6,r7):=H
  have A7:=ah.mk GW
  clear GW
  have HC8:=ah.mk H
  clear H
  go_enter Tryz.func17,Tryz.ntmps17
  go_upto_region 6 with (first|((with_reducible refine cG (N:=2) rfl ?_);(try (refine dg (by rfl) ?_;dsimp only));refine cj ?hg (N:=2) ?hd (cs:=#[.bool false,.slice none 0 0,.string (⟨#[]⟩:ByteArray),.string (⟨#[]⟩:ByteArray),.bool false]) (t:=32) ?hr ?_;(case hd=>rfl);(case hg=>rfl);(case hr=>first|(go_simp;done)|(go_simp;rfl));intro eo hg w9 cJ hb;have bD:=ah.mk (ay cw hb);have bN:=ah.mk (cJ);have cz:=ah.mk ((dK:w.heap.size≤eo));have cY:=ah.mk ((dK:w.heap.size≤eo));clear HB;have HB:=bD;have dX:=bN;have aeN:=cz;have yS:=cY;clear bD bN cz cY;clear hb cJ hg)|((with_reducible refine aN (f:=37) rfl ?_);refine cr (some 10) rfl rfl Tryz.func37 au rfl #[.string a0,.string (⟨#[60,62]⟩:ByteArray)] rfl cV ?_;(with_reducible refine (strings_HasPrefix.calls a0 (⟨#[60,62]⟩:ByteArray) false _ A2.out).mono ?_);rintro e w' ⟨rfl,⟨nd,rfl⟩⟩;refine ⟨_,rfl,?_⟩;(try (rw [E0 w9];generalize hq_:World.drewN w9 _=w9;have bD:ah (w9.heap[eo]? =some (.cells #[.bool false,.slice none 0 0,.string (⟨#[]⟩:ByteArray),.string (⟨#[]⟩:ByteArray),.bool false] 32 (0,0))):=⟨PR⟩;have bN:ah (Below w.heap.size w w9):=⟨PL⟩;clear dX HB hq_;have dX:=bD;have HB:=bN;clear bD bN)))|((with_reducible refine cG (N:=14) rfl ?_);(try (refine dg (by rfl) ?_;dsimp only));refine cj ?hg (N:=14) ?hd (cs:=#[.string a0,.int .i64 0]) (t:=82) ?hr ?_;(case hd=>rfl);(case hg=>rfl);(case hr=>first|(go_simp;done)|(go_simp;rfl));intro qg hg sV cJ hb;have bD:=ah.mk (aJ (g:=eo) (o:= .cells #[.bool false,.slice none 0 0,.string (⟨#[]⟩:ByteArray),.string (⟨#[]⟩:ByteArray),.bool false] 32 (0,0)) rX hb);have bN:=ah.mk (ay Ub hb);have cz:=ah.mk ((⟨cJ,Ik⟩:av w sV qg a0 0));have cY:=ah.mk ((Ik:w.heap.size≤qg));have jv:=ah.mk ((Ik:w.heap.size≤qg));have om:=ah.mk ((PE:eo≠qg));have oZ:=ah.mk ((PF:qg≠eo));clear dX;clear HB;have dX:=bD;have HB:=bN;have gI:=cz;have ao8:=cY;have ao9:=jv;have qy:=om;have lu:=oZ;clear bD bN cz cY jv om oZ;clear hb cJ hg)|((with_reducible refine aN (f:=56) rfl ?_);refine cr (some 16) rfl rfl Tryz.func56 au rfl #[.pointer (some ⟨qg,0,none⟩),.int .u8 60] rfl cV ?_;(with_reducible refine (br.calls qg a0 0 60 t212 t213 t214 w _ ?aX ?bS A6.out).mono ?_);(case aX=>repeat (first|(with_reducible first|exact gI.out|apply av.alloc|apply av.drewN|apply av.drew|apply av.fQ|apply av.fM|refine av.far ?_ lu.out _)|exact gI.out));(case bS=>repeat (first|(with_reducible first|exact HB.out|apply az|apply aB|apply bu|refine bp ?_ (av.ge gI.out)|refine bp ?_ yS.out)|exact HB.out));rintro e w11 ⟨rfl,hi,hb,hk⟩;refine ⟨_,rfl,?_⟩;have bD:=ah.mk (bA.blk hk (g':=eo) (o:= .cells #[.bool false,.slice none 0 0,.string (⟨#[]⟩:ByteArray),.string (⟨#[]⟩:ByteArray),.bool false] 32 (0,0)) rX qy.out bn);have bN:=ah.mk (hb);have cz:=ah.mk (hi);clear dX;clear HB;clear gI;have dX:=bD;have HB:=bN;have gI:=cz;clear bD bN cz;(try clear hb);(try clear hb2);(try clear hk);(try clear hi))|((with_reducible refine aN (f:=57) rfl ?_);refine cr (some 19) rfl rfl Tryz.func57 au rfl #[.pointer (some ⟨qg,0,none⟩)] rfl cV ?_;(with_reducible refine (dw.calls k qg t213 t214 t215 t216 t219 t220 t221 t222 t223 t224 w _ ?aX ?bS ?dH A7.out).mono ?_);(case aX=>repeat (first|(with_reducible first|exact gI.out|apply av.alloc|apply av.drewN|apply av.drew|apply av.fQ|apply av.fM|refine av.far ?_ lu.out _)|exact gI.out));(case bS=>repeat (first|(with_reducible first|exact HB.out|apply az|apply aB|apply bu|refine bp ?_ (av.ge gI.out)|refine bp ?_ yS.out)|exact HB.out));(case dH=>exact HG.out);rintro e SX ⟨aq6,rfl,ho0,hi,hb,hk⟩;refine ⟨_,rfl,?_⟩;have bD:=ah.mk (bA.blk hk (g':=eo) (o:= .cells #[.bool false,.slice none 0 0,.string (⟨#[]⟩:ByteArray),.string (⟨#[]⟩:ByteArray),.bool false] 32 (0,0)) rX qy.out bn);have bN:=ah.mk (Kd.gL ho0 (eu Uu));have cz:=ah.mk (hb);have cY:=ah.mk (hi);clear dX;clear HB;clear gI;have dX:=bD;have Ci:=bN;have HB:=cz;have gI:=cY;clear bD bN cz cY;(try clear hb);(try clear hb2);(try clear hk);(try clear hi);(try clear ho0))|((with_reducible refine cG (N:=7) rfl ?_);(try (refine dg (by rfl) ?_;dsimp only));refine cj ?hg (N:=7) ?hd (cs:=#[.bool false,.slice none 0 0,.string (⟨#[]⟩:ByteArray),.string (⟨#[]⟩:ByteArray),.bool false]) (t:=32) ?hr ?_;(case hd=>rfl);(case hg=>rfl);(case hr=>first|(go_simp;done)|(go_simp;rfl));intro fN hg nI cJ hb;have bD:=ah.mk (Kd.dL PW hb);have bN:=ah.mk (aJ (g:=eo) (o:= .cells #[.bool false,.slice none 0 0,.string (⟨#[]⟩:ByteArray),.string (⟨#[]⟩:ByteArray),.bool false] 32 (0,0)) rX hb);have cz:=ah.mk (av.below (by repeat (first|(with_reducible first|exact gI.out|apply av.alloc|apply av.drewN|apply av.drew|apply av.fQ|apply av.fM|refine av.far ?_ lu.out _)|exact gI.out)) hb);have cY:=ah.mk (ay Uu hb);have jv:=ah.mk (cJ);have om:=ah.mk ((PG:w.heap.size≤fN));have oZ:=ah.mk ((PG:w.heap.size≤fN));have xg:=ah.mk ((PE:eo≠fN));have zb:=ah.mk ((PF:fN≠eo));have n9_ :=ah.mk ((by rw [hg];exact Nat.ne_of_lt (av.lt (show av w _ qg t223 t224 from by repeat (first|(with_reducible first|exact gI.out|apply av.alloc|apply av.drewN|apply av.drew|apply av.fQ|apply av.fM|refine av.far ?_ lu.out _)|exact gI.out))):qg≠fN));have aeO:=ah.mk ((by rw [hg];exact Nat.ne_of_gt (av.lt (show av w _ qg t223 t224 from by repeat (first|(with_reducible first|exact gI.out|apply av.alloc|apply av.drewN|apply av.drew|apply av.fQ|apply av.fM|refine av.far ?_ lu.out _)|exact gI.out))):fN≠qg));clear Ci;clear dX;clear gI;clear HB;have Ci:=bD;have dX:=bN;have gI:=cz;have HB:=cY;have dS:=jv;have apb:=om;have aao:=oZ;have jt:=xg;have eO:=zb;have oQ:=n9_;have rT:=aeO;clear bD bN cz cY jv om oZ xg zb n9_ aeO;clear hb cJ hg;have ad7:=eO.out;have ad8:=jt.out;have aeP:=rT.out;have aeQ:=oQ.out;have ni:nI.cell? ⟨fN,0,none⟩=some (.bool false):=(af dS.out 0).trans rfl;have nj:nI.cell? ⟨fN,1,none⟩=some (.slice none 0 0):=(af dS.out 1).trans rfl;have pP:nI.cell? ⟨fN,2,none⟩=some (.string (⟨#[]⟩:ByteArray)):=(af dS.out 2).trans rfl;have rI:nI.cell? ⟨fN,3,none⟩=some (.string (⟨#[]⟩:ByteArray)):=(af dS.out 3).trans rfl;have rJ:nI.cell? ⟨fN,4,none⟩=some (.bool false):=(af dS.out 4).trans rfl;have nk:=aa dS.out 0;have nr:=aa dS.out 1;have pQ:=aa dS.out 2;have rK:=aa dS.out 3;have rL:=aa dS.out 4;obtain ⟨p8,qa,ab5⟩:=Kd.eG Ci.out;subst ab5))
  (try simp only [Act.put,List.setIfInBounds_toArray,List.set_cons_zero,List.set_cons_succ])
  go_cut [22] (fun v22 wc=>∃ (kq:Nat) (Rw:Bool) (yH:ByteArray) (nN:Int),v22= .bool Rw∧ah (bX.j0 kq Rw yH nN t215 t216 t219 t220 t221=some (r1,r2,r3,r4,r5,r6,r7))∧ah (kq≤k)∧ah (Kd.R Kd.string 9 wc w.heap.size (fun _ =>True) (.slice p8 t216.length qa) t216)∧ah (wc.heap[eo]? =some (.cells #[.bool false,(.slice none 0 0),.string (⟨#[]⟩:ByteArray),.string (⟨#[]⟩:ByteArray),.bool false] 32 (0,0)))∧ah (wc.heap[fN]? =some (.cells #[.bool t215,(.slice p8 t216.length qa),.string t219,.string t220,.bool t221] 32 (0,0)))∧ah (av w wc qg yH nN)∧ah (Below w.heap.size w wc))
  case first=>
   have H:=HC8.out
   clear HC8
   by_cases c18:t212=true
   ·subst c18
    have H1:(if t222=true then ((br.f t223 t224 62).bind fun kV=>(bX.j0 k (!kV.1) kV.2.1 kV.2.2 t215 t216 t219 t220 t221)) else (bX.j0 k true t223 t224 t215 t216 t219 t220 t221))=some (r1,r2,r3,r4,r5,r6,r7):=by rw [if_pos rfl] at H;exact H
    clear H
    have H:=H1
    clear H1
    by_cases c19:t222=true
    ·subst c19
     have H1:((br.f t223 t224 62).bind fun kV=>(bX.j0 k (!kV.1) kV.2.1 kV.2.2 t215 t216 t219 t220 t221))=some (r1,r2,r3,r4,r5,r6,r7):=by rw [if_pos rfl] at H;exact H
     clear H
     have H:=H1
     clear H1
     replace H:=Option.bind_eq_some_iff.mp H
     obtain ⟨⟨t226,t227,t228⟩,VD,H⟩:=H
     replace H:(bX.j0 k (!t226) t227 t228 t215 t216 t219 t220 t221)=some (r1,r2,r3,r4,r5,r6,r7):=H
     have nK:=ah.mk VD
     clear VD
     have H':=ah.mk H
     clear H
     go_wp2_with (first|(go_at_call 56;(with_reducible refine (br.calls qg t223 t224 62 t226 t227 t228 w _ ?aX ?bS nK.out).mono ?_);(case aX=>repeat (first|(with_reducible first|exact gI.out|apply av.alloc|apply av.drewN|apply av.drew|apply av.fQ|apply av.fM|refine av.far ?_ lu.out _|refine av.far ?_ oQ.out _)|exact gI.out));(case bS=>repeat (first|(with_reducible first|exact HB.out|apply az|apply aB|apply bu|refine bp ?_ (av.ge gI.out)|refine bp ?_ yS.out|refine bp ?_ aao.out)|exact HB.out));rintro e C8 ⟨rfl,hi,hb,hk⟩;have bD:=ah.mk (bA.blk hk (g':=eo) (o:= .cells #[.bool false,.slice none 0 0,.string (⟨#[]⟩:ByteArray),.string (⟨#[]⟩:ByteArray),.bool false] 32 (0,0)) NF qy.out bn);have bN:=ah.mk (Kd.gi (Kd.sw (av.apart (show av w _ qg t223 t224 from by repeat (first|(with_reducible first|exact gI.out|apply av.alloc|apply av.drewN|apply av.drew|apply av.fQ|apply av.fM|refine av.far ?_ lu.out _|refine av.far ?_ oQ.out _)|exact gI.out)) (by (with_reducible repeat (first|apply Kd.gh|apply Kd.gm|apply Kd.iq));exact (Kd.gi (Kd.cH (p:=⟨fN,4,none⟩) (Kd.cH (p:=⟨fN,3,none⟩) (Kd.cH (p:=⟨fN,2,none⟩) (Kd.cH (p:=⟨fN,1,none⟩) (Kd.cH (p:=⟨fN,0,none⟩) (Kd.j4 Ci.out dS.out bR) (fun _ hk=>hk.2) (.bool t215)) (fun _ hk=>hk.2) (.slice p8 t216.length qa)) (fun _ hk=>hk.2) (.string t219)) (fun _ hk=>hk.2) (.string t220)) (fun _ hk=>hk.2) (.bool t221)) (fun _ h_ =>h_.1))) bR) hk (fun _ h=>h.2)) (fun _ h=>h.1));have cz:=ah.mk (bA.blk hk (g':=fN) (o:= .cells #[.bool t215,.slice p8 t216.length qa,.string t219,.string t220,.bool t221] 32 (0,0)) ND rT.out bn);have cY:=ah.mk (hb);have jv:=ah.mk (hi);clear dX;clear Ci;clear dS;clear HB;clear gI;have dX:=bD;have Ci:=bN;have dS:=cz;have HB:=cY;have gI:=jv;clear bD bN cz cY jv;(try clear hb);(try clear hb2);(try clear hk);(try clear hi)))
     go_meet
     case rel=>exact ⟨_,(!t226),(t227),(t228),ey,H',⟨nU⟩,⟨PW⟩,⟨rX⟩,⟨zg⟩,⟨uw⟩,⟨lS⟩⟩
    ·replace c19:=Bool.eq_false_iff.mpr c19
     subst c19
     have H1:(bX.j0 k true t223 t224 t215 t216 t219 t220 t221)=some (r1,r2,r3,r4,r5,r6,r7):=by rw [if_neg (show ¬ (false=true) by decide)] at H;exact H
     clear H
     have H:=H1
     clear H1
     have H':=ah.mk H
     clear H
     go_wp2
     go_meet
     case rel=>exact ⟨_,(true),(t223),(t224),ey,H',⟨nU⟩,⟨Uv⟩,⟨NF⟩,⟨ND⟩,⟨uw⟩,⟨lS⟩⟩
   ·replace c18:=Bool.eq_false_iff.mpr c18
    subst c18
    have H1:(bX.j0 k true t223 t224 t215 t216 t219 t220 t221)=some (r1,r2,r3,r4,r5,r6,r7):=by rw [if_neg (show ¬ (false=true) by decide)] at H;exact H
    clear H
    have H:=H1
    clear H1
    have H':=ah.mk H
    clear H
    go_wp2
    go_meet
    case rel=>exact ⟨_,(true),(t223),(t224),ey,H',⟨nU⟩,⟨Uv⟩,⟨NF⟩,⟨ND⟩,⟨uw⟩,⟨lS⟩⟩
  case rest=>
   clear HC8
   try clear c1
   try clear p2
   try clear c3
   try clear c5
   try clear c14
   try clear c15
   try clear c17
   try clear c18
   try clear c19
   try clear ni
   try clear nj
   try clear pP
   try clear rI
   try clear rJ
   try clear JU
   try clear JV
   try clear OC
   try clear Vz
   try clear VA
   try clear nk
   try clear nr
   try clear pQ
   try clear rK
   try clear rL
   try clear JW
   try clear JX
   try clear OD
   try clear VB
   try clear VC
   obtain ⟨kq,Rw,yH,nN,rfl,HA,HJ7,gK,dX,dS,gI,HB⟩:=hcut
   cases kq with
   |zero=>exact absurd HA.out (by simp [bX.j0])
   |succ WU=>
    have H:=HA.out
    clear HA
    simp only [bX.j0] at H
    by_cases Gq:Rw=true
    ·subst Gq
     have H1:(some (false,([]:List ByteArray),(⟨#[]⟩:ByteArray),(⟨#[]⟩:ByteArray),false,0,150))=some (r1,r2,r3,r4,r5,r6,r7):=by rw [if_pos rfl] at H;exact H
     clear H
     have H:=H1
     clear H1
     simp only [Option.some.injEq,Prod.mk.injEq] at H
     obtain ⟨rfl,rfl,rfl,rfl,rfl,rfl,rfl⟩:=H
     have aee:=jt.out
     have aef:=eO.out
     have aeG:=qy.out
     have aeH:=lu.out
     have tD:wc.cell? ⟨eo,0,none⟩=some (.bool false):=(af dX.out 0).trans rfl
     have tE:wc.cell? ⟨eo,1,none⟩=some (.slice none 0 0):=(af dX.out 1).trans rfl
     have tF:wc.cell? ⟨eo,2,none⟩=some (.string (⟨#[]⟩:ByteArray)):=(af dX.out 2).trans rfl
     have yz:wc.cell? ⟨eo,3,none⟩=some (.string (⟨#[]⟩:ByteArray)):=(af dX.out 3).trans rfl
     have yA:wc.cell? ⟨eo,4,none⟩=some (.bool false):=(af dX.out 4).trans rfl
     have tG:=aa dX.out 0
     have tH:=aa dX.out 1
     have tI:=aa dX.out 2
     have yB:=aa dX.out 3
     have yC:=aa dX.out 4
     go_wp2
     refine bodyPost_ret (oW rfl _ _ eo 32 #[.bool false,.slice none 0 0,.string (⟨#[]⟩:ByteArray),.string (⟨#[]⟩:ByteArray),.bool false] (0,0) _ rfl Ib Tryz.underlying32 rfl au) rfl ?_
     exact ⟨_,cZ,BG,lS⟩
    ·replace Gq:=Bool.eq_false_iff.mpr Gq
     subst Gq
     have H1:((eF.f WU t219 t220 t221).bind fun t229=>(if t229=true then (if (t216.length:Int) > 20 then (some (false,([]:List ByteArray),(⟨#[]⟩:ByteArray),(⟨#[]⟩:ByteArray),false,0,3)) else ((bB.f WU t216).bind fun t230=>(if t230=true then (some (false,([]:List ByteArray),(⟨#[]⟩:ByteArray),(⟨#[]⟩:ByteArray),false,0,3)) else (some (t215,t216,t219,t220,t221,nN,0))))) else (some (false,([]:List ByteArray),(⟨#[]⟩:ByteArray),(⟨#[]⟩:ByteArray),false,0,3))))=some (r1,r2,r3,r4,r5,r6,r7):=by rw [if_neg (show ¬ (false=true) by decide)] at H;exact H
     clear H
     have H:=H1
     clear H1
     replace H:=Option.bind_eq_some_iff.mp H
     obtain ⟨t229,aeR,H⟩:=H
     replace H:(if t229=true then (if (t216.length:Int) > 20 then (some (false,([]:List ByteArray),(⟨#[]⟩:ByteArray),(⟨#[]⟩:ByteArray),false,0,3)) else ((bB.f WU t216).bind fun t230=>(if t230=true then (some (false,([]:List ByteArray),(⟨#[]⟩:ByteArray),(⟨#[]⟩:ByteArray),false,0,3)) else (some (t215,t216,t219,t220,t221,nN,0))))) else (some (false,([]:List ByteArray),(⟨#[]⟩:ByteArray),(⟨#[]⟩:ByteArray),false,0,3)))=some (r1,r2,r3,r4,r5,r6,r7):=H
     have A26:=ah.mk aeR
     clear aeR
     by_cases QZ:t229=true
     ·subst QZ
      have H1:(if (t216.length:Int) > 20 then (some (false,([]:List ByteArray),(⟨#[]⟩:ByteArray),(⟨#[]⟩:ByteArray),false,0,3)) else ((bB.f WU t216).bind fun t230=>(if t230=true then (some (false,([]:List ByteArray),(⟨#[]⟩:ByteArray),(⟨#[]⟩:ByteArray),false,0,3)) else (some (t215,t216,t219,t220,t221,nN,0)))))=some (r1,r2,r3,r4,r5,r6,r7):=by rw [if_pos rfl] at H;exact H
      clear H
      have H:=H1
      clear H1
      by_cases c28:(t216.length:Int) > 20
      ·rw [if_pos c28] at H
       have GX:decide (20 < (t216.length:Int))=true:=decide_eq_true c28
       have aeS:decide (20 < t216.length)=true:=decide_eq_true aq
       clear c28
       simp only [Option.some.injEq,Prod.mk.injEq] at H
       obtain ⟨rfl,rfl,rfl,rfl,rfl,rfl,rfl⟩:=H
       have apc:=eO.out
       have apd:=jt.out
       have aaM:=rT.out
       have aaN:=oQ.out
       have yD:wc.cell? ⟨fN,0,none⟩=some (.bool t215):=(af dS.out 0).trans rfl
       have yE:wc.cell? ⟨fN,1,none⟩=some (.slice p8 t216.length qa):=(af dS.out 1).trans rfl
       have AR:wc.cell? ⟨fN,2,none⟩=some (.string t219):=(af dS.out 2).trans rfl
       have X5:wc.cell? ⟨fN,3,none⟩=some (.string t220):=(af dS.out 3).trans rfl
       have X6:wc.cell? ⟨fN,4,none⟩=some (.bool t221):=(af dS.out 4).trans rfl
       have yF:=aa dS.out 0
       have yG:=aa dS.out 1
       have AU:=aa dS.out 2
       have X7:=aa dS.out 3
       have X8:=aa dS.out 4
       go_wp2_with (first|((with_reducible refine aN (f:=58) rfl ?_);refine cr (some 38) rfl rfl Tryz.func58 au rfl #[.agg #[.string t219,.string t220,.bool t221]] rfl cV ?_;(with_reducible refine (eF.calls WU t219 t220 t221 true _ ?aX A26.out).mono ?_);(case aX=>exact aT.below HG.out lS);rintro e Fl ⟨rfl,hb⟩;refine ⟨_,rfl,?_⟩;have bD:=ah.mk (Kd.dL BI hb);have bN:=ah.mk (aJ (g:=eo) (o:= .cells #[.bool false,.slice none 0 0,.string (⟨#[]⟩:ByteArray),.string (⟨#[]⟩:ByteArray),.bool false] 32 (0,0)) rX hb);have cz:=ah.mk (aJ (g:=fN) (o:= .cells #[.bool t215,.slice p8 t216.length qa,.string t219,.string t220,.bool t221] 32 (0,0)) zg hb);have cY:=ah.mk (av.below uw hb);have jv:=ah.mk (ay lS hb);clear gK;clear dX;clear dS;clear gI;clear HB;have gK:=bD;have dX:=bN;have dS:=cz;have gI:=cY;have HB:=jv;clear bD bN cz cY jv;(try clear hb);(try clear hb2);(try clear hk);(try clear hi);have Rg:Fl.cell? ⟨fN,0,none⟩=some (.bool t215):=(af dS.out 0).trans rfl;have Rh:Fl.cell? ⟨fN,1,none⟩=some (.slice p8 t216.length qa):=(af dS.out 1).trans rfl;have X9:Fl.cell? ⟨fN,2,none⟩=some (.string t219):=(af dS.out 2).trans rfl;have Ya:Fl.cell? ⟨fN,3,none⟩=some (.string t220):=(af dS.out 3).trans rfl;have Yb:Fl.cell? ⟨fN,4,none⟩=some (.bool t221):=(af dS.out 4).trans rfl;have Ri:=aa dS.out 0;have Rj:=aa dS.out 1;have Yc:=aa dS.out 2;have Yd:=aa dS.out 3;have Ye:=aa dS.out 4;have aeh:=qy.out;have aei:=lu.out;have Au:Fl.cell? ⟨eo,0,none⟩=some (.bool false):=(af dX.out 0).trans rfl;have Av:Fl.cell? ⟨eo,1,none⟩=some (.slice none 0 0):=(af dX.out 1).trans rfl;have Aw:Fl.cell? ⟨eo,2,none⟩=some (.string (⟨#[]⟩:ByteArray)):=(af dX.out 2).trans rfl;have Q3:Fl.cell? ⟨eo,3,none⟩=some (.string (⟨#[]⟩:ByteArray)):=(af dX.out 3).trans rfl;have Q4:Fl.cell? ⟨eo,4,none⟩=some (.bool false):=(af dX.out 4).trans rfl;have Ax:=aa dX.out 0;have Ay:=aa dX.out 1;have Az:=aa dX.out 2;have Q5:=aa dX.out 3;have Q6:=aa dX.out 4))
       refine bodyPost_ret (oW rfl _ _ eo 32 #[.bool false,.slice none 0 0,.string (⟨#[]⟩:ByteArray),.string (⟨#[]⟩:ByteArray),.bool false] (0,0) _ rfl Ib Tryz.underlying32 rfl au) rfl ?_
       exact ⟨_,cZ,BG,lS⟩
      ·rw [if_neg c28] at H
       have GX:decide (20 < (t216.length:Int))=false:=decide_eq_false c28
       have aeS:decide (20 < t216.length)=false:=decide_eq_false aq
       clear c28
       replace H:=Option.bind_eq_some_iff.mp H
       obtain ⟨t230,aeT,H⟩:=H
       replace H:(if t230=true then (some (false,([]:List ByteArray),(⟨#[]⟩:ByteArray),(⟨#[]⟩:ByteArray),false,0,3)) else (some (t215,t216,t219,t220,t221,nN,0)))=some (r1,r2,r3,r4,r5,r6,r7):=H
       have A36:=ah.mk aeT
       clear aeT
       by_cases c37:t230=true
       ·subst c37
        have H1:(some (false,([]:List ByteArray),(⟨#[]⟩:ByteArray),(⟨#[]⟩:ByteArray),false,0,3))=some (r1,r2,r3,r4,r5,r6,r7):=by rw [if_pos rfl] at H;exact H
        clear H
        have H:=H1
        clear H1
        simp only [Option.some.injEq,Prod.mk.injEq] at H
        obtain ⟨rfl,rfl,rfl,rfl,rfl,rfl,rfl⟩:=H
        have aeU:=eO.out
        have aeV:=jt.out
        have aeW:=rT.out
        have aeX:=oQ.out
        have Rx:wc.cell? ⟨fN,0,none⟩=some (.bool t215):=(af dS.out 0).trans rfl
        have Ry:wc.cell? ⟨fN,1,none⟩=some (.slice p8 t216.length qa):=(af dS.out 1).trans rfl
        have Rz:wc.cell? ⟨fN,2,none⟩=some (.string t219):=(af dS.out 2).trans rfl
        have RA:wc.cell? ⟨fN,3,none⟩=some (.string t220):=(af dS.out 3).trans rfl
        have RB:wc.cell? ⟨fN,4,none⟩=some (.bool t221):=(af dS.out 4).trans rfl
        have RD:=aa dS.out 0
        have RF:=aa dS.out 1
        have RG:=aa dS.out 2
        have RH:=aa dS.out 3
        have RI:=aa dS.out 4
        go_wp2_with (first|((with_reducible refine aN (f:=58) rfl ?_);refine cr (some 38) rfl rfl Tryz.func58 au rfl #[.agg #[.string t219,.string t220,.bool t221]] rfl cV ?_;(with_reducible refine (eF.calls WU t219 t220 t221 true _ ?aX A26.out).mono ?_);(case aX=>exact aT.below HG.out lS);rintro e RJ ⟨rfl,hb⟩;refine ⟨_,rfl,?_⟩;have bD:=ah.mk (Kd.dL BI hb);have bN:=ah.mk (aJ (g:=eo) (o:= .cells #[.bool false,.slice none 0 0,.string (⟨#[]⟩:ByteArray),.string (⟨#[]⟩:ByteArray),.bool false] 32 (0,0)) rX hb);have cz:=ah.mk (aJ (g:=fN) (o:= .cells #[.bool t215,.slice p8 t216.length qa,.string t219,.string t220,.bool t221] 32 (0,0)) zg hb);have cY:=ah.mk (av.below uw hb);have jv:=ah.mk (ay lS hb);clear gK;clear dX;clear dS;clear gI;clear HB;have gK:=bD;have dX:=bN;have dS:=cz;have gI:=cY;have HB:=jv;clear bD bN cz cY jv;(try clear hb);(try clear hb2);(try clear hk);(try clear hi);have RL:RJ.cell? ⟨fN,0,none⟩=some (.bool t215):=(af dS.out 0).trans rfl;have RM:RJ.cell? ⟨fN,1,none⟩=some (.slice p8 t216.length qa):=(af dS.out 1).trans rfl;have RN:RJ.cell? ⟨fN,2,none⟩=some (.string t219):=(af dS.out 2).trans rfl;have RO:RJ.cell? ⟨fN,3,none⟩=some (.string t220):=(af dS.out 3).trans rfl;have RP:RJ.cell? ⟨fN,4,none⟩=some (.bool t221):=(af dS.out 4).trans rfl;have RQ:=aa dS.out 0;have RR:=aa dS.out 1;have RS:=aa dS.out 2;have RT:=aa dS.out 3;have RU:=aa dS.out 4)|(go_at_call 59;(with_reducible refine (bB.calls WU _ _ t216 true _ ?aX ?bS ?dH A36.out).mono ?_);(case aX=>repeat (first|exact (Kd.fq gK.out).2.2|(with_reducible refine Kd.cK ?_ _)|(with_reducible refine Kd.cL ?_ _)|(with_reducible refine Kd.dG ?_)));(case bS=>exact (Kd.fq gK.out).2.1);(case dH=>exact aT.below HG.out lS);rintro e Fp ⟨rfl,hb⟩;have bD:=ah.mk (Kd.dL BI hb);have bN:=ah.mk (aJ (g:=eo) (o:= .cells #[.bool false,.slice none 0 0,.string (⟨#[]⟩:ByteArray),.string (⟨#[]⟩:ByteArray),.bool false] 32 (0,0)) rX hb);have cz:=ah.mk (aJ (g:=fN) (o:= .cells #[.bool t215,.slice p8 t216.length qa,.string t219,.string t220,.bool t221] 32 (0,0)) zg hb);have cY:=ah.mk (av.below uw hb);have jv:=ah.mk (ay lS hb);clear gK;clear dX;clear dS;clear gI;clear HB;have gK:=bD;have dX:=bN;have dS:=cz;have gI:=cY;have HB:=jv;clear bD bN cz cY jv;(try clear hb);(try clear hb2);(try clear hk);(try clear hi);have apf:=qy.out;have apg:=lu.out;have Yf:Fp.cell? ⟨eo,0,none⟩=some (.bool false):=(af dX.out 0).trans rfl;have Yg:Fp.cell? ⟨eo,1,none⟩=some (.slice none 0 0):=(af dX.out 1).trans rfl;have Yh:Fp.cell? ⟨eo,2,none⟩=some (.string (⟨#[]⟩:ByteArray)):=(af dX.out 2).trans rfl;have ahC:Fp.cell? ⟨eo,3,none⟩=some (.string (⟨#[]⟩:ByteArray)):=(af dX.out 3).trans rfl;have ahD:Fp.cell? ⟨eo,4,none⟩=some (.bool false):=(af dX.out 4).trans rfl;have Yi:=aa dX.out 0;have Yj:=aa dX.out 1;have Yk:=aa dX.out 2;have ahE:=aa dX.out 3;have ahF:=aa dX.out 4))
        refine bodyPost_ret (oW rfl _ _ eo 32 #[.bool false,.slice none 0 0,.string (⟨#[]⟩:ByteArray),.string (⟨#[]⟩:ByteArray),.bool false] (0,0) _ rfl Ib Tryz.underlying32 rfl au) rfl ?_
        exact ⟨_,cZ,BG,lS⟩
       ·replace c37:=Bool.eq_false_iff.mpr c37
        subst c37
        have H1:(some (t215,t216,t219,t220,t221,nN,0))=some (r1,r2,r3,r4,r5,r6,r7):=by rw [if_neg (show ¬ (false=true) by decide)] at H;exact H
        clear H
        have H:=H1
        clear H1
        simp only [Option.some.injEq,Prod.mk.injEq] at H
        obtain ⟨rfl,rfl,rfl,rfl,rfl,rfl,rfl⟩:=H
        have aph:=eO.out
        have api:=jt.out
        have apj:=rT.out
        have apk:=oQ.out
        have Yl:wc.cell? ⟨fN,0,none⟩=some (.bool t215):=(af dS.out 0).trans rfl
        have Ym:wc.cell? ⟨fN,1,none⟩=some (.slice p8 t216.length qa):=(af dS.out 1).trans rfl
        have Yn:wc.cell? ⟨fN,2,none⟩=some (.string t219):=(af dS.out 2).trans rfl
        have ahG:wc.cell? ⟨fN,3,none⟩=some (.string t220):=(af dS.out 3).trans rfl
        have ahH:wc.cell? ⟨fN,4,none⟩=some (.bool t221):=(af dS.out 4).trans rfl
        have Yo:=aa dS.out 0
        have Yp:=aa dS.out 1
        have Yq:=aa dS.out 2
        have ahI:=aa dS.out 3
        have ahJ:=aa dS.out 4
        try go_wp2_with (first|((with_reducible refine aN (f:=58) rfl ?_);refine cr (some 38) rfl rfl Tryz.func58 au rfl #[.agg #[.string t219,.string t220,.bool t221]] rfl cV ?_;(with_reducible refine (eF.calls WU t219 t220 t221 true _ ?aX A26.out).mono ?_);(case aX=>exact aT.below HG.out lS);rintro e w49 ⟨rfl,hb⟩;refine ⟨_,rfl,?_⟩;have bD:=ah.mk (Kd.dL BI hb);have bN:=ah.mk (aJ (g:=eo) (o:= .cells #[.bool false,.slice none 0 0,.string (⟨#[]⟩:ByteArray),.string (⟨#[]⟩:ByteArray),.bool false] 32 (0,0)) rX hb);have cz:=ah.mk (aJ (g:=fN) (o:= .cells #[.bool t215,.slice p8 t216.length qa,.string t219,.string t220,.bool t221] 32 (0,0)) zg hb);have cY:=ah.mk (av.below uw hb);have jv:=ah.mk (ay lS hb);clear gK;clear dX;clear dS;clear gI;clear HB;have gK:=bD;have dX:=bN;have dS:=cz;have gI:=cY;have HB:=jv;clear bD bN cz cY jv;(try clear hb);(try clear hb2);(try clear hk);(try clear hi);have Yr:w49.cell? ⟨fN,0,none⟩=some (.bool t215):=(af dS.out 0).trans rfl;have Yt:w49.cell? ⟨fN,1,none⟩=some (.slice p8 t216.length qa):=(af dS.out 1).trans rfl;have Yu:w49.cell? ⟨fN,2,none⟩=some (.string t219):=(af dS.out 2).trans rfl;have ahK:w49.cell? ⟨fN,3,none⟩=some (.string t220):=(af dS.out 3).trans rfl;have ahL:w49.cell? ⟨fN,4,none⟩=some (.bool t221):=(af dS.out 4).trans rfl;have Yv:=aa dS.out 0;have Yw:=aa dS.out 1;have Yx:=aa dS.out 2;have ahM:=aa dS.out 3;have ahN:=aa dS.out 4)|(go_at_call 59;(with_reducible refine (bB.calls WU _ _ t216 false _ ?aX ?bS ?dH A36.out).mono ?_);(case aX=>repeat (first|exact (Kd.fq gK.out).2.2|(with_reducible refine Kd.cK ?_ _)|(with_reducible refine Kd.cL ?_ _)|(with_reducible refine Kd.dG ?_)));(case bS=>exact (Kd.fq gK.out).2.1);(case dH=>exact aT.below HG.out lS);rintro e w51 ⟨rfl,hb⟩;have bD:=ah.mk (Kd.dL BI hb);have bN:=ah.mk (aJ (g:=eo) (o:= .cells #[.bool false,.slice none 0 0,.string (⟨#[]⟩:ByteArray),.string (⟨#[]⟩:ByteArray),.bool false] 32 (0,0)) rX hb);have cz:=ah.mk (aJ (g:=fN) (o:= .cells #[.bool t215,.slice p8 t216.length qa,.string t219,.string t220,.bool t221] 32 (0,0)) zg hb);have cY:=ah.mk (av.below uw hb);have jv:=ah.mk (ay lS hb);clear gK;clear dX;clear dS;clear gI;clear HB;have gK:=bD;have dX:=bN;have dS:=cz;have gI:=cY;have HB:=jv;clear bD bN cz cY jv;(try clear hb);(try clear hb2);(try clear hk);(try clear hi)))
        have bD:=ah.mk (Kd.iq gK.out)
        have bN:=ah.mk (bh dX.out)
        have cz:=ah.mk (bh dS.out)
        have cY:=ah.mk (av.drew gI.out)
        have jv:=ah.mk (bu HB.out)
        clear gK
        clear dX
        clear dS
        clear gI
        clear HB
        have gK:=bD
        have dX:=bN
        have dS:=cz
        have gI:=cY
        have HB:=jv
        clear bD bN cz cY jv
        refine BK (n:=8) (S:=fun w'=>w'.cell? ⟨fN,0,none⟩=some (.bool t215)∧w'.cell? ⟨fN,1,none⟩=some (.slice p8 t216.length qa)∧w'.cell? ⟨fN,2,none⟩=some (.string t219)∧w'.cell? ⟨fN,3,none⟩=some (.string t220)∧w'.cell? ⟨fN,4,none⟩=some (.bool t221)∧w'.cell? ⟨qg,0,none⟩=some (.string yH)∧w'.cell? ⟨qg,1,none⟩=some (.int .i64 nN)) (ds:=[]) #[false,false,false,false,false,false,false,false] au (by rfl) (by rfl) ⟨(af dS.out 0).trans rfl,(af dS.out 1).trans rfl,(af dS.out 2).trans rfl,(af dS.out 3).trans rfl,(af dS.out 4).trans rfl,dW gI.out.1,dQ gI.out.1⟩ (fun hHeld=>?_);refine ue bX.aeM bX.ab4 (fun mg OA=>?_)
        generalize w51.drew=Gg at gK dX dS gI HB hHeld ⊢
        refine eP (i:=1) (N:=some 53) (v:=?_) (a':=?_) #[false,true,false,false,false,false,false,false] rfl rfl (fP mg.out au) (fun _ _ _ h=>h) (Or.inl ⟨by rfl,?_⟩) ?_ ?_
        rotate_left
        ·intro w'
         go_simp
         with_reducible rfl
        rotate_left
        ·simp only [Act.put,List.setIfInBounds_toArray,List.set_cons_zero,List.set_cons_succ,dB,dD]
         rfl
        refine eP (i:=2) (N:=some 54) (v:=?_) (a':=?_) #[false,true,true,false,false,false,false,false] rfl rfl (fP mg.out au) (fun _ _ _ h=>h) (Or.inl ⟨by rfl,?_⟩) ?_ ?_
        rotate_left
        ·intro w'
         go_simp
         with_reducible rfl
        rotate_left
        ·simp only [Act.put,List.setIfInBounds_toArray,List.set_cons_zero,List.set_cons_succ,dB,dD]
         rfl
        refine eP (i:=3) (N:=some 55) (v:=?_) (a':=?_) #[false,true,true,true,false,false,false,false] rfl rfl (fP mg.out au) (fun _ _ _ h=>h) (Or.inl ⟨by rfl,?_⟩) ?_ ?_
        rotate_left
        ·intro w'
         go_simp
         with_reducible rfl
        rotate_left
        ·simp only [Act.put,List.setIfInBounds_toArray,List.set_cons_zero,List.set_cons_succ,dB,dD]
         rfl
        refine nB (i:=0) (N:=some 52) (v:=?_) (a':=?_) #[true,true,true,true,false,false,false,false] rfl rfl (nC mg.out OA.out au) (fun _ _ _ h=>h) (Or.inl ⟨by rfl,?_⟩) hHeld ?_ ?_
        rotate_left
        ·rintro w' ⟨s0,s1,s2,s3,s4,s5,s6⟩
         go_simp
         with_reducible rfl
        rotate_left
        ·simp only [Act.put,List.setIfInBounds_toArray,List.set_cons_zero,List.set_cons_succ,dB,dD]
         rfl
        refine nB (i:=4) (N:=some 56) (v:=?_) (a':=?_) #[true,true,true,true,true,false,false,false] rfl rfl (nC mg.out OA.out au) (fun _ _ _ h=>h) (Or.inl ⟨by rfl,?_⟩) hHeld ?_ ?_
        rotate_left
        ·rintro w' ⟨s0,s1,s2,s3,s4,s5,s6⟩
         go_simp
         with_reducible rfl
        rotate_left
        ·simp only [Act.put,List.setIfInBounds_toArray,List.set_cons_zero,List.set_cons_succ,dB,dD]
         rfl
        refine IG (i:=5) (N:=none) #[true,true,true,true,true,true,false,false] rfl rfl (wM mg.out au) bR (fun K hK=>?_)
        have aq7:Gg.cell? ⟨eo,0,none⟩=some (.bool false):=(af dX.out 0).trans rfl
        have apm:=aa dX.out 0
        have ahO:=eO.out
        have ahP:=jt.out
        have aq8:Gg.cell? ⟨eo,1,none⟩=some (.slice none 0 0):=(af dX.out 1).trans rfl
        have apn:=aa dX.out 1
        have ahQ:=eO.out
        have ahR:=jt.out
        have aq9:Gg.cell? ⟨eo,2,none⟩=some (.string (⟨#[]⟩:ByteArray)):=(af dX.out 2).trans rfl
        have apo:=aa dX.out 2
        have ahS:=eO.out
        have ahT:=jt.out
        have ara:Gg.cell? ⟨eo,3,none⟩=some (.string (⟨#[]⟩:ByteArray)):=(af dX.out 3).trans rfl
        have apq:=aa dX.out 3
        have ahU:=eO.out
        have ahV:=jt.out
        have arb:Gg.cell? ⟨eo,4,none⟩=some (.bool false):=(af dX.out 4).trans rfl
        have apr:=aa dX.out 4
        have ahW:=eO.out
        have ahX:=jt.out
        refine adW (w1:=?_) (by rfl) rfl ?_ ?_
        rotate_left
        ·go_simp
         rfl
        refine hK.out _ _ ⟨((cell_far (p:=⟨eo,_,none⟩) eO.out _).trans (((cell_far (p:=⟨eo,_,none⟩) eO.out _).trans (((cell_far (p:=⟨eo,_,none⟩) eO.out _).trans (((cell_far (p:=⟨eo,_,none⟩) eO.out _).trans (((cell_far (p:=⟨eo,_,none⟩) eO.out _).trans (hHeld.1)))))))))),((cell_far (p:=⟨eo,_,none⟩) eO.out _).trans (((cell_far (p:=⟨eo,_,none⟩) eO.out _).trans (((cell_far (p:=⟨eo,_,none⟩) eO.out _).trans (((cell_far (p:=⟨eo,_,none⟩) eO.out _).trans (((cell_far (p:=⟨eo,_,none⟩) eO.out _).trans (hHeld.2.1)))))))))),((cell_far (p:=⟨eo,_,none⟩) eO.out _).trans (((cell_far (p:=⟨eo,_,none⟩) eO.out _).trans (((cell_far (p:=⟨eo,_,none⟩) eO.out _).trans (((cell_far (p:=⟨eo,_,none⟩) eO.out _).trans (((cell_far (p:=⟨eo,_,none⟩) eO.out _).trans (hHeld.2.2.1)))))))))),((cell_far (p:=⟨eo,_,none⟩) eO.out _).trans (((cell_far (p:=⟨eo,_,none⟩) eO.out _).trans (((cell_far (p:=⟨eo,_,none⟩) eO.out _).trans (((cell_far (p:=⟨eo,_,none⟩) eO.out _).trans (((cell_far (p:=⟨eo,_,none⟩) eO.out _).trans (hHeld.2.2.2.1)))))))))),((cell_far (p:=⟨eo,_,none⟩) eO.out _).trans (((cell_far (p:=⟨eo,_,none⟩) eO.out _).trans (((cell_far (p:=⟨eo,_,none⟩) eO.out _).trans (((cell_far (p:=⟨eo,_,none⟩) eO.out _).trans (((cell_far (p:=⟨eo,_,none⟩) eO.out _).trans (hHeld.2.2.2.2.1)))))))))),((cell_far (p:=⟨eo,_,none⟩) tL _).trans (((cell_far (p:=⟨eo,_,none⟩) tL _).trans (((cell_far (p:=⟨eo,_,none⟩) tL _).trans (((cell_far (p:=⟨eo,_,none⟩) tL _).trans (((cell_far (p:=⟨eo,_,none⟩) tL _).trans (hHeld.2.2.2.2.2.1)))))))))),((cell_far (p:=⟨eo,_,none⟩) tL _).trans (((cell_far (p:=⟨eo,_,none⟩) tL _).trans (((cell_far (p:=⟨eo,_,none⟩) tL _).trans (((cell_far (p:=⟨eo,_,none⟩) tL _).trans (((cell_far (p:=⟨eo,_,none⟩) tL _).trans (hHeld.2.2.2.2.2.2))))))))))⟩ (fun hHeld=>?_)
        clear hK K
        refine eP (i:=6) (N:=some 3) (v:=?_) (a':=?_) #[true,true,true,true,true,true,true,false] rfl rfl (fP mg.out au) (fun _ _ _ h=>h) (Or.inl ⟨by rfl,?_⟩) ?_ ?_
        rotate_left
        ·intro w'
         go_simp
         with_reducible rfl
        rotate_left
        ·simp only [Act.put,List.setIfInBounds_toArray,List.set_cons_zero,List.set_cons_succ,dB,dD]
         rfl
        refine eP (i:=7) (N:=some 4) (v:=?_) (a':=?_) #[true,true,true,true,true,true,true,true] rfl rfl (fP mg.out au) (fun _ _ _ h=>h) (Or.inl ⟨by rfl,?_⟩) ?_ ?_
        rotate_left
        ·intro w'
         go_simp
         with_reducible rfl
        rotate_left
        ·simp only [Act.put,List.setIfInBounds_toArray,List.set_cons_zero,List.set_cons_succ,dB,dD]
         rfl
        refine GN (zP mg.out au) ?_
        try go_wp2
        refine bodyPost_ret (oW rfl _ _ eo 32 #[.bool t215,.slice p8 t216.length qa,.string t219,.string t220,.bool t221] (0,0) _ rfl (by (with_reducible repeat (first|refine aM ?_ _|refine bh ?_|refine aU ?_ _));refine cv (cs:=#[.bool t215,.slice p8 t216.length qa,.string t219,.string t220,.bool false]) ?_ 4 _ rfl;(with_reducible repeat (first|refine aM ?_ _|refine bh ?_|refine aU ?_ _));refine cv (cs:=#[.bool t215,.slice p8 t216.length qa,.string t219,.string (⟨#[]⟩:ByteArray),.bool false]) ?_ 3 _ rfl;(with_reducible repeat (first|refine aM ?_ _|refine bh ?_|refine aU ?_ _));refine cv (cs:=#[.bool t215,.slice p8 t216.length qa,.string (⟨#[]⟩:ByteArray),.string (⟨#[]⟩:ByteArray),.bool false]) ?_ 2 _ rfl;(with_reducible repeat (first|refine aM ?_ _|refine bh ?_|refine aU ?_ _));refine cv (cs:=#[.bool t215,.slice none 0 0,.string (⟨#[]⟩:ByteArray),.string (⟨#[]⟩:ByteArray),.bool false]) ?_ 1 _ rfl;(with_reducible repeat (first|refine aM ?_ _|refine bh ?_|refine aU ?_ _));refine cv (cs:=#[.bool false,.slice none 0 0,.string (⟨#[]⟩:ByteArray),.string (⟨#[]⟩:ByteArray),.bool false]) ?_ 0 _ rfl;(with_reducible repeat (first|refine aM ?_ _|refine bh ?_|refine aU ?_ _));exact dX.out) Tryz.underlying32 rfl au) rfl ?_
        exact ⟨_,cZ,by (with_reducible repeat (first|apply Kd.gh|apply Kd.gm|apply Kd.iq));exact Kd.gi (Kd.cH (p:=⟨eo,4,none⟩) (Kd.cH (p:=⟨eo,3,none⟩) (Kd.cH (p:=⟨eo,2,none⟩) (Kd.cH (p:=⟨eo,1,none⟩) (Kd.cH (p:=⟨eo,0,none⟩) (Kd.j4 gK.out dX.out bR) (fun _ hk=>hk.2) (.bool t215)) (fun _ hk=>hk.2) (.slice p8 t216.length qa)) (fun _ hk=>hk.2) (.string t219)) (fun _ hk=>hk.2) (.string t220)) (fun _ hk=>hk.2) (.bool t221)) (fun _ hk=>trivial),lS⟩
     ·replace QZ:=Bool.eq_false_iff.mpr QZ
      subst QZ
      have H1:(some (false,([]:List ByteArray),(⟨#[]⟩:ByteArray),(⟨#[]⟩:ByteArray),false,0,3))=some (r1,r2,r3,r4,r5,r6,r7):=by rw [if_neg (show ¬ (false=true) by decide)] at H;exact H
      clear H
      have H:=H1
      clear H1
      simp only [Option.some.injEq,Prod.mk.injEq] at H
      obtain ⟨rfl,rfl,rfl,rfl,rfl,rfl,rfl⟩:=H
      have aps:=eO.out
      have apt:=jt.out
      have apu:=rT.out
      have apv:=oQ.out
      have Yy:wc.cell? ⟨fN,0,none⟩=some (.bool t215):=(af dS.out 0).trans rfl
      have Yz:wc.cell? ⟨fN,1,none⟩=some (.slice p8 t216.length qa):=(af dS.out 1).trans rfl
      have YA:wc.cell? ⟨fN,2,none⟩=some (.string t219):=(af dS.out 2).trans rfl
      have YB:wc.cell? ⟨fN,3,none⟩=some (.string t220):=(af dS.out 3).trans rfl
      have YC:wc.cell? ⟨fN,4,none⟩=some (.bool t221):=(af dS.out 4).trans rfl
      have YD:=aa dS.out 0
      have YE:=aa dS.out 1
      have YF:=aa dS.out 2
      have YG:=aa dS.out 3
      have YH:=aa dS.out 4
      go_wp2_with (first|((with_reducible refine aN (f:=58) rfl ?_);refine cr (some 38) rfl rfl Tryz.func58 au rfl #[.agg #[.string t219,.string t220,.bool t221]] rfl cV ?_;(with_reducible refine (eF.calls WU t219 t220 t221 false _ ?aX A26.out).mono ?_);(case aX=>exact aT.below HG.out lS);rintro e RV ⟨rfl,hb⟩;refine ⟨_,rfl,?_⟩;have bD:=ah.mk (Kd.dL BI hb);have bN:=ah.mk (aJ (g:=eo) (o:= .cells #[.bool false,.slice none 0 0,.string (⟨#[]⟩:ByteArray),.string (⟨#[]⟩:ByteArray),.bool false] 32 (0,0)) rX hb);have cz:=ah.mk (aJ (g:=fN) (o:= .cells #[.bool t215,.slice p8 t216.length qa,.string t219,.string t220,.bool t221] 32 (0,0)) zg hb);have cY:=ah.mk (av.below uw hb);have jv:=ah.mk (ay lS hb);clear gK;clear dX;clear dS;clear gI;clear HB;have gK:=bD;have dX:=bN;have dS:=cz;have gI:=cY;have HB:=jv;clear bD bN cz cY jv;(try clear hb);(try clear hb2);(try clear hk);(try clear hi);have apw:=qy.out;have apx:=lu.out;have ahY:RV.cell? ⟨eo,0,none⟩=some (.bool false):=(af dX.out 0).trans rfl;have ahZ:RV.cell? ⟨eo,1,none⟩=some (.slice none 0 0):=(af dX.out 1).trans rfl;have ah0:RV.cell? ⟨eo,2,none⟩=some (.string (⟨#[]⟩:ByteArray)):=(af dX.out 2).trans rfl;have ah1:RV.cell? ⟨eo,3,none⟩=some (.string (⟨#[]⟩:ByteArray)):=(af dX.out 3).trans rfl;have ah2:RV.cell? ⟨eo,4,none⟩=some (.bool false):=(af dX.out 4).trans rfl;have ah3:=aa dX.out 0;have ah4:=aa dX.out 1;have ah5:=aa dX.out 2;have ah6:=aa dX.out 3;have ah7:=aa dX.out 4))
      refine bodyPost_ret (oW rfl _ _ eo 32 #[.bool false,.slice none 0 0,.string (⟨#[]⟩:ByteArray),.string (⟨#[]⟩:ByteArray),.bool false] (0,0) _ rfl Ib Tryz.underlying32 rfl au) rfl ?_
      exact ⟨_,cZ,BG,lS⟩
end Go.Proofs.YtokpnfljjjjikaaGreatDoor.nX
