import Derived.Test.YtokpnfljjjjikaaGreatDoorQPtx7
import Derived.Test.YtokpnfljjjjikaaGreatDoorEInner
namespace Go.Proofs.YtokpnfljjjjikaaGreatDoor.mY
open Go.RowKit Go.Proofs.YtokpnfljjjjikaaGreatDoor.qP Go.Proofs.aj.bO Go.Proofs.aj.fA Go.Proofs.aj.cK
attribute [local go_sem] ia ig iU iV gf gh ij iq
set_option linter.unusedVariables false
set_option linter.unusedSimpArgs false
def bZ.j0:Nat→Bool→ByteArray→Int→Bool→List ByteArray→ByteArray→ByteArray→Bool→Option (Bool×List ByteArray×ByteArray×ByteArray×Bool×Int×Int)
 | 0,_,_,_,_,_,_,_,_ =>none
 |k + 1,x22,akf,Y6,Y7,JN,Rm,Rn,Ro=>if x22=true then (some (false,([]:List ByteArray),(⟨#[]⟩:ByteArray),(⟨#[]⟩:ByteArray),false,0,150)) else ((eD.f k Rm Rn Ro).bind fun t220=>(if t220=true then (if (JN.length:Int) > 20 then (some (false,([]:List ByteArray),(⟨#[]⟩:ByteArray),(⟨#[]⟩:ByteArray),false,0,3)) else ((bJ.f k JN).bind fun t221=>(if t221=true then (some (false,([]:List ByteArray),(⟨#[]⟩:ByteArray),(⟨#[]⟩:ByteArray),false,0,3)) else (some (Y7,JN,Rm,Rn,Ro,Y6,0))))) else (some (false,([]:List ByteArray),(⟨#[]⟩:ByteArray),(⟨#[]⟩:ByteArray),false,0,3))))
def bZ.f (k:Nat) (a0:ByteArray):Option (Bool×List ByteArray×ByteArray×ByteArray×Bool×Int×Int):=(strings_HasPrefix.f a0 (⟨#[60,62]⟩:ByteArray)).bind fun t201=>(if t201=true then (some (true,([]:List ByteArray),(⟨#[]⟩:ByteArray),(⟨#[]⟩:ByteArray),false,2,0)) else ((bV.f a0 0 60).bind fun Fw=>((cX.f k Fw.2.1 Fw.2.2).bind fun iZ=>(if Fw.1=true then (if iZ.2.2.2.2.2.1=true then ((bV.f iZ.2.2.2.2.2.2.1 iZ.2.2.2.2.2.2.2 62).bind fun Fx=>(bZ.j0 k (!Fx.1) Fx.2.1 Fx.2.2 iZ.1 iZ.2.1 iZ.2.2.1 iZ.2.2.2.1 iZ.2.2.2.2.1)) else (bZ.j0 k true iZ.2.2.2.2.2.2.1 iZ.2.2.2.2.2.2.2 iZ.1 iZ.2.1 iZ.2.2.1 iZ.2.2.2.1 iZ.2.2.2.2.1)) else (bZ.j0 k true iZ.2.2.2.2.2.2.1 iZ.2.2.2.2.2.2.2 iZ.1 iZ.2.1 iZ.2.2.1 iZ.2.2.2.1 iZ.2.2.2.2.1)))))
theorem bZ.dF:∀ k,(∀ y0 y1 y2 y3 y4 y5 y6 y7,bL (bZ.j0 k y0 y1 y2 y3 y4 y5 y6 y7) (bZ.j0 (k + 1) y0 y1 y2 y3 y4 y5 y6 y7))
 | 0=>fun _ _ _ _ _ _ _ _ r h=>by simp [bZ.j0] at h
 |k + 1=>by
  have fV:=bZ.dF k
  ·intro y0 y1 y2 y3 y4 y5 y6 y7
   unfold bZ.j0
   repeat' first
   |(with_reducible first|exact fV _ _ _ _ _ _ _ _|exact cX.mono _ _ _|exact eD.mono _ _ _ _|exact bJ.mono _ _|exact bL.refl _|exact bL.none _|refine bL.ite ?_ ?_|refine bL.bind ?_ (fun _ =>?_))
   |exact fV _ _ _ _ _ _ _ _
   |exact cX.mono _ _ _
   |exact eD.mono _ _ _ _
   |exact bJ.mono _ _
   |exact bL.none _
   |refine bL.ite ?_ ?_
   |refine bL.bind ?_ (fun _ =>?_)
theorem bZ.mono:∀ a0 k,bL (bZ.f k a0) (bZ.f (k + 1) a0):=by
 intro a0 k
 have fV:=bZ.dF k
 unfold bZ.f
 repeat' first
  |(with_reducible first|exact fV _ _ _ _ _ _ _ _|exact cX.mono _ _ _|exact eD.mono _ _ _ _|exact bJ.mono _ _|exact bL.refl _|exact bL.none _|refine bL.ite ?_ ?_|refine bL.bind ?_ (fun _ =>?_))
  |exact fV _ _ _ _ _ _ _ _
  |exact cX.mono _ _ _
  |exact eD.mono _ _ _ _
  |exact bJ.mono _ _
  |exact bL.none _
  |refine bL.ite ?_ ?_
  |refine bL.bind ?_ (fun _ =>?_)
def bZ.T10:Bool×List (List Nat×List Nat):=(true,[([],[]),([],[]),([1],[1]),([2],[2]),([3],[3]),([0,0],[0]),([4,5,0,1,2,3,4,5],[4]),([6,0,1,2,3,4,5,6],[])])
def bZ.B10:List Nat:=[0,0,2,6,14,1,63,127]
theorem bZ.afV:rF .any (opsOf Tryz.f17 10)=bZ.T10:=by kernel_rfl
theorem bZ.adr:rS bZ.T10.2 bZ.B10=true:=by kernel_rfl
set_option maxHeartbeats 8000000 in
set_option maxRecDepth 100000 in
theorem bZ.calls (k:Nat) (a0:ByteArray) (r1:Bool) (r2:List ByteArray) (r3:ByteArray) (r4:ByteArray) (r5:Bool) (r6:Int) (r7:Int) (w:World) (hG:aJ w) (h:bZ.f k a0=some (r1,r2,r3,r4,r5,r6,r7)):
 Calls Tryz.prog 17 #[.string a0] w fun e w'=>∃ v1_:Value,e= .returned (.tuple #[.agg #[.bool r1,v1_,.string r3,.string r4,.bool r5],.int .i64 r6,.int .i64 r7])∧Kd.R Kd.string 9 w' w.heap.size (fun _ =>True) v1_ r2∧Below w.heap.size w w':=by
 have DA:=Tryz.underlying32
 have afW:=Tryz.underlying82
 have wT:=Tryz.underlying30
 have HB:=aa.mk (Below.refl w.heap.size w)
 have HG:=aa.mk hG
 clear hG
 have H:((strings_HasPrefix.f a0 (⟨#[60,62]⟩:ByteArray)).bind fun t201=>(if t201=true then (some (true,([]:List ByteArray),(⟨#[]⟩:ByteArray),(⟨#[]⟩:ByteArray),false,2,0)) else ((bV.f a0 0 60).bind fun Fw=>((cX.f k Fw.2.1 Fw.2.2).bind fun iZ=>(if Fw.1=true then (if iZ.2.2.2.2.2.1=true then ((bV.f iZ.2.2.2.2.2.2.1 iZ.2.2.2.2.2.2.2 62).bind fun Fx=>(bZ.j0 k (!Fx.1) Fx.2.1 Fx.2.2 iZ.1 iZ.2.1 iZ.2.2.1 iZ.2.2.2.1 iZ.2.2.2.2.1)) else (bZ.j0 k true iZ.2.2.2.2.2.2.1 iZ.2.2.2.2.2.2.2 iZ.1 iZ.2.1 iZ.2.2.1 iZ.2.2.2.1 iZ.2.2.2.2.1)) else (bZ.j0 k true iZ.2.2.2.2.2.2.1 iZ.2.2.2.2.2.2.2 iZ.1 iZ.2.1 iZ.2.2.1 iZ.2.2.2.1 iZ.2.2.2.2.1))))))=some (r1,r2,r3,r4,r5,r6,r7):=h
 clear h
 obtain ⟨t201,A2,H⟩:=bd_ H
 by_cases c3:t201=true
 ·subst c3
  rw [if_pos rfl] at H
  simp only [Option.some.injEq,Prod.mk.injEq] at H
  obtain ⟨rfl,rfl,rfl,rfl,rfl,rfl,rfl⟩:=H
  go_enter Tryz.func17,Tryz.ntmps17
  go_wp2_with (first|((with_reducible refine cB (N:=2) rfl ?_);(try (refine cL (by rfl) ?_;dsimp only));refine cj ?hg (N:=2) ?hd (cs:=#[.bool false,.slice none 0 0,.string (⟨#[]⟩:ByteArray),.string (⟨#[]⟩:ByteArray),.bool false]) (t:=32) ?hr ?_;(case hd=>rfl);(case hg=>rfl);(case hr=>first|(go_simp;done)|(go_simp;rfl));intro eu hg w4 cE hb;have dX:=aa.mk (cE);have afX:=aa.mk ((dI:w.heap.size≤eu));have yY:=aa.mk ((dI:w.heap.size≤eu));replace HB:=aa.mk (aA bG hb);clear hb cE hg)|((with_reducible refine aK (f:=37) rfl ?_);refine bU (some 10) rfl rfl Tryz.func37 aq rfl #[.string a0,.string (⟨#[60,62]⟩:ByteArray)] rfl cz ?_;(with_reducible refine (strings_HasPrefix.calls a0 (⟨#[60,62]⟩:ByteArray) true _ A2.out).mono ?_);rintro e w' ⟨rfl,⟨nd,rfl⟩⟩;refine ⟨_,rfl,?_⟩;(try (rw [sN w4];generalize Nq:World.drewN w4 _=w4;have lJ:aa (w4.heap[eu]? =some (.cells #[.bool false,.slice none 0 0,.string (⟨#[]⟩:ByteArray),.string (⟨#[]⟩:ByteArray),.bool false] 32 (0,0))):=⟨QA⟩;have lK:aa (Below w.heap.size w w4):=⟨Qp⟩;clear dX HB Nq;have dX:=lJ;have HB:=lK;clear lJ lK));have Ch:w4.cell? ⟨eu,0,none⟩=some (.bool false):=(ah dX.out 0).trans rfl;have Ci:w4.cell? ⟨eu,1,none⟩=some (.slice none 0 0):=(ah dX.out 1).trans rfl;have Fm:w4.cell? ⟨eu,2,none⟩=some (.string (⟨#[]⟩:ByteArray)):=(ah dX.out 2).trans rfl;have VW:w4.cell? ⟨eu,3,none⟩=some (.string (⟨#[]⟩:ByteArray)):=(ah dX.out 3).trans rfl;have VX:w4.cell? ⟨eu,4,none⟩=some (.bool false):=(ah dX.out 4).trans rfl;have Cj:=af dX.out 0;have Ck:=af dX.out 1;have Fp:=af dX.out 2;have VY:=af dX.out 3;have VZ:=af dX.out 4))
  refine bodyPost_ret (iF rfl _ _ eu 32 #[.bool true,.slice none 0 0,.string (⟨#[]⟩:ByteArray),.string (⟨#[]⟩:ByteArray),.bool false] (0,0) _ rfl (by (with_reducible repeat (first|refine ay ?_ _|refine az ?_|refine av ?_ _));refine bR (cs:=#[.bool true,.slice none 0 0,.string (⟨#[]⟩:ByteArray),.string (⟨#[]⟩:ByteArray),.bool false]) ?_ 4 _ rfl;(with_reducible repeat (first|refine ay ?_ _|refine az ?_|refine av ?_ _));refine bR (cs:=#[.bool true,.slice none 0 0,.string (⟨#[]⟩:ByteArray),.string (⟨#[]⟩:ByteArray),.bool false]) ?_ 3 _ rfl;(with_reducible repeat (first|refine ay ?_ _|refine az ?_|refine av ?_ _));refine bR (cs:=#[.bool true,.slice none 0 0,.string (⟨#[]⟩:ByteArray),.string (⟨#[]⟩:ByteArray),.bool false]) ?_ 2 _ rfl;(with_reducible repeat (first|refine ay ?_ _|refine az ?_|refine av ?_ _));refine bR (cs:=#[.bool true,.slice none 0 0,.string (⟨#[]⟩:ByteArray),.string (⟨#[]⟩:ByteArray),.bool false]) ?_ 1 _ rfl;(with_reducible repeat (first|refine ay ?_ _|refine az ?_|refine av ?_ _));refine bR (cs:=#[.bool false,.slice none 0 0,.string (⟨#[]⟩:ByteArray),.string (⟨#[]⟩:ByteArray),.bool false]) ?_ 0 _ rfl;(with_reducible repeat (first|refine ay ?_ _|refine az ?_|refine av ?_ _));exact dX.out) Tryz.underlying32 rfl aq) rfl ?_
  exact ⟨_,cH,mN,U0⟩
 ·replace c3:=Bool.eq_false_iff.mpr c3
  subst c3
  rw [if_neg (show ¬ (false=true) by decide)] at H
  obtain ⟨⟨t203,t204,t205⟩,A6,H⟩:=bd_ H
  (try dsimp only at H)
  obtain ⟨⟨t206,t207,t210,t211,t212,t213,t214,t215⟩,A7,H⟩:=bd_ H
  (try dsimp only at H)
  have HC8:=aa.mk H
  clear H
  go_enter Tryz.func17,Tryz.ntmps17
  go_upto_region 6 with (first|((with_reducible refine cB (N:=2) rfl ?_);(try (refine cL (by rfl) ?_;dsimp only));refine cj ?hg (N:=2) ?hd (cs:=#[.bool false,.slice none 0 0,.string (⟨#[]⟩:ByteArray),.string (⟨#[]⟩:ByteArray),.bool false]) (t:=32) ?hr ?_;(case hd=>rfl);(case hg=>rfl);(case hr=>first|(go_simp;done)|(go_simp;rfl));intro eu hg w9 cE hb;have dX:=aa.mk (cE);have afX:=aa.mk ((dI:w.heap.size≤eu));have yY:=aa.mk ((dI:w.heap.size≤eu));replace HB:=aa.mk (aA bG hb);clear hb cE hg)|((with_reducible refine aK (f:=37) rfl ?_);refine bU (some 10) rfl rfl Tryz.func37 aq rfl #[.string a0,.string (⟨#[60,62]⟩:ByteArray)] rfl cz ?_;(with_reducible refine (strings_HasPrefix.calls a0 (⟨#[60,62]⟩:ByteArray) false _ A2.out).mono ?_);rintro e w' ⟨rfl,⟨nd,rfl⟩⟩;refine ⟨_,rfl,?_⟩;(try (rw [sN w9];generalize Nq:World.drewN w9 _=w9;have lJ:aa (w9.heap[eu]? =some (.cells #[.bool false,.slice none 0 0,.string (⟨#[]⟩:ByteArray),.string (⟨#[]⟩:ByteArray),.bool false] 32 (0,0))):=⟨QA⟩;have lK:aa (Below w.heap.size w w9):=⟨Qp⟩;clear dX HB Nq;have dX:=lJ;have HB:=lK;clear lJ lK)))|((with_reducible refine cB (N:=14) rfl ?_);(try (refine cL (by rfl) ?_;dsimp only));refine cj ?hg (N:=14) ?hd (cs:=#[.string a0,.int .i64 0]) (t:=82) ?hr ?_;(case hd=>rfl);(case hg=>rfl);(case hr=>first|(go_simp;done)|(go_simp;rfl));intro qc hg um cE hb;have jm:=aa.mk ((⟨cE,IM⟩:aD w um qc a0 0));have arU:=aa.mk ((IM:w.heap.size≤qc));have arV:=aa.mk ((IM:w.heap.size≤qc));replace HB:=aa.mk (aA U0 hb);have qj:=aa.mk ((Qt:eu≠qc));have lU:=aa.mk ((Qu:qc≠eu));replace dX:=aa.mk (aC sy hb);clear hb cE hg)|((with_reducible refine aK (f:=56) rfl ?_);refine bU (some 16) rfl rfl Tryz.func56 aq rfl #[.pointer (some ⟨qc,0,none⟩),.int .u8 60] rfl cz ?_;(with_reducible refine (bV.calls qc a0 0 60 t203 t204 t205 w _ ?aT ?cw A6.out).mono ?_);(case aT=>repeat (first|(with_reducible first|exact jm.out|apply aD.alloc|apply aD.drewN|apply aD.drew|apply aD.gm|apply aD.gi|refine aD.far ?_ lU.out _)|exact jm.out));(case cw=>repeat (first|(with_reducible first|exact HB.out|apply aV|apply aN|apply bf|refine aZ ?_ (aD.ge jm.out)|refine aZ ?_ yY.out)|exact HB.out));rintro e UJ ⟨rfl,hi,hb,hk⟩;refine ⟨_,rfl,?_⟩;replace dX:=aa.mk (bM.blk hk (g':=eu) (o:= .cells #[.bool false,.slice none 0 0,.string (⟨#[]⟩:ByteArray),.string (⟨#[]⟩:ByteArray),.bool false] 32 (0,0)) sy qj.out bw);replace HB:=aa.mk (hb);replace jm:=aa.mk (hi);(try clear hb);(try clear hk);(try clear hi))|((with_reducible refine aK (f:=57) rfl ?_);refine bU (some 19) rfl rfl Tryz.func57 aq rfl #[.pointer (some ⟨qc,0,none⟩)] rfl cz ?_;(with_reducible refine (cX.calls k qc t204 t205 t206 t207 t210 t211 t212 t213 t214 t215 w _ ?aT ?cw ?fO A7.out).mono ?_);(case aT=>repeat (first|(with_reducible first|exact jm.out|apply aD.alloc|apply aD.drewN|apply aD.drew|apply aD.gm|apply aD.gi|refine aD.far ?_ lU.out _)|exact jm.out));(case cw=>repeat (first|(with_reducible first|exact HB.out|apply aV|apply aN|apply bf|refine aZ ?_ (aD.ge jm.out)|refine aZ ?_ yY.out)|exact HB.out));(case fO=>exact HG.out);rintro e Ld ⟨v208,rfl,ho0,hi,hb,hk⟩;refine ⟨_,rfl,?_⟩;replace dX:=aa.mk (bM.blk hk (g':=eu) (o:= .cells #[.bool false,.slice none 0 0,.string (⟨#[]⟩:ByteArray),.string (⟨#[]⟩:ByteArray),.bool false] 32 (0,0)) sy qj.out bw);have Hg:=aa.mk (Kd.kD ho0 (dm PW));replace HB:=aa.mk (hb);replace jm:=aa.mk (hi);(try clear hb);(try clear hk);(try clear hi);(try clear ho0))|((with_reducible refine cB (N:=7) rfl ?_);(try (refine cL (by rfl) ?_;dsimp only));refine cj ?hg (N:=7) ?hd (cs:=#[.bool false,.slice none 0 0,.string (⟨#[]⟩:ByteArray),.string (⟨#[]⟩:ByteArray),.bool false]) (t:=32) ?hr ?_;(case hd=>rfl);(case hg=>rfl);(case hr=>first|(go_simp;done)|(go_simp;rfl));intro gp hg Hq cE hb;replace Hg:=aa.mk (Kd.ck QH hb);have dM:=aa.mk (cE);have arW:=aa.mk ((Qh:w.heap.size≤gp));have abv:=aa.mk ((Qh:w.heap.size≤gp));replace HB:=aa.mk (aA PW hb);have jO:=aa.mk ((Qt:eu≠gp));have eP:=aa.mk ((Qu:gp≠eu));replace dX:=aa.mk (aC sy hb);have oP:=aa.mk ((by rw [hg];exact Nat.ne_of_lt (aD.lt (show aD w _ qc t214 t215 from by repeat (first|(with_reducible first|exact jm.out|apply aD.alloc|apply aD.drewN|apply aD.drew|apply aD.gm|apply aD.gi|refine aD.far ?_ lU.out _)|exact jm.out))):qc≠gp));have r9:=aa.mk ((by rw [hg];exact Nat.ne_of_gt (aD.lt (show aD w _ qc t214 t215 from by repeat (first|(with_reducible first|exact jm.out|apply aD.alloc|apply aD.drewN|apply aD.drew|apply aD.gm|apply aD.gi|refine aD.far ?_ lU.out _)|exact jm.out))):gp≠qc));replace jm:=aa.mk (aD.below (by repeat (first|(with_reducible first|exact jm.out|apply aD.alloc|apply aD.drewN|apply aD.drew|apply aD.gm|apply aD.gi|refine aD.far ?_ lU.out _)|exact jm.out)) hb);clear hb cE hg;have V2:=eP.out;have V3:=jO.out;have arX:=r9.out;have arY:=oP.out;have AV:Hq.cell? ⟨gp,0,none⟩=some (.bool false):=(ah dM.out 0).trans rfl;have AW:Hq.cell? ⟨gp,1,none⟩=some (.slice none 0 0):=(ah dM.out 1).trans rfl;have JO:Hq.cell? ⟨gp,2,none⟩=some (.string (⟨#[]⟩:ByteArray)):=(ah dM.out 2).trans rfl;have JP:Hq.cell? ⟨gp,3,none⟩=some (.string (⟨#[]⟩:ByteArray)):=(ah dM.out 3).trans rfl;have JQ:Hq.cell? ⟨gp,4,none⟩=some (.bool false):=(ah dM.out 4).trans rfl;have AX:=af dM.out 0;have AY:=af dM.out 1;have JR:=af dM.out 2;have JS:=af dM.out 3;have JT:=af dM.out 4;obtain ⟨ue,uf,apd⟩:=Kd.gQ Hg.out;subst apd))
  (try simp only [Act.put,List.setIfInBounds_toArray,List.set_cons_zero,List.set_cons_succ])
  go_cut [22] (fun v22 wc=>∃ (kq:Nat) (Rp:Bool) (ym:ByteArray) (yq:Int),v22= .bool Rp∧aa (bZ.j0 kq Rp ym yq t206 t207 t210 t211 t212=some (r1,r2,r3,r4,r5,r6,r7))∧aa (kq≤k)∧aa (Kd.R Kd.string 9 wc w.heap.size (fun _ =>True) (.slice ue t207.length uf) t207)∧aa (wc.heap[eu]? =some (.cells #[.bool false,(.slice none 0 0),.string (⟨#[]⟩:ByteArray),.string (⟨#[]⟩:ByteArray),.bool false] 32 (0,0)))∧aa (wc.heap[gp]? =some (.cells #[.bool t206,(.slice ue t207.length uf),.string t210,.string t211,.bool t212] 32 (0,0)))∧aa (aD w wc qc ym yq)∧aa (Below w.heap.size w wc))
  case first=>
   have H:=HC8.out
   clear HC8
   by_cases c18:t203=true
   ·subst c18
    rw [if_pos rfl] at H
    by_cases c19:t213=true
    ·subst c19
     rw [if_pos rfl] at H
     obtain ⟨⟨t217,t218,t219⟩,Yw,H⟩:=bd_ H
     (try dsimp only at H)
     have H':=aa.mk H
     clear H
     go_wp2_with (first|(go_at_call 56;(with_reducible refine (bV.calls qc t214 t215 62 t217 t218 t219 w _ ?aT ?cw Yw.out).mono ?_);(case aT=>repeat (first|(with_reducible first|exact jm.out|apply aD.alloc|apply aD.drewN|apply aD.drew|apply aD.gm|apply aD.gi|refine aD.far ?_ lU.out _|refine aD.far ?_ oP.out _)|exact jm.out));(case cw=>repeat (first|(with_reducible first|exact HB.out|apply aV|apply aN|apply bf|refine aZ ?_ (aD.ge jm.out)|refine aZ ?_ yY.out|refine aZ ?_ abv.out)|exact HB.out));rintro e w21 ⟨rfl,hi,hb,hk⟩;replace dX:=aa.mk (bM.blk hk (g':=eu) (o:= .cells #[.bool false,.slice none 0 0,.string (⟨#[]⟩:ByteArray),.string (⟨#[]⟩:ByteArray),.bool false] 32 (0,0)) Nu qj.out bw);replace Hg:=aa.mk (Kd.fS (Kd.wG (aD.apart (show aD w _ qc t214 t215 from by repeat (first|(with_reducible first|exact jm.out|apply aD.alloc|apply aD.drewN|apply aD.drew|apply aD.gm|apply aD.gi|refine aD.far ?_ lU.out _|refine aD.far ?_ oP.out _)|exact jm.out)) (by (with_reducible repeat (first|apply Kd.dQ|apply Kd.dR|apply Kd.dV));exact (Kd.fS (Kd.eB (p:=⟨gp,4,none⟩) (Kd.eB (p:=⟨gp,3,none⟩) (Kd.eB (p:=⟨gp,2,none⟩) (Kd.eB (p:=⟨gp,1,none⟩) (Kd.eB (p:=⟨gp,0,none⟩) (Kd.jW Hg.out dM.out bh) (fun _ hk=>hk.2) (.bool t206)) (fun _ hk=>hk.2) (.slice ue t207.length uf)) (fun _ hk=>hk.2) (.string t210)) (fun _ hk=>hk.2) (.string t211)) (fun _ hk=>hk.2) (.bool t212)) (fun _ h_ =>h_.1))) bh) hk (fun _ h=>h.2)) (fun _ h=>h.1));replace dM:=aa.mk (bM.blk hk (g':=gp) (o:= .cells #[.bool t206,.slice ue t207.length uf,.string t210,.string t211,.bool t212] 32 (0,0)) Nt r9.out bw);replace HB:=aa.mk (hb);replace jm:=aa.mk (hi);(try clear hb);(try clear hk);(try clear hi)))
     go_meet
     case rel=>exact ⟨_,(!t217),(t218),(t219),b9,H',⟨iT⟩,⟨QH⟩,⟨sy⟩,⟨uO⟩,⟨uK⟩,⟨mz⟩⟩
    ·replace c19:=Bool.eq_false_iff.mpr c19
     subst c19
     rw [if_neg (show ¬ (false=true) by decide)] at H
     have H':=aa.mk H
     clear H
     go_wp2
     go_meet
     case rel=>exact ⟨_,(true),(t214),(t215),b9,H',⟨iT⟩,⟨PX⟩,⟨Nu⟩,⟨Nt⟩,⟨uK⟩,⟨mz⟩⟩
   ·replace c18:=Bool.eq_false_iff.mpr c18
    subst c18
    rw [if_neg (show ¬ (false=true) by decide)] at H
    have H':=aa.mk H
    clear H
    go_wp2
    go_meet
    case rel=>exact ⟨_,(true),(t214),(t215),b9,H',⟨iT⟩,⟨PX⟩,⟨Nu⟩,⟨Nt⟩,⟨uK⟩,⟨mz⟩⟩
  case rest=>
   clear HC8
   obtain ⟨kq,Rp,ym,yq,rfl,HA,HJ7,jP,dX,dM,jm,HB⟩:=hcut
   cases kq with
   |zero=>exact absurd HA.out (by simp [bZ.j0])
   |succ kj7=>
    have H:=HA.out
    clear HA
    simp only [bZ.j0] at H
    by_cases GU:Rp=true
    ·subst GU
     rw [if_pos rfl] at H
     simp only [Option.some.injEq,Prod.mk.injEq] at H
     obtain ⟨rfl,rfl,rfl,rfl,rfl,rfl,rfl⟩:=H
     have afY:=jO.out
     have afZ:=eP.out
     have abL:=qj.out
     have abM:=lU.out
     have yc:wc.cell? ⟨eu,0,none⟩=some (.bool false):=(ah dX.out 0).trans rfl
     have yf:wc.cell? ⟨eu,1,none⟩=some (.slice none 0 0):=(ah dX.out 1).trans rfl
     have yg:wc.cell? ⟨eu,2,none⟩=some (.string (⟨#[]⟩:ByteArray)):=(ah dX.out 2).trans rfl
     have Rq:wc.cell? ⟨eu,3,none⟩=some (.string (⟨#[]⟩:ByteArray)):=(ah dX.out 3).trans rfl
     have Rs:wc.cell? ⟨eu,4,none⟩=some (.bool false):=(ah dX.out 4).trans rfl
     have yh:=af dX.out 0
     have yj:=af dX.out 1
     have yl:=af dX.out 2
     have Rt:=af dX.out 3
     have Ru:=af dX.out 4
     go_wp2
     refine bodyPost_ret (iF rfl _ _ eu 32 #[.bool false,.slice none 0 0,.string (⟨#[]⟩:ByteArray),.string (⟨#[]⟩:ByteArray),.bool false] (0,0) _ rfl II Tryz.underlying32 rfl aq) rfl ?_
     exact ⟨_,cH,mN,mz⟩
    ·replace GU:=Bool.eq_false_iff.mpr GU
     subst GU
     rw [if_neg (show ¬ (false=true) by decide)] at H
     obtain ⟨t220,A26,H⟩:=bd_ H
     by_cases JU:t220=true
     ·subst JU
      rw [if_pos rfl] at H
      by_cases c28:(t207.length:Int) > 20
      ·rw [if_pos c28] at H
       have CW:decide (20 < (t207.length:Int))=true:=decide_eq_true c28
       have V4:decide (20 < t207.length)=true:=decide_eq_true ak
       clear c28
       simp only [Option.some.injEq,Prod.mk.injEq] at H
       obtain ⟨rfl,rfl,rfl,rfl,rfl,rfl,rfl⟩:=H
       have arZ:=eP.out
       have ar0:=jO.out
       have afO:=r9.out
       have afP:=oP.out
       have Q6:wc.cell? ⟨gp,0,none⟩=some (.bool t206):=(ah dM.out 0).trans rfl
       have Q7:wc.cell? ⟨gp,1,none⟩=some (.slice ue t207.length uf):=(ah dM.out 1).trans rfl
       have YX:wc.cell? ⟨gp,2,none⟩=some (.string t210):=(ah dM.out 2).trans rfl
       have akh:wc.cell? ⟨gp,3,none⟩=some (.string t211):=(ah dM.out 3).trans rfl
       have aki:wc.cell? ⟨gp,4,none⟩=some (.bool t212):=(ah dM.out 4).trans rfl
       have Q8:=af dM.out 0
       have Q9:=af dM.out 1
       have YY:=af dM.out 2
       have akj:=af dM.out 3
       have akk:=af dM.out 4
       go_wp2_with (first|((with_reducible refine aK (f:=58) rfl ?_);refine bU (some 38) rfl rfl Tryz.func58 aq rfl #[.agg #[.string t210,.string t211,.bool t212]] rfl cz ?_;(with_reducible refine (eD.calls kj7 t210 t211 t212 true _ ?aT A26.out).mono ?_);(case aT=>exact aJ.below HG.out mz);rintro e JH ⟨rfl,hb⟩;refine ⟨_,rfl,?_⟩;replace jP:=aa.mk (Kd.ck xR hb);replace dX:=aa.mk (aC sy hb);replace dM:=aa.mk (aC uO hb);replace HB:=aa.mk (aA mz hb);replace jm:=aa.mk (aD.below uK hb);(try clear hb);have JI:JH.cell? ⟨gp,0,none⟩=some (.bool t206):=(ah dM.out 0).trans rfl;have JJ:JH.cell? ⟨gp,1,none⟩=some (.slice ue t207.length uf):=(ah dM.out 1).trans rfl;have Rv:JH.cell? ⟨gp,2,none⟩=some (.string t210):=(ah dM.out 2).trans rfl;have Y8:JH.cell? ⟨gp,3,none⟩=some (.string t211):=(ah dM.out 3).trans rfl;have Y9:JH.cell? ⟨gp,4,none⟩=some (.bool t212):=(ah dM.out 4).trans rfl;have JK:=af dM.out 0;have JL:=af dM.out 1;have Rw:=af dM.out 2;have Za:=af dM.out 3;have Zb:=af dM.out 4;have ar1:=qj.out;have ar2:=lU.out;have Zc:JH.cell? ⟨eu,0,none⟩=some (.bool false):=(ah dX.out 0).trans rfl;have Zd:JH.cell? ⟨eu,1,none⟩=some (.slice none 0 0):=(ah dX.out 1).trans rfl;have Ze:JH.cell? ⟨eu,2,none⟩=some (.string (⟨#[]⟩:ByteArray)):=(ah dX.out 2).trans rfl;have akl:JH.cell? ⟨eu,3,none⟩=some (.string (⟨#[]⟩:ByteArray)):=(ah dX.out 3).trans rfl;have akm:JH.cell? ⟨eu,4,none⟩=some (.bool false):=(ah dX.out 4).trans rfl;have Zf:=af dX.out 0;have Zg:=af dX.out 1;have Zh:=af dX.out 2;have akn:=af dX.out 3;have ako:=af dX.out 4))
       refine bodyPost_ret (iF rfl _ _ eu 32 #[.bool false,.slice none 0 0,.string (⟨#[]⟩:ByteArray),.string (⟨#[]⟩:ByteArray),.bool false] (0,0) _ rfl II Tryz.underlying32 rfl aq) rfl ?_
       exact ⟨_,cH,mN,mz⟩
      ·rw [if_neg c28] at H
       have CW:decide (20 < (t207.length:Int))=false:=decide_eq_false c28
       have V4:decide (20 < t207.length)=false:=decide_eq_false ak
       clear c28
       obtain ⟨t221,A36,H⟩:=bd_ H
       by_cases c37:t221=true
       ·subst c37
        rw [if_pos rfl] at H
        simp only [Option.some.injEq,Prod.mk.injEq] at H
        obtain ⟨rfl,rfl,rfl,rfl,rfl,rfl,rfl⟩:=H
        have ar4:=eP.out
        have ar5:=jO.out
        have ar6:=r9.out
        have ar7:=oP.out
        have Zi:wc.cell? ⟨gp,0,none⟩=some (.bool t206):=(ah dM.out 0).trans rfl
        have Zj:wc.cell? ⟨gp,1,none⟩=some (.slice ue t207.length uf):=(ah dM.out 1).trans rfl
        have Zk:wc.cell? ⟨gp,2,none⟩=some (.string t210):=(ah dM.out 2).trans rfl
        have akp:wc.cell? ⟨gp,3,none⟩=some (.string t211):=(ah dM.out 3).trans rfl
        have akq:wc.cell? ⟨gp,4,none⟩=some (.bool t212):=(ah dM.out 4).trans rfl
        have Zl:=af dM.out 0
        have Zm:=af dM.out 1
        have Zn:=af dM.out 2
        have akr:=af dM.out 3
        have aks:=af dM.out 4
        go_wp2_with (first|((with_reducible refine aK (f:=58) rfl ?_);refine bU (some 38) rfl rfl Tryz.func58 aq rfl #[.agg #[.string t210,.string t211,.bool t212]] rfl cz ?_;(with_reducible refine (eD.calls kj7 t210 t211 t212 true _ ?aT A26.out).mono ?_);(case aT=>exact aJ.below HG.out mz);rintro e Zo ⟨rfl,hb⟩;refine ⟨_,rfl,?_⟩;replace jP:=aa.mk (Kd.ck xR hb);replace dX:=aa.mk (aC sy hb);replace dM:=aa.mk (aC uO hb);replace HB:=aa.mk (aA mz hb);replace jm:=aa.mk (aD.below uK hb);(try clear hb);have Zp:Zo.cell? ⟨gp,0,none⟩=some (.bool t206):=(ah dM.out 0).trans rfl;have Zq:Zo.cell? ⟨gp,1,none⟩=some (.slice ue t207.length uf):=(ah dM.out 1).trans rfl;have Zr:Zo.cell? ⟨gp,2,none⟩=some (.string t210):=(ah dM.out 2).trans rfl;have akt:Zo.cell? ⟨gp,3,none⟩=some (.string t211):=(ah dM.out 3).trans rfl;have aku:Zo.cell? ⟨gp,4,none⟩=some (.bool t212):=(ah dM.out 4).trans rfl;have Zt:=af dM.out 0;have Zu:=af dM.out 1;have Zv:=af dM.out 2;have akv:=af dM.out 3;have akw:=af dM.out 4)|(go_at_call 59;(with_reducible refine (bJ.calls kj7 _ _ t207 true _ ?aT ?cw ?fO A36.out).mono ?_);(case aT=>repeat (first|exact (Kd.cP jP.out).2.2|(with_reducible refine Kd.jg ?_ _)|(with_reducible refine Kd.jh ?_ _)|(with_reducible refine Kd.kL ?_)));(case cw=>exact (Kd.cP jP.out).2.1);(case fO=>exact aJ.below HG.out mz);rintro e V5 ⟨rfl,hb⟩;replace jP:=aa.mk (Kd.ck xR hb);replace dX:=aa.mk (aC sy hb);replace dM:=aa.mk (aC uO hb);replace HB:=aa.mk (aA mz hb);replace jm:=aa.mk (aD.below uK hb);(try clear hb);have af0:=qj.out;have af1:=lU.out;have Rx:V5.cell? ⟨eu,0,none⟩=some (.bool false):=(ah dX.out 0).trans rfl;have Ry:V5.cell? ⟨eu,1,none⟩=some (.slice none 0 0):=(ah dX.out 1).trans rfl;have Rz:V5.cell? ⟨eu,2,none⟩=some (.string (⟨#[]⟩:ByteArray)):=(ah dX.out 2).trans rfl;have Zw:V5.cell? ⟨eu,3,none⟩=some (.string (⟨#[]⟩:ByteArray)):=(ah dX.out 3).trans rfl;have Zx:V5.cell? ⟨eu,4,none⟩=some (.bool false):=(ah dX.out 4).trans rfl;have RA:=af dX.out 0;have RB:=af dX.out 1;have RD:=af dX.out 2;have Zy:=af dX.out 3;have Zz:=af dX.out 4))
        refine bodyPost_ret (iF rfl _ _ eu 32 #[.bool false,.slice none 0 0,.string (⟨#[]⟩:ByteArray),.string (⟨#[]⟩:ByteArray),.bool false] (0,0) _ rfl II Tryz.underlying32 rfl aq) rfl ?_
        exact ⟨_,cH,mN,mz⟩
       ·replace c37:=Bool.eq_false_iff.mpr c37
        subst c37
        rw [if_neg (show ¬ (false=true) by decide)] at H
        simp only [Option.some.injEq,Prod.mk.injEq] at H
        obtain ⟨rfl,rfl,rfl,rfl,rfl,rfl,rfl⟩:=H
        have ar8:=eP.out
        have ar9:=jO.out
        have asa:=r9.out
        have asb:=oP.out
        have akx:wc.cell? ⟨gp,0,none⟩=some (.bool t206):=(ah dM.out 0).trans rfl
        have aky:wc.cell? ⟨gp,1,none⟩=some (.slice ue t207.length uf):=(ah dM.out 1).trans rfl
        have akz:wc.cell? ⟨gp,2,none⟩=some (.string t210):=(ah dM.out 2).trans rfl
        have akA:wc.cell? ⟨gp,3,none⟩=some (.string t211):=(ah dM.out 3).trans rfl
        have akB:wc.cell? ⟨gp,4,none⟩=some (.bool t212):=(ah dM.out 4).trans rfl
        have akC:=af dM.out 0
        have akD:=af dM.out 1
        have akE:=af dM.out 2
        have akF:=af dM.out 3
        have akG:=af dM.out 4
        try go_wp2_with (first|((with_reducible refine aK (f:=58) rfl ?_);refine bU (some 38) rfl rfl Tryz.func58 aq rfl #[.agg #[.string t210,.string t211,.bool t212]] rfl cz ?_;(with_reducible refine (eD.calls kj7 t210 t211 t212 true _ ?aT A26.out).mono ?_);(case aT=>exact aJ.below HG.out mz);rintro e w49 ⟨rfl,hb⟩;refine ⟨_,rfl,?_⟩;replace jP:=aa.mk (Kd.ck xR hb);replace dX:=aa.mk (aC sy hb);replace dM:=aa.mk (aC uO hb);replace HB:=aa.mk (aA mz hb);replace jm:=aa.mk (aD.below uK hb);(try clear hb);have akH:w49.cell? ⟨gp,0,none⟩=some (.bool t206):=(ah dM.out 0).trans rfl;have akI:w49.cell? ⟨gp,1,none⟩=some (.slice ue t207.length uf):=(ah dM.out 1).trans rfl;have akJ:w49.cell? ⟨gp,2,none⟩=some (.string t210):=(ah dM.out 2).trans rfl;have akK:w49.cell? ⟨gp,3,none⟩=some (.string t211):=(ah dM.out 3).trans rfl;have akL:w49.cell? ⟨gp,4,none⟩=some (.bool t212):=(ah dM.out 4).trans rfl;have akM:=af dM.out 0;have akN:=af dM.out 1;have akO:=af dM.out 2;have akP:=af dM.out 3;have akQ:=af dM.out 4)|(go_at_call 59;(with_reducible refine (bJ.calls kj7 _ _ t207 false _ ?aT ?cw ?fO A36.out).mono ?_);(case aT=>repeat (first|exact (Kd.cP jP.out).2.2|(with_reducible refine Kd.jg ?_ _)|(with_reducible refine Kd.jh ?_ _)|(with_reducible refine Kd.kL ?_)));(case cw=>exact (Kd.cP jP.out).2.1);(case fO=>exact aJ.below HG.out mz);rintro e w51 ⟨rfl,hb⟩;replace jP:=aa.mk (Kd.ck xR hb);replace dX:=aa.mk (aC sy hb);replace dM:=aa.mk (aC uO hb);replace HB:=aa.mk (aA mz hb);replace jm:=aa.mk (aD.below uK hb);(try clear hb)))
        have lJ:=aa.mk (Kd.dV jP.out)
        have lK:=aa.mk (az dX.out)
        have qb:=aa.mk (az dM.out)
        have sS:=aa.mk (aD.drew jm.out)
        have sU:=aa.mk (bf HB.out)
        clear jP
        clear dX
        clear dM
        clear jm
        clear HB
        have jP:=lJ
        have dX:=lK
        have dM:=qb
        have jm:=sS
        have HB:=sU
        clear lJ lK qb sS sU
        refine rE (n:=8) (S:=fun w'=>w'.cell? ⟨gp,0,none⟩=some (.bool t206)∧w'.cell? ⟨gp,1,none⟩=some (.slice ue t207.length uf)∧w'.cell? ⟨gp,2,none⟩=some (.string t210)∧w'.cell? ⟨gp,3,none⟩=some (.string t211)∧w'.cell? ⟨gp,4,none⟩=some (.bool t212)∧w'.cell? ⟨qc,0,none⟩=some (.string ym)∧w'.cell? ⟨qc,1,none⟩=some (.int .i64 yq)) (ds:=[]) #[false,false,false,false,false,false,false,false] aq (by rfl) (by rfl) ⟨(ah dM.out 0).trans rfl,(ah dM.out 1).trans rfl,(ah dM.out 2).trans rfl,(ah dM.out 3).trans rfl,(ah dM.out 4).trans rfl,dU jm.out.1,dP jm.out.1⟩ (fun hHeld=>?_);refine nj bZ.afV bZ.adr (fun iE zh=>?_)
        generalize w51.drew=w52 at jP dX dM jm HB hHeld ⊢
        refine cO (i:=1) (N:=some 53) #[false,true,false,false,false,false,false,false] rfl rfl (cW iE.out aq) (fun _ _ _ h=>h) (Or.inl ⟨by rfl,dK⟩) dL ?_
        refine cO (i:=2) (N:=some 54) #[false,true,true,false,false,false,false,false] rfl rfl (cW iE.out aq) (fun _ _ _ h=>h) (Or.inl ⟨by rfl,dK⟩) dL ?_
        refine cO (i:=3) (N:=some 55) #[false,true,true,true,false,false,false,false] rfl rfl (cW iE.out aq) (fun _ _ _ h=>h) (Or.inl ⟨by rfl,dK⟩) dL ?_
        refine ke (i:=0) (N:=some 52) #[true,true,true,true,false,false,false,false] rfl rfl (iO iE.out zh.out aq) (fun _ _ _ h=>h) (Or.inl ⟨by rfl,QI⟩) hHeld dL ?_
        refine ke (i:=4) (N:=some 56) #[true,true,true,true,true,false,false,false] rfl rfl (iO iE.out zh.out aq) (fun _ _ _ h=>h) (Or.inl ⟨by rfl,QI⟩) hHeld dL ?_
        refine zx (i:=5) (N:=none) #[true,true,true,true,true,true,false,false] rfl rfl (nA iE.out aq) bh (fun K hK=>?_)
        have avn:w52.cell? ⟨eu,0,none⟩=some (.bool false):=(ah dX.out 0).trans rfl
        have asc:=af dX.out 0
        have akR:=eP.out
        have akS:=jO.out
        have avo:w52.cell? ⟨eu,1,none⟩=some (.slice none 0 0):=(ah dX.out 1).trans rfl
        have ase:=af dX.out 1
        have akT:=eP.out
        have akU:=jO.out
        have avp:w52.cell? ⟨eu,2,none⟩=some (.string (⟨#[]⟩:ByteArray)):=(ah dX.out 2).trans rfl
        have asf:=af dX.out 2
        have akV:=eP.out
        have akW:=jO.out
        have ape:w52.cell? ⟨eu,3,none⟩=some (.string (⟨#[]⟩:ByteArray)):=(ah dX.out 3).trans rfl
        have af2:=af dX.out 3
        have akX:=eP.out
        have akY:=jO.out
        have avq:w52.cell? ⟨eu,4,none⟩=some (.bool false):=(ah dX.out 4).trans rfl
        have asg:=af dX.out 4
        have akZ:=eP.out
        have ak0:=jO.out
        refine Vj (w1:=?_) (by rfl) rfl ?_ ?_
        rotate_left
        ·go_simp
         rfl
        refine hK.out _ _ ⟨((cell_far (p:=⟨eu,_,none⟩) eP.out _).trans (((cell_far (p:=⟨eu,_,none⟩) eP.out _).trans (((cell_far (p:=⟨eu,_,none⟩) eP.out _).trans (((cell_far (p:=⟨eu,_,none⟩) eP.out _).trans (((cell_far (p:=⟨eu,_,none⟩) eP.out _).trans (hHeld.1)))))))))),((cell_far (p:=⟨eu,_,none⟩) eP.out _).trans (((cell_far (p:=⟨eu,_,none⟩) eP.out _).trans (((cell_far (p:=⟨eu,_,none⟩) eP.out _).trans (((cell_far (p:=⟨eu,_,none⟩) eP.out _).trans (((cell_far (p:=⟨eu,_,none⟩) eP.out _).trans (hHeld.2.1)))))))))),((cell_far (p:=⟨eu,_,none⟩) eP.out _).trans (((cell_far (p:=⟨eu,_,none⟩) eP.out _).trans (((cell_far (p:=⟨eu,_,none⟩) eP.out _).trans (((cell_far (p:=⟨eu,_,none⟩) eP.out _).trans (((cell_far (p:=⟨eu,_,none⟩) eP.out _).trans (hHeld.2.2.1)))))))))),((cell_far (p:=⟨eu,_,none⟩) eP.out _).trans (((cell_far (p:=⟨eu,_,none⟩) eP.out _).trans (((cell_far (p:=⟨eu,_,none⟩) eP.out _).trans (((cell_far (p:=⟨eu,_,none⟩) eP.out _).trans (((cell_far (p:=⟨eu,_,none⟩) eP.out _).trans (hHeld.2.2.2.1)))))))))),((cell_far (p:=⟨eu,_,none⟩) eP.out _).trans (((cell_far (p:=⟨eu,_,none⟩) eP.out _).trans (((cell_far (p:=⟨eu,_,none⟩) eP.out _).trans (((cell_far (p:=⟨eu,_,none⟩) eP.out _).trans (((cell_far (p:=⟨eu,_,none⟩) eP.out _).trans (hHeld.2.2.2.2.1)))))))))),((cell_far (p:=⟨eu,_,none⟩) ud _).trans (((cell_far (p:=⟨eu,_,none⟩) ud _).trans (((cell_far (p:=⟨eu,_,none⟩) ud _).trans (((cell_far (p:=⟨eu,_,none⟩) ud _).trans (((cell_far (p:=⟨eu,_,none⟩) ud _).trans (hHeld.2.2.2.2.2.1)))))))))),((cell_far (p:=⟨eu,_,none⟩) ud _).trans (((cell_far (p:=⟨eu,_,none⟩) ud _).trans (((cell_far (p:=⟨eu,_,none⟩) ud _).trans (((cell_far (p:=⟨eu,_,none⟩) ud _).trans (((cell_far (p:=⟨eu,_,none⟩) ud _).trans (hHeld.2.2.2.2.2.2))))))))))⟩ (fun hHeld=>?_)
        clear hK K
        refine cO (i:=6) (N:=some 3) #[true,true,true,true,true,true,true,false] rfl rfl (cW iE.out aq) (fun _ _ _ h=>h) (Or.inl ⟨by rfl,dK⟩) dL ?_
        refine cO (i:=7) (N:=some 4) #[true,true,true,true,true,true,true,true] rfl rfl (cW iE.out aq) (fun _ _ _ h=>h) (Or.inl ⟨by rfl,dK⟩) dL ?_
        refine vU (qC iE.out aq) ?_
        try go_wp2
        refine bodyPost_ret (iF rfl _ _ eu 32 #[.bool t206,.slice ue t207.length uf,.string t210,.string t211,.bool t212] (0,0) _ rfl (by (with_reducible repeat (first|refine ay ?_ _|refine az ?_|refine av ?_ _));refine bR (cs:=#[.bool t206,.slice ue t207.length uf,.string t210,.string t211,.bool false]) ?_ 4 _ rfl;(with_reducible repeat (first|refine ay ?_ _|refine az ?_|refine av ?_ _));refine bR (cs:=#[.bool t206,.slice ue t207.length uf,.string t210,.string (⟨#[]⟩:ByteArray),.bool false]) ?_ 3 _ rfl;(with_reducible repeat (first|refine ay ?_ _|refine az ?_|refine av ?_ _));refine bR (cs:=#[.bool t206,.slice ue t207.length uf,.string (⟨#[]⟩:ByteArray),.string (⟨#[]⟩:ByteArray),.bool false]) ?_ 2 _ rfl;(with_reducible repeat (first|refine ay ?_ _|refine az ?_|refine av ?_ _));refine bR (cs:=#[.bool t206,.slice none 0 0,.string (⟨#[]⟩:ByteArray),.string (⟨#[]⟩:ByteArray),.bool false]) ?_ 1 _ rfl;(with_reducible repeat (first|refine ay ?_ _|refine az ?_|refine av ?_ _));refine bR (cs:=#[.bool false,.slice none 0 0,.string (⟨#[]⟩:ByteArray),.string (⟨#[]⟩:ByteArray),.bool false]) ?_ 0 _ rfl;(with_reducible repeat (first|refine ay ?_ _|refine az ?_|refine av ?_ _));exact dX.out) Tryz.underlying32 rfl aq) rfl ?_
        exact ⟨_,cH,by (with_reducible repeat (first|apply Kd.dQ|apply Kd.dR|apply Kd.dV));exact Kd.fS (Kd.eB (p:=⟨eu,4,none⟩) (Kd.eB (p:=⟨eu,3,none⟩) (Kd.eB (p:=⟨eu,2,none⟩) (Kd.eB (p:=⟨eu,1,none⟩) (Kd.eB (p:=⟨eu,0,none⟩) (Kd.jW jP.out dX.out bh) (fun _ hk=>hk.2) (.bool t206)) (fun _ hk=>hk.2) (.slice ue t207.length uf)) (fun _ hk=>hk.2) (.string t210)) (fun _ hk=>hk.2) (.string t211)) (fun _ hk=>hk.2) (.bool t212)) (fun _ hk=>trivial),mz⟩
     ·replace JU:=Bool.eq_false_iff.mpr JU
      subst JU
      rw [if_neg (show ¬ (false=true) by decide)] at H
      simp only [Option.some.injEq,Prod.mk.injEq] at H
      obtain ⟨rfl,rfl,rfl,rfl,rfl,rfl,rfl⟩:=H
      have ash:=eP.out
      have asi:=jO.out
      have asj:=r9.out
      have asl:=oP.out
      have ak1:wc.cell? ⟨gp,0,none⟩=some (.bool t206):=(ah dM.out 0).trans rfl
      have ak2:wc.cell? ⟨gp,1,none⟩=some (.slice ue t207.length uf):=(ah dM.out 1).trans rfl
      have ak3:wc.cell? ⟨gp,2,none⟩=some (.string t210):=(ah dM.out 2).trans rfl
      have ak4:wc.cell? ⟨gp,3,none⟩=some (.string t211):=(ah dM.out 3).trans rfl
      have ak5:wc.cell? ⟨gp,4,none⟩=some (.bool t212):=(ah dM.out 4).trans rfl
      have ak6:=af dM.out 0
      have ak7:=af dM.out 1
      have ak8:=af dM.out 2
      have ak9:=af dM.out 3
      have ala:=af dM.out 4
      go_wp2_with (first|((with_reducible refine aK (f:=58) rfl ?_);refine bU (some 38) rfl rfl Tryz.func58 aq rfl #[.agg #[.string t210,.string t211,.bool t212]] rfl cz ?_;(with_reducible refine (eD.calls kj7 t210 t211 t212 false _ ?aT A26.out).mono ?_);(case aT=>exact aJ.below HG.out mz);rintro e w61 ⟨rfl,hb⟩;refine ⟨_,rfl,?_⟩;replace jP:=aa.mk (Kd.ck xR hb);replace dX:=aa.mk (aC sy hb);replace dM:=aa.mk (aC uO hb);replace HB:=aa.mk (aA mz hb);replace jm:=aa.mk (aD.below uK hb);(try clear hb);have af3:=qj.out;have af4:=lU.out;have alb:w61.cell? ⟨eu,0,none⟩=some (.bool false):=(ah dX.out 0).trans rfl;have alc:w61.cell? ⟨eu,1,none⟩=some (.slice none 0 0):=(ah dX.out 1).trans rfl;have ald:w61.cell? ⟨eu,2,none⟩=some (.string (⟨#[]⟩:ByteArray)):=(ah dX.out 2).trans rfl;have ale:w61.cell? ⟨eu,3,none⟩=some (.string (⟨#[]⟩:ByteArray)):=(ah dX.out 3).trans rfl;have alf:w61.cell? ⟨eu,4,none⟩=some (.bool false):=(ah dX.out 4).trans rfl;have alg:=af dX.out 0;have alh:=af dX.out 1;have ali:=af dX.out 2;have alj:=af dX.out 3;have alk:=af dX.out 4))
      refine bodyPost_ret (iF rfl _ _ eu 32 #[.bool false,.slice none 0 0,.string (⟨#[]⟩:ByteArray),.string (⟨#[]⟩:ByteArray),.bool false] (0,0) _ rfl II Tryz.underlying32 rfl aq) rfl ?_
      exact ⟨_,cH,mN,mz⟩
end Go.Proofs.YtokpnfljjjjikaaGreatDoor.mY
