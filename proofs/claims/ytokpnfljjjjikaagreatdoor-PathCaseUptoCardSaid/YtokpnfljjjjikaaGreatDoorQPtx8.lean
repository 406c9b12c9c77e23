import Derived.Test.YtokpnfljjjjikaaGreatDoorQPtx7
import Derived.Test.YtokpnfljjjjikaaGreatDoorEInner
namespace Go.Proofs.YtokpnfljjjjikaaGreatDoor.lO
open Go.RowKit Go.Proofs.YtokpnfljjjjikaaGreatDoor.sL Go.Proofs.aj.bw Go.Proofs.aj.eU Go.Proofs.aj.cj
attribute [local go_sem] gL gM iL iM fZ gf gP gQ
set_option linter.unusedVariables false
set_option linter.unusedSimpArgs false
def bM.j0:Nat→Bool→ByteArray→Int→Bool→List ByteArray→ByteArray→ByteArray→Bool→Option (Bool×List ByteArray×ByteArray×ByteArray×Bool×Int×Int)
 | 0,_,_,_,_,_,_,_,_ =>none
 |k + 1,x22,Tf,LD,LF,zA,Fk,Fl,Fm=>if x22=true then (some (false,([]:List ByteArray),(⟨#[]⟩:ByteArray),(⟨#[]⟩:ByteArray),false,0,150)) else ((cX.f k Fk Fl Fm).bind fun t220=>(if t220=true then (if (zA.length:Int) > 20 then (some (false,([]:List ByteArray),(⟨#[]⟩:ByteArray),(⟨#[]⟩:ByteArray),false,0,3)) else ((bf.f k zA).bind fun t221=>(if t221=true then (some (false,([]:List ByteArray),(⟨#[]⟩:ByteArray),(⟨#[]⟩:ByteArray),false,0,3)) else (some (LF,zA,Fk,Fl,Fm,LD,0))))) else (some (false,([]:List ByteArray),(⟨#[]⟩:ByteArray),(⟨#[]⟩:ByteArray),false,0,3))))
def bM.f (k:Nat) (a0:ByteArray):Option (Bool×List ByteArray×ByteArray×ByteArray×Bool×Int×Int):=(strings_HasPrefix.f a0 (⟨#[60,62]⟩:ByteArray)).bind fun t201=>(if t201=true then (some (true,([]:List ByteArray),(⟨#[]⟩:ByteArray),(⟨#[]⟩:ByteArray),false,2,0)) else ((bu.f a0 0 60).bind fun vR=>((bW.f k vR.2.1 vR.2.2).bind fun fu=>(if vR.1=true then (if fu.2.2.2.2.2.1=true then ((bu.f fu.2.2.2.2.2.2.1 fu.2.2.2.2.2.2.2 62).bind fun vS=>(bM.j0 k (!vS.1) vS.2.1 vS.2.2 fu.1 fu.2.1 fu.2.2.1 fu.2.2.2.1 fu.2.2.2.2.1)) else (bM.j0 k true fu.2.2.2.2.2.2.1 fu.2.2.2.2.2.2.2 fu.1 fu.2.1 fu.2.2.1 fu.2.2.2.1 fu.2.2.2.2.1)) else (bM.j0 k true fu.2.2.2.2.2.2.1 fu.2.2.2.2.2.2.2 fu.1 fu.2.1 fu.2.2.1 fu.2.2.2.1 fu.2.2.2.2.1)))))
theorem bM.eD:∀ k,(∀ y0 y1 y2 y3 y4 y5 y6 y7,bZ (bM.j0 k y0 y1 y2 y3 y4 y5 y6 y7) (bM.j0 (k + 1) y0 y1 y2 y3 y4 y5 y6 y7))
 | 0=>fun _ _ _ _ _ _ _ _ r h=>by simp [bM.j0] at h
 |k + 1=>by
  have iJ:=bM.eD k
  ·intro y0 y1 y2 y3 y4 y5 y6 y7
   unfold bM.j0
   repeat' first
   |(with_reducible first|exact iJ _ _ _ _ _ _ _ _|exact bW.mono _ _ _|exact cX.mono _ _ _ _|exact bf.mono _ _|exact bZ.refl _|exact bZ.none _|refine bZ.ite ?_ ?_|refine bZ.bind ?_ (fun _ =>?_))
   |exact iJ _ _ _ _ _ _ _ _
   |exact bW.mono _ _ _
   |exact cX.mono _ _ _ _
   |exact bf.mono _ _
   |exact bZ.none _
   |refine bZ.ite ?_ ?_
   |refine bZ.bind ?_ (fun _ =>?_)
theorem bM.mono:∀ a0 k,bZ (bM.f k a0) (bM.f (k + 1) a0):=by
 intro a0 k
 have iJ:=bM.eD k
 unfold bM.f
 repeat' first
  |(with_reducible first|exact iJ _ _ _ _ _ _ _ _|exact bW.mono _ _ _|exact cX.mono _ _ _ _|exact bf.mono _ _|exact bZ.refl _|exact bZ.none _|refine bZ.ite ?_ ?_|refine bZ.bind ?_ (fun _ =>?_))
  |exact iJ _ _ _ _ _ _ _ _
  |exact bW.mono _ _ _
  |exact cX.mono _ _ _ _
  |exact bf.mono _ _
  |exact bZ.none _
  |refine bZ.ite ?_ ?_
  |refine bZ.bind ?_ (fun _ =>?_)
def bM.QB:Bool×List (List Nat×List Nat):=(true,[([],[]),([],[]),([1],[1]),([2],[2]),([3],[3]),([0,0],[0]),([4,5,0,1,2,3,4,5],[4]),([6,0,1,2,3,4,5,6],[])])
def bM.B10:List Nat:=[0,0,2,6,14,1,63,127]
theorem bM.Jm:l9 .any (opsOf Tryz.f17 10)=bM.QB:=by kernel_rfl
theorem bM.Dg:nA bM.QB.2 bM.B10=true:=by kernel_rfl
set_option maxHeartbeats 8000000 in
set_option maxRecDepth 100000 in
theorem bM.calls (k:Nat) (a0:ByteArray) (r1:Bool) (r2:List ByteArray) (r3:ByteArray) (r4:ByteArray) (r5:Bool) (r6:Int) (r7:Int) (w:World) (hG:aQ w) (h:bM.f k a0=some (r1,r2,r3,r4,r5,r6,r7)):
 Calls Tryz.prog 17 #[.string a0] w fun e w'=>∃ Qy:Value,e= .returned (.tuple #[.agg #[.bool r1,Qy,.string r3,.string r4,.bool r5],.int .i64 r6,.int .i64 r7])∧Kd.R Kd.string 9 w' w.heap.size (fun _ =>True) Qy r2∧Below w.heap.size w w':=by
 have Dh:=Tryz.underlying32
 have aaK:=Tryz.underlying82
 have Bf:=Tryz.underlying30
 have HB:=af.mk (Below.refl w.heap.size w)
 have HG:=af.mk hG
 clear hG
 have H:((strings_HasPrefix.f a0 (⟨#[60,62]⟩:ByteArray)).bind fun t201=>(if t201=true then (some (true,([]:List ByteArray),(⟨#[]⟩:ByteArray),(⟨#[]⟩:ByteArray),false,2,0)) else ((bu.f a0 0 60).bind fun vR=>((bW.f k vR.2.1 vR.2.2).bind fun fu=>(if vR.1=true then (if fu.2.2.2.2.2.1=true then ((bu.f fu.2.2.2.2.2.2.1 fu.2.2.2.2.2.2.2 62).bind fun vS=>(bM.j0 k (!vS.1) vS.2.1 vS.2.2 fu.1 fu.2.1 fu.2.2.1 fu.2.2.2.1 fu.2.2.2.2.1)) else (bM.j0 k true fu.2.2.2.2.2.2.1 fu.2.2.2.2.2.2.2 fu.1 fu.2.1 fu.2.2.1 fu.2.2.2.1 fu.2.2.2.2.1)) else (bM.j0 k true fu.2.2.2.2.2.2.1 fu.2.2.2.2.2.2.2 fu.1 fu.2.1 fu.2.2.1 fu.2.2.2.1 fu.2.2.2.2.1))))))=some (r1,r2,r3,r4,r5,r6,r7):=h
 clear h
 obtain ⟨t201,A2,H⟩:=bd_ H
 by_cases c3:t201=true
 ·subst c3
  rw [if_pos rfl] at H
  simp only [Option.some.injEq,Prod.mk.injEq] at H
  obtain ⟨rfl,rfl,rfl,rfl,rfl,rfl,rfl⟩:=H
  go_enter Tryz.func17,Tryz.ntmps17
  go_wp2_with (first|((with_reducible refine cU (N:=2) rfl ?_);(try (refine cW (by rfl) ?_;dsimp only));refine cL ?hg (N:=2) ?hd (cs:=#[.bool false,.slice none 0 0,.string (⟨#[]⟩:ByteArray),.string (⟨#[]⟩:ByteArray),.bool false]) (t:=32) ?hr ?_;(case hd=>rfl);(case hg=>rfl);(case hr=>first|(go_simp;done)|(go_simp;rfl));intro cN hg w4 dg hb;have cK:=af.mk (dg);have QC:=af.mk ((eo:w.heap.size≤cN));have qq:=af.mk ((eo:w.heap.size≤cN));replace HB:=af.mk (aH bS hb);clear hb dg hg)|((with_reducible refine aU (f:=37) rfl ?_);refine bY (some 10) rfl rfl Tryz.func37 ay rfl #[.string a0,.string (⟨#[60,62]⟩:ByteArray)] rfl cr ?_;(with_reducible refine (strings_HasPrefix.calls a0 (⟨#[60,62]⟩:ByteArray) true _ A2.out).mono ?_);rintro e w' ⟨rfl,⟨nd,rfl⟩⟩;refine ⟨_,rfl,?_⟩;(try (rw [qM w4];generalize KJ:World.drewN w4 _=w4;have fH:af (w4.heap[cN]? =some (.cells #[.bool false,.slice none 0 0,.string (⟨#[]⟩:ByteArray),.string (⟨#[]⟩:ByteArray),.bool false] 32 (0,0))):=⟨Eg⟩;have fI:af (Below w.heap.size w w4):=⟨Ec⟩;clear cK HB KJ;have cK:=fH;have HB:=fI;clear fH fI));have C5:w4.cell? ⟨cN,0,none⟩=some (.bool false):=(ah cK.out 0).trans rfl;have C6:w4.cell? ⟨cN,1,none⟩=some (.slice none 0 0):=(ah cK.out 1).trans rfl;have I6:w4.cell? ⟨cN,2,none⟩=some (.string (⟨#[]⟩:ByteArray)):=(ah cK.out 2).trans rfl;have OO:w4.cell? ⟨cN,3,none⟩=some (.string (⟨#[]⟩:ByteArray)):=(ah cK.out 3).trans rfl;have OP:w4.cell? ⟨cN,4,none⟩=some (.bool false):=(ah cK.out 4).trans rfl;have C7:=aa cK.out 0;have C8:=aa cK.out 1;have I7:=aa cK.out 2;have OQ:=aa cK.out 3;have OS:=aa cK.out 4))
  refine bodyPost_ret (j4 rfl _ _ cN 32 #[.bool true,.slice none 0 0,.string (⟨#[]⟩:ByteArray),.string (⟨#[]⟩:ByteArray),.bool false] (0,0) _ rfl (by (with_reducible repeat (first|refine aR ?_ _|refine aY ?_|refine aM ?_ _));refine cF (cs:=#[.bool true,.slice none 0 0,.string (⟨#[]⟩:ByteArray),.string (⟨#[]⟩:ByteArray),.bool false]) ?_ 4 _ rfl;(with_reducible repeat (first|refine aR ?_ _|refine aY ?_|refine aM ?_ _));refine cF (cs:=#[.bool true,.slice none 0 0,.string (⟨#[]⟩:ByteArray),.string (⟨#[]⟩:ByteArray),.bool false]) ?_ 3 _ rfl;(with_reducible repeat (first|refine aR ?_ _|refine aY ?_|refine aM ?_ _));refine cF (cs:=#[.bool true,.slice none 0 0,.string (⟨#[]⟩:ByteArray),.string (⟨#[]⟩:ByteArray),.bool false]) ?_ 2 _ rfl;(with_reducible repeat (first|refine aR ?_ _|refine aY ?_|refine aM ?_ _));refine cF (cs:=#[.bool true,.slice none 0 0,.string (⟨#[]⟩:ByteArray),.string (⟨#[]⟩:ByteArray),.bool false]) ?_ 1 _ rfl;(with_reducible repeat (first|refine aR ?_ _|refine aY ?_|refine aM ?_ _));refine cF (cs:=#[.bool false,.slice none 0 0,.string (⟨#[]⟩:ByteArray),.string (⟨#[]⟩:ByteArray),.bool false]) ?_ 0 _ rfl;(with_reducible repeat (first|refine aR ?_ _|refine aY ?_|refine aM ?_ _));exact cK.out) Tryz.underlying32 rfl ay) rfl ?_
  exact ⟨_,cM,sF,Hv⟩
 ·replace c3:=Bool.eq_false_iff.mpr c3
  subst c3
  rw [if_neg (show ¬ (false=true) by decide)] at H
  obtain ⟨⟨t203,t204,t205⟩,A6,H⟩:=bd_ H
  (try dsimp only at H)
  obtain ⟨⟨t206,t207,t210,t211,t212,t213,t214,t215⟩,A7,H⟩:=bd_ H
  (try dsimp only at H)
  have HC8:=af.mk H
  clear H
  go_enter Tryz.func17,Tryz.ntmps17
  go_upto_region 6 with (first|((with_reducible refine cU (N:=2) rfl ?_);(try (refine cW (by rfl) ?_;dsimp only));refine cL ?hg (N:=2) ?hd (cs:=#[.bool false,.slice none 0 0,.string (⟨#[]⟩:ByteArray),.string (⟨#[]⟩:ByteArray),.bool false]) (t:=32) ?hr ?_;(case hd=>rfl);(case hg=>rfl);(case hr=>first|(go_simp;done)|(go_simp;rfl));intro cN hg w9 dg hb;have cK:=af.mk (dg);have QC:=af.mk ((eo:w.heap.size≤cN));have qq:=af.mk ((eo:w.heap.size≤cN));replace HB:=af.mk (aH bS hb);clear hb dg hg)|((with_reducible refine aU (f:=37) rfl ?_);refine bY (some 10) rfl rfl Tryz.func37 ay rfl #[.string a0,.string (⟨#[60,62]⟩:ByteArray)] rfl cr ?_;(with_reducible refine (strings_HasPrefix.calls a0 (⟨#[60,62]⟩:ByteArray) false _ A2.out).mono ?_);rintro e w' ⟨rfl,⟨nd,rfl⟩⟩;refine ⟨_,rfl,?_⟩;(try (rw [qM w9];generalize KJ:World.drewN w9 _=w9;have fH:af (w9.heap[cN]? =some (.cells #[.bool false,.slice none 0 0,.string (⟨#[]⟩:ByteArray),.string (⟨#[]⟩:ByteArray),.bool false] 32 (0,0))):=⟨Eg⟩;have fI:af (Below w.heap.size w w9):=⟨Ec⟩;clear cK HB KJ;have cK:=fH;have HB:=fI;clear fH fI)))|((with_reducible refine cU (N:=14) rfl ?_);(try (refine cW (by rfl) ?_;dsimp only));refine cL ?hg (N:=14) ?hd (cs:=#[.string a0,.int .i64 0]) (t:=82) ?hr ?_;(case hd=>rfl);(case hg=>rfl);(case hr=>first|(go_simp;done)|(go_simp;rfl));intro kQ hg sB dg hb;have fG:=af.mk ((⟨dg,Cv⟩:aq w sB kQ a0 0));have ab1:=af.mk ((Cv:w.heap.size≤kQ));have ab2:=af.mk ((Cv:w.heap.size≤kQ));replace HB:=af.mk (aH Hv hb);have kX:=af.mk ((Ee:cN≠kQ));have iC:=af.mk ((Ef:kQ≠cN));replace cK:=af.mk (bq mL hb);clear hb dg hg)|((with_reducible refine aU (f:=56) rfl ?_);refine bY (some 16) rfl rfl Tryz.func56 ay rfl #[.pointer (some ⟨kQ,0,none⟩),.int .u8 60] rfl cr ?_;(with_reducible refine (bu.calls kQ a0 0 60 t203 t204 t205 w _ ?aX ?bL A6.out).mono ?_);(case aX=>repeat (first|(with_reducible first|exact fG.out|apply aq.alloc|apply aq.drewN|apply aq.drew|apply aq.dR|apply aq.dQ|refine aq.far ?_ iC.out _)|exact fG.out));(case bL=>repeat (first|(with_reducible first|exact HB.out|apply aJ|apply aK|apply aW|refine bn ?_ (aq.ge fG.out)|refine bn ?_ qq.out)|exact HB.out));rintro e Qd ⟨rfl,hi,hb,hk⟩;refine ⟨_,rfl,?_⟩;replace cK:=af.mk (bh.blk hk (g':=cN) (o:= .cells #[.bool false,.slice none 0 0,.string (⟨#[]⟩:ByteArray),.string (⟨#[]⟩:ByteArray),.bool false] 32 (0,0)) mL kX.out bB);replace HB:=af.mk (hb);replace fG:=af.mk (hi);(try clear hb);(try clear hk);(try clear hi))|((with_reducible refine aU (f:=57) rfl ?_);refine bY (some 19) rfl rfl Tryz.func57 ay rfl #[.pointer (some ⟨kQ,0,none⟩)] rfl cr ?_;(with_reducible refine (bW.calls k kQ t204 t205 t206 t207 t210 t211 t212 t213 t214 t215 w _ ?aX ?bL ?eF A7.out).mono ?_);(case aX=>repeat (first|(with_reducible first|exact fG.out|apply aq.alloc|apply aq.drewN|apply aq.drew|apply aq.dR|apply aq.dQ|refine aq.far ?_ iC.out _)|exact fG.out));(case bL=>repeat (first|(with_reducible first|exact HB.out|apply aJ|apply aK|apply aW|refine bn ?_ (aq.ge fG.out)|refine bn ?_ qq.out)|exact HB.out));(case eF=>exact HG.out);rintro e Hq ⟨v208,rfl,ho0,hi,hb,hk⟩;refine ⟨_,rfl,?_⟩;replace cK:=af.mk (bh.blk hk (g':=cN) (o:= .cells #[.bool false,.slice none 0 0,.string (⟨#[]⟩:ByteArray),.string (⟨#[]⟩:ByteArray),.bool false] 32 (0,0)) mL kX.out bB);have xC:=af.mk (Kd.lu ho0 (fy Hz));replace HB:=af.mk (hb);replace fG:=af.mk (hi);(try clear hb);(try clear hk);(try clear hi);(try clear ho0))|((with_reducible refine cU (N:=7) rfl ?_);(try (refine cW (by rfl) ?_;dsimp only));refine cL ?hg (N:=7) ?hd (cs:=#[.bool false,.slice none 0 0,.string (⟨#[]⟩:ByteArray),.string (⟨#[]⟩:ByteArray),.bool false]) (t:=32) ?hr ?_;(case hd=>rfl);(case hg=>rfl);(case hr=>first|(go_simp;done)|(go_simp;rfl));intro dP hg CX dg hb;replace xC:=af.mk (Kd.dD El hb);have cz:=af.mk (dg);have ab3:=af.mk ((Ih:w.heap.size≤dP));have Ni:=af.mk ((Ih:w.heap.size≤dP));replace HB:=af.mk (aH Hz hb);have fX:=af.mk ((Ee:cN≠dP));have cQ:=af.mk ((Ef:dP≠cN));replace cK:=af.mk (bq mL hb);have jY:=af.mk ((by rw [hg];exact Nat.ne_of_lt (aq.lt (show aq w _ kQ t214 t215 from by repeat (first|(with_reducible first|exact fG.out|apply aq.alloc|apply aq.drewN|apply aq.drew|apply aq.dR|apply aq.dQ|refine aq.far ?_ iC.out _)|exact fG.out))):kQ≠dP));have mE:=af.mk ((by rw [hg];exact Nat.ne_of_gt (aq.lt (show aq w _ kQ t214 t215 from by repeat (first|(with_reducible first|exact fG.out|apply aq.alloc|apply aq.drewN|apply aq.drew|apply aq.dR|apply aq.dQ|refine aq.far ?_ iC.out _)|exact fG.out))):dP≠kQ));replace fG:=af.mk (aq.below (by repeat (first|(with_reducible first|exact fG.out|apply aq.alloc|apply aq.drewN|apply aq.drew|apply aq.dR|apply aq.dQ|refine aq.far ?_ iC.out _)|exact fG.out)) hb);clear hb dg hg;have QD:=cQ.out;have QE:=fX.out;have ab4:=mE.out;have ab5:=jY.out;have uC:CX.cell? ⟨dP,0,none⟩=some (.bool false):=(ah cz.out 0).trans rfl;have uD:CX.cell? ⟨dP,1,none⟩=some (.slice none 0 0):=(ah cz.out 1).trans rfl;have Fp:CX.cell? ⟨dP,2,none⟩=some (.string (⟨#[]⟩:ByteArray)):=(ah cz.out 2).trans rfl;have Fq:CX.cell? ⟨dP,3,none⟩=some (.string (⟨#[]⟩:ByteArray)):=(ah cz.out 3).trans rfl;have Fu:CX.cell? ⟨dP,4,none⟩=some (.bool false):=(ah cz.out 4).trans rfl;have uE:=aa cz.out 0;have uF:=aa cz.out 1;have Fv:=aa cz.out 2;have Fw:=aa cz.out 3;have Fx:=aa cz.out 4;obtain ⟨nI,nJ,aaM⟩:=Kd.jm xC.out;subst aaM))
  (try simp only [Act.put,List.setIfInBounds_toArray,List.set_cons_zero,List.set_cons_succ])
  go_cut [22] (fun v22 wc=>∃ (kq:Nat) (Fy:Bool) (qb:ByteArray) (qc:Int),v22= .bool Fy∧af (bM.j0 kq Fy qb qc t206 t207 t210 t211 t212=some (r1,r2,r3,r4,r5,r6,r7))∧af (kq≤k)∧af (Kd.R Kd.string 9 wc w.heap.size (fun _ =>True) (.slice nI t207.length nJ) t207)∧af (wc.heap[cN]? =some (.cells #[.bool false,(.slice none 0 0),.string (⟨#[]⟩:ByteArray),.string (⟨#[]⟩:ByteArray),.bool false] 32 (0,0)))∧af (wc.heap[dP]? =some (.cells #[.bool t206,(.slice nI t207.length nJ),.string t210,.string t211,.bool t212] 32 (0,0)))∧af (aq w wc kQ qb qc)∧af (Below w.heap.size w wc))
  case first=>
   have H:=HC8.out
   clear HC8
   by_cases c18:t203=true
   ·subst c18
    rw [if_pos rfl] at H
    by_cases c19:t213=true
    ·subst c19
     rw [if_pos rfl] at H
     obtain ⟨⟨t217,t218,t219⟩,Tg,H⟩:=bd_ H
     (try dsimp only at H)
     have H':=af.mk H
     clear H
     go_wp2_with (first|(go_at_call 56;(with_reducible refine (bu.calls kQ t214 t215 62 t217 t218 t219 w _ ?aX ?bL Tg.out).mono ?_);(case aX=>repeat (first|(with_reducible first|exact fG.out|apply aq.alloc|apply aq.drewN|apply aq.drew|apply aq.dR|apply aq.dQ|refine aq.far ?_ iC.out _|refine aq.far ?_ jY.out _)|exact fG.out));(case bL=>repeat (first|(with_reducible first|exact HB.out|apply aJ|apply aK|apply aW|refine bn ?_ (aq.ge fG.out)|refine bn ?_ qq.out|refine bn ?_ Ni.out)|exact HB.out));rintro e w21 ⟨rfl,hi,hb,hk⟩;replace cK:=af.mk (bh.blk hk (g':=cN) (o:= .cells #[.bool false,.slice none 0 0,.string (⟨#[]⟩:ByteArray),.string (⟨#[]⟩:ByteArray),.bool false] 32 (0,0)) Cq kX.out bB);replace xC:=af.mk (Kd.fA (Kd.o9 (aq.apart (show aq w _ kQ t214 t215 from by repeat (first|(with_reducible first|exact fG.out|apply aq.alloc|apply aq.drewN|apply aq.drew|apply aq.dR|apply aq.dQ|refine aq.far ?_ iC.out _|refine aq.far ?_ jY.out _)|exact fG.out)) (by (with_reducible repeat (first|apply Kd.fB|apply Kd.fC|apply Kd.gz));exact (Kd.fA (Kd.dY (p:=⟨dP,4,none⟩) (Kd.dY (p:=⟨dP,3,none⟩) (Kd.dY (p:=⟨dP,2,none⟩) (Kd.dY (p:=⟨dP,1,none⟩) (Kd.dY (p:=⟨dP,0,none⟩) (Kd.kA xC.out cz.out bg) (fun _ hk=>hk.2) (.bool t206)) (fun _ hk=>hk.2) (.slice nI t207.length nJ)) (fun _ hk=>hk.2) (.string t210)) (fun _ hk=>hk.2) (.string t211)) (fun _ hk=>hk.2) (.bool t212)) (fun _ h_ =>h_.1))) bg) hk (fun _ h=>h.2)) (fun _ h=>h.1));replace cz:=af.mk (bh.blk hk (g':=dP) (o:= .cells #[.bool t206,.slice nI t207.length nJ,.string t210,.string t211,.bool t212] 32 (0,0)) Cn mE.out bB);replace HB:=af.mk (hb);replace fG:=af.mk (hi);(try clear hb);(try clear hk);(try clear hi)))
     go_meet
     case rel=>exact ⟨_,(!t217),(t218),(t219),dG,H',⟨lS⟩,⟨El⟩,⟨mL⟩,⟨qI⟩,⟨oo⟩,⟨iO⟩⟩
    ·replace c19:=Bool.eq_false_iff.mpr c19
     subst c19
     rw [if_neg (show ¬ (false=true) by decide)] at H
     have H':=af.mk H
     clear H
     go_wp2
     go_meet
     case rel=>exact ⟨_,(true),(t214),(t215),dG,H',⟨lS⟩,⟨HJ⟩,⟨Cq⟩,⟨Cn⟩,⟨oo⟩,⟨iO⟩⟩
   ·replace c18:=Bool.eq_false_iff.mpr c18
    subst c18
    rw [if_neg (show ¬ (false=true) by decide)] at H
    have H':=af.mk H
    clear H
    go_wp2
    go_meet
    case rel=>exact ⟨_,(true),(t214),(t215),dG,H',⟨lS⟩,⟨HJ⟩,⟨Cq⟩,⟨Cn⟩,⟨oo⟩,⟨iO⟩⟩
  case rest=>
   clear HC8
   obtain ⟨kq,Fy,qb,qc,rfl,HA,HJ7,fY,cK,cz,fG,HB⟩:=hcut
   cases kq with
   |zero=>exact absurd HA.out (by simp [bM.j0])
   |succ PG=>
    have H:=HA.out
    clear HA
    simp only [bM.j0] at H
    by_cases xO:Fy=true
    ·subst xO
     rw [if_pos rfl] at H
     simp only [Option.some.injEq,Prod.mk.injEq] at H
     obtain ⟨rfl,rfl,rfl,rfl,rfl,rfl,rfl⟩:=H
     have ab6:=fX.out
     have ab7:=cQ.out
     have Qr:=kX.out
     have Qs:=iC.out
     have uG:wc.cell? ⟨cN,0,none⟩=some (.bool false):=(ah cK.out 0).trans rfl
     have uH:wc.cell? ⟨cN,1,none⟩=some (.slice none 0 0):=(ah cK.out 1).trans rfl
     have uI:wc.cell? ⟨cN,2,none⟩=some (.string (⟨#[]⟩:ByteArray)):=(ah cK.out 2).trans rfl
     have Fz:wc.cell? ⟨cN,3,none⟩=some (.string (⟨#[]⟩:ByteArray)):=(ah cK.out 3).trans rfl
     have FA:wc.cell? ⟨cN,4,none⟩=some (.bool false):=(ah cK.out 4).trans rfl
     have uJ:=aa cK.out 0
     have uK:=aa cK.out 1
     have uL:=aa cK.out 2
     have FB:=aa cK.out 3
     have FC:=aa cK.out 4
     go_wp2
     refine bodyPost_ret (j4 rfl _ _ cN 32 #[.bool false,.slice none 0 0,.string (⟨#[]⟩:ByteArray),.string (⟨#[]⟩:ByteArray),.bool false] (0,0) _ rfl yJ Tryz.underlying32 rfl ay) rfl ?_
     exact ⟨_,cM,sF,iO⟩
    ·replace xO:=Bool.eq_false_iff.mpr xO
     subst xO
     rw [if_neg (show ¬ (false=true) by decide)] at H
     obtain ⟨t220,Th,H⟩:=bd_ H
     by_cases Ti:t220=true
     ·subst Ti
      rw [if_pos rfl] at H
      by_cases c28:(t207.length:Int) > 20
      ·rw [if_pos c28] at H
       have xM:decide (20 < (t207.length:Int))=true:=decide_eq_true c28
       have FD:decide (20 < t207.length)=true:=decide_eq_true ak
       clear c28
       simp only [Option.some.injEq,Prod.mk.injEq] at H
       obtain ⟨rfl,rfl,rfl,rfl,rfl,rfl,rfl⟩:=H
       have ab8:=cQ.out
       have ab9:=fX.out
       have Qt:=mE.out
       have Qu:=jY.out
       have EZ:wc.cell? ⟨dP,0,none⟩=some (.bool t206):=(ah cz.out 0).trans rfl
       have E0:wc.cell? ⟨dP,1,none⟩=some (.slice nI t207.length nJ):=(ah cz.out 1).trans rfl
       have Ls:wc.cell? ⟨dP,2,none⟩=some (.string t210):=(ah cz.out 2).trans rfl
       have Tj:wc.cell? ⟨dP,3,none⟩=some (.string t211):=(ah cz.out 3).trans rfl
       have Tk:wc.cell? ⟨dP,4,none⟩=some (.bool t212):=(ah cz.out 4).trans rfl
       have E1:=aa cz.out 0
       have E2:=aa cz.out 1
       have Lt:=aa cz.out 2
       have Tm:=aa cz.out 3
       have Tn:=aa cz.out 4
       go_wp2_with (first|((with_reducible refine aU (f:=58) rfl ?_);refine bY (some 38) rfl rfl Tryz.func58 ay rfl #[.agg #[.string t210,.string t211,.bool t212]] rfl cr ?_;(with_reducible refine (cX.calls PG t210 t211 t212 true _ ?aX Th.out).mono ?_);(case aX=>exact aQ.below HG.out iO);rintro e Gz ⟨rfl,hb⟩;refine ⟨_,rfl,?_⟩;replace fY:=af.mk (Kd.dD sG hb);replace cK:=af.mk (bq mL hb);replace cz:=af.mk (bq qI hb);replace HB:=af.mk (aH iO hb);replace fG:=af.mk (aq.below oo hb);(try clear hb);have Lg:Gz.cell? ⟨dP,0,none⟩=some (.bool t206):=(ah cz.out 0).trans rfl;have Lh:Gz.cell? ⟨dP,1,none⟩=some (.slice nI t207.length nJ):=(ah cz.out 1).trans rfl;have Tp:Gz.cell? ⟨dP,2,none⟩=some (.string t210):=(ah cz.out 2).trans rfl;have Tq:Gz.cell? ⟨dP,3,none⟩=some (.string t211):=(ah cz.out 3).trans rfl;have Tt:Gz.cell? ⟨dP,4,none⟩=some (.bool t212):=(ah cz.out 4).trans rfl;have Li:=aa cz.out 0;have Lj:=aa cz.out 1;have Tu:=aa cz.out 2;have Tv:=aa cz.out 3;have Tw:=aa cz.out 4;have acd:=kX.out;have ace:=iC.out;have LG:Gz.cell? ⟨cN,0,none⟩=some (.bool false):=(ah cK.out 0).trans rfl;have LH:Gz.cell? ⟨cN,1,none⟩=some (.slice none 0 0):=(ah cK.out 1).trans rfl;have LI:Gz.cell? ⟨cN,2,none⟩=some (.string (⟨#[]⟩:ByteArray)):=(ah cK.out 2).trans rfl;have Tx:Gz.cell? ⟨cN,3,none⟩=some (.string (⟨#[]⟩:ByteArray)):=(ah cK.out 3).trans rfl;have Ty:Gz.cell? ⟨cN,4,none⟩=some (.bool false):=(ah cK.out 4).trans rfl;have LJ:=aa cK.out 0;have LK:=aa cK.out 1;have LL:=aa cK.out 2;have Tz:=aa cK.out 3;have TA:=aa cK.out 4))
       refine bodyPost_ret (j4 rfl _ _ cN 32 #[.bool false,.slice none 0 0,.string (⟨#[]⟩:ByteArray),.string (⟨#[]⟩:ByteArray),.bool false] (0,0) _ rfl yJ Tryz.underlying32 rfl ay) rfl ?_
       exact ⟨_,cM,sF,iO⟩
      ·rw [if_neg c28] at H
       have xM:decide (20 < (t207.length:Int))=false:=decide_eq_false c28
       have FD:decide (20 < t207.length)=false:=decide_eq_false ak
       clear c28
       obtain ⟨t221,A36,H⟩:=bd_ H
       by_cases c37:t221=true
       ·subst c37
        rw [if_pos rfl] at H
        simp only [Option.some.injEq,Prod.mk.injEq] at H
        obtain ⟨rfl,rfl,rfl,rfl,rfl,rfl,rfl⟩:=H
        have acg:=cQ.out
        have ach:=fX.out
        have aci:=mE.out
        have acj:=jY.out
        have TB:wc.cell? ⟨dP,0,none⟩=some (.bool t206):=(ah cz.out 0).trans rfl
        have TC:wc.cell? ⟨dP,1,none⟩=some (.slice nI t207.length nJ):=(ah cz.out 1).trans rfl
        have TD:wc.cell? ⟨dP,2,none⟩=some (.string t210):=(ah cz.out 2).trans rfl
        have TE:wc.cell? ⟨dP,3,none⟩=some (.string t211):=(ah cz.out 3).trans rfl
        have TF:wc.cell? ⟨dP,4,none⟩=some (.bool t212):=(ah cz.out 4).trans rfl
        have TG:=aa cz.out 0
        have TH:=aa cz.out 1
        have TI:=aa cz.out 2
        have TJ:=aa cz.out 3
        have TK:=aa cz.out 4
        go_wp2_with (first|((with_reducible refine aU (f:=58) rfl ?_);refine bY (some 38) rfl rfl Tryz.func58 ay rfl #[.agg #[.string t210,.string t211,.bool t212]] rfl cr ?_;(with_reducible refine (cX.calls PG t210 t211 t212 true _ ?aX Th.out).mono ?_);(case aX=>exact aQ.below HG.out iO);rintro e QF ⟨rfl,hb⟩;refine ⟨_,rfl,?_⟩;replace fY:=af.mk (Kd.dD sG hb);replace cK:=af.mk (bq mL hb);replace cz:=af.mk (bq qI hb);replace HB:=af.mk (aH iO hb);replace fG:=af.mk (aq.below oo hb);(try clear hb);have TL:QF.cell? ⟨dP,0,none⟩=some (.bool t206):=(ah cz.out 0).trans rfl;have TM:QF.cell? ⟨dP,1,none⟩=some (.slice nI t207.length nJ):=(ah cz.out 1).trans rfl;have TN:QF.cell? ⟨dP,2,none⟩=some (.string t210):=(ah cz.out 2).trans rfl;have TP:QF.cell? ⟨dP,3,none⟩=some (.string t211):=(ah cz.out 3).trans rfl;have TQ:QF.cell? ⟨dP,4,none⟩=some (.bool t212):=(ah cz.out 4).trans rfl;have TR:=aa cz.out 0;have TS:=aa cz.out 1;have TT:=aa cz.out 2;have TU:=aa cz.out 3;have TV:=aa cz.out 4)|(go_at_call 59;(with_reducible refine (bf.calls PG _ _ t207 true _ ?aX ?bL ?eF A36.out).mono ?_);(case aX=>repeat (first|exact (Kd.gy fY.out).2.2|(with_reducible refine Kd.gu ?_ _)|(with_reducible refine Kd.gv ?_ _)|(with_reducible refine Kd.iB ?_)));(case bL=>exact (Kd.gy fY.out).2.1);(case eF=>exact aQ.below HG.out iO);rintro e PI ⟨rfl,hb⟩;replace fY:=af.mk (Kd.dD sG hb);replace cK:=af.mk (bq mL hb);replace cz:=af.mk (bq qI hb);replace HB:=af.mk (aH iO hb);replace fG:=af.mk (aq.below oo hb);(try clear hb);have ack:=kX.out;have acm:=iC.out;have TW:PI.cell? ⟨cN,0,none⟩=some (.bool false):=(ah cK.out 0).trans rfl;have TX:PI.cell? ⟨cN,1,none⟩=some (.slice none 0 0):=(ah cK.out 1).trans rfl;have TY:PI.cell? ⟨cN,2,none⟩=some (.string (⟨#[]⟩:ByteArray)):=(ah cK.out 2).trans rfl;have TZ:PI.cell? ⟨cN,3,none⟩=some (.string (⟨#[]⟩:ByteArray)):=(ah cK.out 3).trans rfl;have T4:PI.cell? ⟨cN,4,none⟩=some (.bool false):=(ah cK.out 4).trans rfl;have T5:=aa cK.out 0;have T6:=aa cK.out 1;have T7:=aa cK.out 2;have T9:=aa cK.out 3;have Ua:=aa cK.out 4))
        refine bodyPost_ret (j4 rfl _ _ cN 32 #[.bool false,.slice none 0 0,.string (⟨#[]⟩:ByteArray),.string (⟨#[]⟩:ByteArray),.bool false] (0,0) _ rfl yJ Tryz.underlying32 rfl ay) rfl ?_
        exact ⟨_,cM,sF,iO⟩
       ·replace c37:=Bool.eq_false_iff.mpr c37
        subst c37
        rw [if_neg (show ¬ (false=true) by decide)] at H
        simp only [Option.some.injEq,Prod.mk.injEq] at H
        obtain ⟨rfl,rfl,rfl,rfl,rfl,rfl,rfl⟩:=H
        have acn:=cQ.out
        have aco:=fX.out
        have acp:=mE.out
        have acq:=jY.out
        have Ub:wc.cell? ⟨dP,0,none⟩=some (.bool t206):=(ah cz.out 0).trans rfl
        have Uc:wc.cell? ⟨dP,1,none⟩=some (.slice nI t207.length nJ):=(ah cz.out 1).trans rfl
        have Ud:wc.cell? ⟨dP,2,none⟩=some (.string t210):=(ah cz.out 2).trans rfl
        have Ue:wc.cell? ⟨dP,3,none⟩=some (.string t211):=(ah cz.out 3).trans rfl
        have Uf:wc.cell? ⟨dP,4,none⟩=some (.bool t212):=(ah cz.out 4).trans rfl
        have Ug:=aa cz.out 0
        have Uh:=aa cz.out 1
        have Ui:=aa cz.out 2
        have Uj:=aa cz.out 3
        have Uk:=aa cz.out 4
        try go_wp2_with (first|((with_reducible refine aU (f:=58) rfl ?_);refine bY (some 38) rfl rfl Tryz.func58 ay rfl #[.agg #[.string t210,.string t211,.bool t212]] rfl cr ?_;(with_reducible refine (cX.calls PG t210 t211 t212 true _ ?aX Th.out).mono ?_);(case aX=>exact aQ.below HG.out iO);rintro e QG ⟨rfl,hb⟩;refine ⟨_,rfl,?_⟩;replace fY:=af.mk (Kd.dD sG hb);replace cK:=af.mk (bq mL hb);replace cz:=af.mk (bq qI hb);replace HB:=af.mk (aH iO hb);replace fG:=af.mk (aq.below oo hb);(try clear hb);have Ul:QG.cell? ⟨dP,0,none⟩=some (.bool t206):=(ah cz.out 0).trans rfl;have Um:QG.cell? ⟨dP,1,none⟩=some (.slice nI t207.length nJ):=(ah cz.out 1).trans rfl;have Un:QG.cell? ⟨dP,2,none⟩=some (.string t210):=(ah cz.out 2).trans rfl;have Uo:QG.cell? ⟨dP,3,none⟩=some (.string t211):=(ah cz.out 3).trans rfl;have Uq:QG.cell? ⟨dP,4,none⟩=some (.bool t212):=(ah cz.out 4).trans rfl;have Ur:=aa cz.out 0;have Us:=aa cz.out 1;have Ut:=aa cz.out 2;have Uu:=aa cz.out 3;have Uv:=aa cz.out 4)|(go_at_call 59;(with_reducible refine (bf.calls PG _ _ t207 false _ ?aX ?bL ?eF A36.out).mono ?_);(case aX=>repeat (first|exact (Kd.gy fY.out).2.2|(with_reducible refine Kd.gu ?_ _)|(with_reducible refine Kd.gv ?_ _)|(with_reducible refine Kd.iB ?_)));(case bL=>exact (Kd.gy fY.out).2.1);(case eF=>exact aQ.below HG.out iO);rintro e w51 ⟨rfl,hb⟩;replace fY:=af.mk (Kd.dD sG hb);replace cK:=af.mk (bq mL hb);replace cz:=af.mk (bq qI hb);replace HB:=af.mk (aH iO hb);replace fG:=af.mk (aq.below oo hb);(try clear hb)))
        have fH:=af.mk (Kd.gz fY.out)
        have fI:=af.mk (aY cK.out)
        have jI:=af.mk (aY cz.out)
        have kR:=af.mk (aq.drew fG.out)
        have mZ:=af.mk (aW HB.out)
        clear fY
        clear cK
        clear cz
        clear fG
        clear HB
        have fY:=fH
        have cK:=fI
        have cz:=jI
        have fG:=kR
        have HB:=mZ
        clear fH fI jI kR mZ
        refine pz (n:=8) (S:=fun w'=>w'.cell? ⟨dP,0,none⟩=some (.bool t206)∧w'.cell? ⟨dP,1,none⟩=some (.slice nI t207.length nJ)∧w'.cell? ⟨dP,2,none⟩=some (.string t210)∧w'.cell? ⟨dP,3,none⟩=some (.string t211)∧w'.cell? ⟨dP,4,none⟩=some (.bool t212)∧w'.cell? ⟨kQ,0,none⟩=some (.string qb)∧w'.cell? ⟨kQ,1,none⟩=some (.int .i64 qc)) (ds:=[]) #[false,false,false,false,false,false,false,false] ay (by rfl) (by rfl) ⟨(ah cz.out 0).trans rfl,(ah cz.out 1).trans rfl,(ah cz.out 2).trans rfl,(ah cz.out 3).trans rfl,(ah cz.out 4).trans rfl,cH fG.out.1,cG fG.out.1⟩ (fun hHeld=>?_);refine mD bM.Jm bM.Dg (fun iq AP=>?_)
        generalize w51.drew=QH at fY cK cz fG HB hHeld ⊢
        refine cA (i:=1) (N:=some 53) #[false,true,false,false,false,false,false,false] rfl rfl (cR iq.out ay) (fun _ _ _ h=>h) (Or.inl ⟨by rfl,eT⟩) eV ?_
        refine cA (i:=2) (N:=some 54) #[false,true,true,false,false,false,false,false] rfl rfl (cR iq.out ay) (fun _ _ _ h=>h) (Or.inl ⟨by rfl,eT⟩) eV ?_
        refine cA (i:=3) (N:=some 55) #[false,true,true,true,false,false,false,false] rfl rfl (cR iq.out ay) (fun _ _ _ h=>h) (Or.inl ⟨by rfl,eT⟩) eV ?_
        refine jh (i:=0) (N:=some 52) #[true,true,true,true,false,false,false,false] rfl rfl (ji iq.out AP.out ay) (fun _ _ _ h=>h) (Or.inl ⟨by rfl,Ep⟩) hHeld eV ?_
        refine jh (i:=4) (N:=some 56) #[true,true,true,true,true,false,false,false] rfl rfl (ji iq.out AP.out ay) (fun _ _ _ h=>h) (Or.inl ⟨by rfl,Ep⟩) hHeld eV ?_
        refine rD (i:=5) (N:=none) #[true,true,true,true,true,true,false,false] rfl rfl (mW iq.out ay) bg (fun K hK=>?_)
        have aeu:QH.cell? ⟨cN,0,none⟩=some (.bool false):=(ah cK.out 0).trans rfl
        have acr:=aa cK.out 0
        have Uw:=cQ.out
        have Ux:=fX.out
        have aev:QH.cell? ⟨cN,1,none⟩=some (.slice none 0 0):=(ah cK.out 1).trans rfl
        have acs:=aa cK.out 1
        have Uy:=cQ.out
        have Uz:=fX.out
        have aew:QH.cell? ⟨cN,2,none⟩=some (.string (⟨#[]⟩:ByteArray)):=(ah cK.out 2).trans rfl
        have acu:=aa cK.out 2
        have UA:=cQ.out
        have UB:=fX.out
        have aex:QH.cell? ⟨cN,3,none⟩=some (.string (⟨#[]⟩:ByteArray)):=(ah cK.out 3).trans rfl
        have acv:=aa cK.out 3
        have UC:=cQ.out
        have UD:=fX.out
        have aey:QH.cell? ⟨cN,4,none⟩=some (.bool false):=(ah cK.out 4).trans rfl
        have acw:=aa cK.out 4
        have UE:=cQ.out
        have UF:=fX.out
        refine P6 (w1:=?_) (by rfl) rfl ?_ ?_
        rotate_left
        ·go_simp
         rfl
        refine hK.out _ _ ⟨((cell_far (p:=⟨cN,_,none⟩) cQ.out _).trans (((cell_far (p:=⟨cN,_,none⟩) cQ.out _).trans (((cell_far (p:=⟨cN,_,none⟩) cQ.out _).trans (((cell_far (p:=⟨cN,_,none⟩) cQ.out _).trans (((cell_far (p:=⟨cN,_,none⟩) cQ.out _).trans (hHeld.1)))))))))),((cell_far (p:=⟨cN,_,none⟩) cQ.out _).trans (((cell_far (p:=⟨cN,_,none⟩) cQ.out _).trans (((cell_far (p:=⟨cN,_,none⟩) cQ.out _).trans (((cell_far (p:=⟨cN,_,none⟩) cQ.out _).trans (((cell_far (p:=⟨cN,_,none⟩) cQ.out _).trans (hHeld.2.1)))))))))),((cell_far (p:=⟨cN,_,none⟩) cQ.out _).trans (((cell_far (p:=⟨cN,_,none⟩) cQ.out _).trans (((cell_far (p:=⟨cN,_,none⟩) cQ.out _).trans (((cell_far (p:=⟨cN,_,none⟩) cQ.out _).trans (((cell_far (p:=⟨cN,_,none⟩) cQ.out _).trans (hHeld.2.2.1)))))))))),((cell_far (p:=⟨cN,_,none⟩) cQ.out _).trans (((cell_far (p:=⟨cN,_,none⟩) cQ.out _).trans (((cell_far (p:=⟨cN,_,none⟩) cQ.out _).trans (((cell_far (p:=⟨cN,_,none⟩) cQ.out _).trans (((cell_far (p:=⟨cN,_,none⟩) cQ.out _).trans (hHeld.2.2.2.1)))))))))),((cell_far (p:=⟨cN,_,none⟩) cQ.out _).trans (((cell_far (p:=⟨cN,_,none⟩) cQ.out _).trans (((cell_far (p:=⟨cN,_,none⟩) cQ.out _).trans (((cell_far (p:=⟨cN,_,none⟩) cQ.out _).trans (((cell_far (p:=⟨cN,_,none⟩) cQ.out _).trans (hHeld.2.2.2.2.1)))))))))),((cell_far (p:=⟨cN,_,none⟩) nH _).trans (((cell_far (p:=⟨cN,_,none⟩) nH _).trans (((cell_far (p:=⟨cN,_,none⟩) nH _).trans (((cell_far (p:=⟨cN,_,none⟩) nH _).trans (((cell_far (p:=⟨cN,_,none⟩) nH _).trans (hHeld.2.2.2.2.2.1)))))))))),((cell_far (p:=⟨cN,_,none⟩) nH _).trans (((cell_far (p:=⟨cN,_,none⟩) nH _).trans (((cell_far (p:=⟨cN,_,none⟩) nH _).trans (((cell_far (p:=⟨cN,_,none⟩) nH _).trans (((cell_far (p:=⟨cN,_,none⟩) nH _).trans (hHeld.2.2.2.2.2.2))))))))))⟩ (fun hHeld=>?_)
        clear hK K
        refine cA (i:=6) (N:=some 3) #[true,true,true,true,true,true,true,false] rfl rfl (cR iq.out ay) (fun _ _ _ h=>h) (Or.inl ⟨by rfl,eT⟩) eV ?_
        refine cA (i:=7) (N:=some 4) #[true,true,true,true,true,true,true,true] rfl rfl (cR iq.out ay) (fun _ _ _ h=>h) (Or.inl ⟨by rfl,eT⟩) eV ?_
        refine tA (p8 iq.out ay) ?_
        try go_wp2
        refine bodyPost_ret (j4 rfl _ _ cN 32 #[.bool t206,.slice nI t207.length nJ,.string t210,.string t211,.bool t212] (0,0) _ rfl (by (with_reducible repeat (first|refine aR ?_ _|refine aY ?_|refine aM ?_ _));refine cF (cs:=#[.bool t206,.slice nI t207.length nJ,.string t210,.string t211,.bool false]) ?_ 4 _ rfl;(with_reducible repeat (first|refine aR ?_ _|refine aY ?_|refine aM ?_ _));refine cF (cs:=#[.bool t206,.slice nI t207.length nJ,.string t210,.string (⟨#[]⟩:ByteArray),.bool false]) ?_ 3 _ rfl;(with_reducible repeat (first|refine aR ?_ _|refine aY ?_|refine aM ?_ _));refine cF (cs:=#[.bool t206,.slice nI t207.length nJ,.string (⟨#[]⟩:ByteArray),.string (⟨#[]⟩:ByteArray),.bool false]) ?_ 2 _ rfl;(with_reducible repeat (first|refine aR ?_ _|refine aY ?_|refine aM ?_ _));refine cF (cs:=#[.bool t206,.slice none 0 0,.string (⟨#[]⟩:ByteArray),.string (⟨#[]⟩:ByteArray),.bool false]) ?_ 1 _ rfl;(with_reducible repeat (first|refine aR ?_ _|refine aY ?_|refine aM ?_ _));refine cF (cs:=#[.bool false,.slice none 0 0,.string (⟨#[]⟩:ByteArray),.string (⟨#[]⟩:ByteArray),.bool false]) ?_ 0 _ rfl;(with_reducible repeat (first|refine aR ?_ _|refine aY ?_|refine aM ?_ _));exact cK.out) Tryz.underlying32 rfl ay) rfl ?_
        exact ⟨_,cM,by (with_reducible repeat (first|apply Kd.fB|apply Kd.fC|apply Kd.gz));exact Kd.fA (Kd.dY (p:=⟨cN,4,none⟩) (Kd.dY (p:=⟨cN,3,none⟩) (Kd.dY (p:=⟨cN,2,none⟩) (Kd.dY (p:=⟨cN,1,none⟩) (Kd.dY (p:=⟨cN,0,none⟩) (Kd.kA fY.out cK.out bg) (fun _ hk=>hk.2) (.bool t206)) (fun _ hk=>hk.2) (.slice nI t207.length nJ)) (fun _ hk=>hk.2) (.string t210)) (fun _ hk=>hk.2) (.string t211)) (fun _ hk=>hk.2) (.bool t212)) (fun _ hk=>trivial),iO⟩
     ·replace Ti:=Bool.eq_false_iff.mpr Ti
      subst Ti
      rw [if_neg (show ¬ (false=true) by decide)] at H
      simp only [Option.some.injEq,Prod.mk.injEq] at H
      obtain ⟨rfl,rfl,rfl,rfl,rfl,rfl,rfl⟩:=H
      have acy:=cQ.out
      have acz:=fX.out
      have acA:=mE.out
      have acB:=jY.out
      have UG:wc.cell? ⟨dP,0,none⟩=some (.bool t206):=(ah cz.out 0).trans rfl
      have UH:wc.cell? ⟨dP,1,none⟩=some (.slice nI t207.length nJ):=(ah cz.out 1).trans rfl
      have UI:wc.cell? ⟨dP,2,none⟩=some (.string t210):=(ah cz.out 2).trans rfl
      have UJ:wc.cell? ⟨dP,3,none⟩=some (.string t211):=(ah cz.out 3).trans rfl
      have UK:wc.cell? ⟨dP,4,none⟩=some (.bool t212):=(ah cz.out 4).trans rfl
      have UL:=aa cz.out 0
      have UM:=aa cz.out 1
      have UN:=aa cz.out 2
      have UO:=aa cz.out 3
      have UQ:=aa cz.out 4
      go_wp2_with (first|((with_reducible refine aU (f:=58) rfl ?_);refine bY (some 38) rfl rfl Tryz.func58 ay rfl #[.agg #[.string t210,.string t211,.bool t212]] rfl cr ?_;(with_reducible refine (cX.calls PG t210 t211 t212 false _ ?aX Th.out).mono ?_);(case aX=>exact aQ.below HG.out iO);rintro e QI ⟨rfl,hb⟩;refine ⟨_,rfl,?_⟩;replace fY:=af.mk (Kd.dD sG hb);replace cK:=af.mk (bq mL hb);replace cz:=af.mk (bq qI hb);replace HB:=af.mk (aH iO hb);replace fG:=af.mk (aq.below oo hb);(try clear hb);have acC:=kX.out;have acD:=iC.out;have UR:QI.cell? ⟨cN,0,none⟩=some (.bool false):=(ah cK.out 0).trans rfl;have UT:QI.cell? ⟨cN,1,none⟩=some (.slice none 0 0):=(ah cK.out 1).trans rfl;have UU:QI.cell? ⟨cN,2,none⟩=some (.string (⟨#[]⟩:ByteArray)):=(ah cK.out 2).trans rfl;have UW:QI.cell? ⟨cN,3,none⟩=some (.string (⟨#[]⟩:ByteArray)):=(ah cK.out 3).trans rfl;have UX:QI.cell? ⟨cN,4,none⟩=some (.bool false):=(ah cK.out 4).trans rfl;have UY:=aa cK.out 0;have UZ:=aa cK.out 1;have U0:=aa cK.out 2;have U1:=aa cK.out 3;have U2:=aa cK.out 4))
      refine bodyPost_ret (j4 rfl _ _ cN 32 #[.bool false,.slice none 0 0,.string (⟨#[]⟩:ByteArray),.string (⟨#[]⟩:ByteArray),.bool false] (0,0) _ rfl yJ Tryz.underlying32 rfl ay) rfl ?_
      exact ⟨_,cM,sF,iO⟩
end Go.Proofs.YtokpnfljjjjikaaGreatDoor.lO
