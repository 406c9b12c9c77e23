import Derived.Test.YtokpnfljjjjikaaGreatDoorZo
import Derived.Test.YtokpnfljjjjikaaGreatDoorQCbx0
import Derived.Test.YtokpnfljjjjikaaGreatDoorQCbx4
import Derived.Test.YtokpnfljjjjikaaGreatDoorQCbx12
import Derived.Test.YtokpnfljjjjikaaGreatDoorEParse
import Derived.Test.YtokpnfljjjjikaaGreatDoorESmall
import Derived.Test.YtokpnfljjjjikaaGreatDoorWRepsOne
namespace Go.Proofs.YtokpnfljjjjikaaGreatDoor.pJ
open Go.RowKit Go.Proofs.aj.bV Go.Proofs.aj.gq Go.Proofs.aj.dB
attribute [local go_sem] jo jq kM kN iO iP jr jt
set_option linter.unusedVariables false
set_option linter.unusedSimpArgs false
def dU.f (k:Nat) (a0:ByteArray) (a1:Int):Option (Bool):=(ak.f k a0).bind fun qg=>(if qg.2.2.2.2.2.2.2.2=a1 then ((aN.f k qg.1 qg.2.1 qg.2.2.1 qg.2.2.2.1 qg.2.2.2.2.1 qg.2.2.2.2.2.1 qg.2.2.2.2.2.2.1 qg.2.2.2.2.2.2.2.1 0 (⟨#[]⟩:ByteArray) false ([]:List ByteArray) (⟨#[]⟩:ByteArray) (⟨#[]⟩:ByteArray) false ([]:List (ij))).bind fun t270=>(some t270)) else (none))
theorem dU.mono:∀ a0 a1 k,cN (dU.f k a0 a1) (dU.f (k + 1) a0 a1):=by
 intro a0 a1 k
 unfold dU.f
 repeat' first
  |(with_reducible exact ak.mono _ _)
  |(with_reducible exact aN.mono _ _ _ _ _ _ _ _ _ _ _ _ _ _ _ _ _)
  |(with_reducible exact cN.refl _)
  |(with_reducible exact cN.none _)
  |(with_reducible refine cN.ite ?_ ?_)
  |(with_reducible refine cN.bind ?_ (fun _ =>?_))
  |refine cN.ite ?_ ?_
  |refine cN.bind ?_ (fun _ =>?_)
set_option maxHeartbeats 8000000 in
set_option maxRecDepth 100000 in
theorem dU.calls (k:Nat) (a0:ByteArray) (a1:Int) (r:Bool) (w:World) (hG:aU w) (h:dU.f k a0 a1=some r):
 Calls Tryz.prog 14 #[.string a0,.int .i64 a1] w fun e w'=>e= .returned (.bool r)∧Below w.heap.size w w':=by
 have LW:=Tryz.underlying35
 have HB:=ah.mk (Below.refl w.heap.size w)
 have HG:=ah.mk hG
 clear hG
 have H:((ak.f k a0).bind fun qg=>(if qg.2.2.2.2.2.2.2.2=a1 then ((aN.f k qg.1 qg.2.1 qg.2.2.1 qg.2.2.2.1 qg.2.2.2.2.1 qg.2.2.2.2.2.1 qg.2.2.2.2.2.2.1 qg.2.2.2.2.2.2.2.1 0 (⟨#[]⟩:ByteArray) false ([]:List ByteArray) (⟨#[]⟩:ByteArray) (⟨#[]⟩:ByteArray) false ([]:List (ij))).bind fun t270=>(some t270)) else (none)))=some r:=h
 clear h
 replace H:=Option.bind_eq_some_iff.mp H
 obtain ⟨⟨t256,t257,t258,t259,t262,t263,t264,t265,t268⟩,zl,H⟩:=H
 replace H:(if t268=a1 then ((aN.f k t256 t257 t258 t259 t262 t263 t264 t265 0 (⟨#[]⟩:ByteArray) false ([]:List ByteArray) (⟨#[]⟩:ByteArray) (⟨#[]⟩:ByteArray) false ([]:List (ij))).bind fun t270=>(some t270)) else (none))=some r:=H
 have A3:=ah.mk zl
 clear zl
 by_cases c4:t268=a1
 ·rw [if_pos c4] at H
  have o9:(t268 == a1)=true:=beq_iff_eq.mpr c4
  have GK:(t268 != a1)=false:=bne_eq_false_iff_eq.mpr c4
  clear c4
  replace H:=Option.bind_eq_some_iff.mp H
  obtain ⟨t270,Me,H⟩:=H
  replace H:(some t270)=some r:=H
  have A5:=ah.mk Me
  clear Me
  obtain rfl:=Option.some.inj H
  go_enter Tryz.func14,Tryz.ntmps14
  go_wp2_with (first|((with_reducible refine aQ (f:=35) rfl ?_);refine cu (some 9) rfl rfl Tryz.func35 av rfl #[.string a0] rfl cT ?_;(with_reducible refine (ak.calls k a0 t256 t257 t258 t259 t262 t263 t264 t265 t268 _ ?aX A3.out).mono ?_);(case aX=>exact aU.below HG.out bN);rintro e w6 ⟨aqM,aqN,rfl,ho0,kI,hb⟩;refine ⟨_,rfl,?_⟩;have bB:=ah.mk (Kd.eF ho0 (cE bN));have bL:=ah.mk (Kd.eF kI (cE bN));have bY:=ah.mk (ay bN hb);clear HB;have Cv:=bB;have Cw:=bL;have HB:=bY;clear bB bL bY;(try clear hb);(try clear hb2);(try clear hk);(try clear hi);(try clear ho0);(try clear kI))|((with_reducible refine cC (N:=5) rfl ?_);refine b9 ?hg (N:=5) ?hd (cs:=#[.int .u8 0,.string (⟨#[]⟩:ByteArray),.bool false,.slice none 0 0,.string (⟨#[]⟩:ByteArray),.string (⟨#[]⟩:ByteArray),.bool false,.slice none 0 0]) (t:=35) ?hr ?_;(case hd=>rfl);(case hg=>rfl);(case hr=>first|(go_simp;done)|(go_simp;rfl));intro l6 hg w7 cJ hb;have bB:=ah.mk (Kd.bP (by (with_reducible repeat (first|apply Kd.dR|apply Kd.dW|apply Kd.eW));exact Cv.out) hb);have bL:=ah.mk (Kd.bP (by (with_reducible repeat (first|apply Kd.dR|apply Kd.dW|apply Kd.eW));exact Cw.out) hb);have bY:=ah.mk (ay bN hb);have cK:=ah.mk (cJ);have gY:=ah.mk ((dz:w.heap.size≤l6));have jc:=ah.mk ((dz:w.heap.size≤l6));clear Cv;clear Cw;clear HB;have Cv:=bB;have Cw:=bL;have HB:=bY;have ow:=cK;have ao5:=gY;have adv:=jc;clear bB bL bY cK gY jc;clear hb cJ hg;have xh:w7.cell? ⟨l6,0,none⟩=some (.int .u8 0):=(af ow.out 0).trans rfl;have xj:w7.cell? ⟨l6,1,none⟩=some (.string (⟨#[]⟩:ByteArray)):=(af ow.out 1).trans rfl;have BZ:w7.cell? ⟨l6,2,none⟩=some (.bool false):=(af ow.out 2).trans rfl;have Fl:w7.cell? ⟨l6,3,none⟩=some (.slice none 0 0):=(af ow.out 3).trans rfl;have Fm:w7.cell? ⟨l6,4,none⟩=some (.string (⟨#[]⟩:ByteArray)):=(af ow.out 4).trans rfl;have acf:w7.cell? ⟨l6,5,none⟩=some (.string (⟨#[]⟩:ByteArray)):=(af ow.out 5).trans rfl;have acg:w7.cell? ⟨l6,6,none⟩=some (.bool false):=(af ow.out 6).trans rfl;have ach:w7.cell? ⟨l6,7,none⟩=some (.slice none 0 0):=(af ow.out 7).trans rfl;have xk:=aa ow.out 0;have xm:=aa ow.out 1;have B0:=aa ow.out 2;have Fp:=aa ow.out 3;have Fq:=aa ow.out 4;have aci:=aa ow.out 5;have acj:=aa ow.out 6;have ack:=aa ow.out 7;obtain ⟨Ao9,Z5,eo9⟩:=Kd.dn Cv.out;subst eo9;obtain ⟨abc,Xw,amQ⟩:=Kd.dn Cw.out;subst amQ)|(go_at_call 36;(refine (aN.calls k t256 t257 t258 _ _ t259 t262 t263 t264 _ _ t265 0 (⟨#[]⟩:ByteArray) false _ _ ([]:List ByteArray) (⟨#[]⟩:ByteArray) (⟨#[]⟩:ByteArray) false _ _ ([]:List (ij)) t270 _ ?aX ?bT ?eo ?fS ?gG ?oK ?oL ?oM A5.out).mono ?_);(case aX=>refine (Kd.ck (e:=9) (base:=w.heap.size) (ok:=fun k_ =>True) (n:=t259.length) (c:=Z5) ?_).2.2;exact U0);(case bT=>exact (Kd.ck Cv.out).2.1);(case eo=>refine (Kd.ck (e:=58) (base:=w.heap.size) (ok:=fun k_ =>True) (n:=t265.length) (c:=Xw) ?_).2.2;exact U1);(case fS=>exact (Kd.ck Cw.out).2.1);(case gG=>exact Kd.n9 _ _);(case oK=>exact Nat.le_refl _);(case oL=>exact Kd.n9 _ _);(case oM=>exact Nat.le_refl _);rintro e w11 ⟨rfl,hb⟩;have bB:=ah.mk (Kd.bP U0 hb);have bL:=ah.mk (Kd.bP U1 hb);have bY:=ah.mk (aM (g:=l6) (o:= .cells #[.int .u8 t256,.string t257,.bool t258,.slice Ao9 t259.length Z5,.string t262,.string t263,.bool t264,.slice abc t265.length Xw] 35 (0,0)) (by (with_reducible repeat (first|refine au ?_ _|refine aG ?_|refine az ?_ _));refine bw (cs:=#[.int .u8 t256,.string t257,.bool t258,.slice Ao9 t259.length Z5,.string t262,.string t263,.bool t264,.slice none 0 0]) ?_ 7 _ rfl;(with_reducible repeat (first|refine au ?_ _|refine aG ?_|refine az ?_ _));refine bw (cs:=#[.int .u8 t256,.string t257,.bool t258,.slice Ao9 t259.length Z5,.string t262,.string t263,.bool false,.slice none 0 0]) ?_ 6 _ rfl;(with_reducible repeat (first|refine au ?_ _|refine aG ?_|refine az ?_ _));refine bw (cs:=#[.int .u8 t256,.string t257,.bool t258,.slice Ao9 t259.length Z5,.string t262,.string (⟨#[]⟩:ByteArray),.bool false,.slice none 0 0]) ?_ 5 _ rfl;(with_reducible repeat (first|refine au ?_ _|refine aG ?_|refine az ?_ _));refine bw (cs:=#[.int .u8 t256,.string t257,.bool t258,.slice Ao9 t259.length Z5,.string (⟨#[]⟩:ByteArray),.string (⟨#[]⟩:ByteArray),.bool false,.slice none 0 0]) ?_ 4 _ rfl;(with_reducible repeat (first|refine au ?_ _|refine aG ?_|refine az ?_ _));refine bw (cs:=#[.int .u8 t256,.string t257,.bool t258,.slice none 0 0,.string (⟨#[]⟩:ByteArray),.string (⟨#[]⟩:ByteArray),.bool false,.slice none 0 0]) ?_ 3 _ rfl;(with_reducible repeat (first|refine au ?_ _|refine aG ?_|refine az ?_ _));refine bw (cs:=#[.int .u8 t256,.string t257,.bool false,.slice none 0 0,.string (⟨#[]⟩:ByteArray),.string (⟨#[]⟩:ByteArray),.bool false,.slice none 0 0]) ?_ 2 _ rfl;(with_reducible repeat (first|refine au ?_ _|refine aG ?_|refine az ?_ _));refine bw (cs:=#[.int .u8 t256,.string (⟨#[]⟩:ByteArray),.bool false,.slice none 0 0,.string (⟨#[]⟩:ByteArray),.string (⟨#[]⟩:ByteArray),.bool false,.slice none 0 0]) ?_ 1 _ rfl;(with_reducible repeat (first|refine au ?_ _|refine aG ?_|refine az ?_ _));refine bw (cs:=#[.int .u8 0,.string (⟨#[]⟩:ByteArray),.bool false,.slice none 0 0,.string (⟨#[]⟩:ByteArray),.string (⟨#[]⟩:ByteArray),.bool false,.slice none 0 0]) ?_ 0 _ rfl;(with_reducible repeat (first|refine au ?_ _|refine aG ?_|refine az ?_ _));exact ow.out) hb);have cK:=ah.mk (ay P4 hb);clear Cv;clear Cw;clear ow;clear HB;have Cv:=bB;have Cw:=bL;have ow:=bY;have HB:=cK;clear bB bL bY cK;(try clear hb);(try clear hb2);(try clear hk);(try clear hi)))
  go_ret
  exact ⟨cR,P4⟩
 ·rw [if_neg c4] at H
  exact absurd H bn
def bG.f (k:Nat) (a0:ByteArray) (gu:Int) (jm:ByteArray) (gA:Bool) (iU:List ByteArray) (gB:ByteArray) (jk:ByteArray) (jl:Bool) (ia:List (ij)):Option (Bool):=(ak.f k a0).bind fun qh=>(if qh.2.2.2.2.2.2.2.2=0 then ((aN.f k qh.1 qh.2.1 qh.2.2.1 qh.2.2.2.1 qh.2.2.2.2.1 qh.2.2.2.2.2.1 qh.2.2.2.2.2.2.1 qh.2.2.2.2.2.2.2.1 gu jm gA iU gB jk jl ia).bind fun MB=>(some MB)) else (none))
theorem bG.mono:∀ a0 a1 a2 a3 a4 a5 a6 a7 a8 k,cN (bG.f k a0 a1 a2 a3 a4 a5 a6 a7 a8) (bG.f (k + 1) a0 a1 a2 a3 a4 a5 a6 a7 a8):=by
 intro a0 a1 a2 a3 a4 a5 a6 a7 a8 k
 unfold bG.f
 repeat' first
  |(with_reducible exact ak.mono _ _)
  |(with_reducible exact aN.mono _ _ _ _ _ _ _ _ _ _ _ _ _ _ _ _ _)
  |(with_reducible exact cN.refl _)
  |(with_reducible exact cN.none _)
  |(with_reducible refine cN.ite ?_ ?_)
  |(with_reducible refine cN.bind ?_ (fun _ =>?_))
  |refine cN.ite ?_ ?_
  |refine cN.bind ?_ (fun _ =>?_)
set_option maxHeartbeats 8000000 in
set_option maxRecDepth 100000 in
theorem bG.calls (k:Nat) (a0:ByteArray) (gu:Int) (jm:ByteArray) (gA:Bool) (oF:Option Addr) (oG:Nat) (iU:List ByteArray) (gB:ByteArray) (jk:ByteArray) (jl:Bool) (oH:Option Addr) (oI:Nat) (ia:List (ij)) (r:Bool) (w:World) (LR:Kd.C Kd.string w oF iU.length iU) (LS:iU.length≤oG) (LU:Kd.C CF w oH ia.length ia) (LV:ia.length≤oI) (hG:aU w) (h:bG.f k a0 gu jm gA iU gB jk jl ia=some r):
 Calls Tryz.prog 16 #[.string a0,.agg #[.int .u8 gu,.string jm,.bool gA,.slice oF iU.length oG,.string gB,.string jk,.bool jl,.slice oH ia.length oI]] w fun e w'=>e= .returned (.bool r)∧Below w.heap.size w w':=by
 have LW:=Tryz.underlying35
 have CJ:=ah.mk LR
 have CK:=ah.mk LS
 clear LR LS
 have QI:=ah.mk LU
 have aag:=ah.mk LV
 clear LU LV
 have HB:=ah.mk (Below.refl w.heap.size w)
 have HG:=ah.mk hG
 clear hG
 have H:((ak.f k a0).bind fun qh=>(if qh.2.2.2.2.2.2.2.2=0 then ((aN.f k qh.1 qh.2.1 qh.2.2.1 qh.2.2.2.1 qh.2.2.2.2.1 qh.2.2.2.2.2.1 qh.2.2.2.2.2.2.1 qh.2.2.2.2.2.2.2.1 gu jm gA iU gB jk jl ia).bind fun MB=>(some MB)) else (none)))=some r:=h
 clear h
 replace H:=Option.bind_eq_some_iff.mp H
 obtain ⟨⟨BN,C9,E2,E3,Il,LA,NY,NZ,Wj⟩,zl,H⟩:=H
 replace H:(if Wj=0 then ((aN.f k BN C9 E2 E3 Il LA NY NZ gu jm gA iU gB jk jl ia).bind fun MB=>(some MB)) else (none))=some r:=H
 have A3:=ah.mk zl
 clear zl
 by_cases c4:Wj=0
 ·rw [if_pos c4] at H
  have o9:(Wj == 0)=true:=beq_iff_eq.mpr c4
  have GK:(Wj != 0)=false:=bne_eq_false_iff_eq.mpr c4
  clear c4
  replace H:=Option.bind_eq_some_iff.mp H
  obtain ⟨MB,Me,H⟩:=H
  replace H:(some MB)=some r:=H
  have A5:=ah.mk Me
  clear Me
  obtain rfl:=Option.some.inj H
  go_enter Tryz.func16,Tryz.ntmps16
  go_wp2_with (first|((with_reducible refine cC (N:=3) rfl ?_);refine b9 ?hg (N:=3) ?hd (cs:=#[.int .u8 gu,.string jm,.bool gA,.slice oF iU.length oG,.string gB,.string jk,.bool jl,.slice oH ia.length oI]) (t:=35) ?hr ?_;(case hd=>rfl);(case hg=>rfl);(case hr=>first|(go_simp;done)|(go_simp;rfl));intro rF hg w6 cJ hb;have bB:=ah.mk (ay bN hb);have bL:=ah.mk (cJ);have bY:=ah.mk ((dz:w.heap.size≤rF));have cK:=ah.mk ((dz:w.heap.size≤rF));clear HB;have HB:=bB;have nu:=bL;have ao6:=bY;have Ui:=cK;clear bB bL bY cK;clear hb cJ hg)|((with_reducible refine aQ (f:=35) rfl ?_);refine cu (some 9) rfl rfl Tryz.func35 av rfl #[.string a0] rfl cT ?_;(with_reducible refine (ak.calls k a0 BN C9 E2 E3 Il LA NY NZ Wj _ ?aX A3.out).mono ?_);(case aX=>exact aU.below HG.out EZ);rintro e w7 ⟨aqP,aqQ,rfl,ho0,kI,hb⟩;refine ⟨_,rfl,?_⟩;have bB:=ah.mk (Kd.eF ho0 (cE EZ));have bL:=ah.mk (Kd.eF kI (cE EZ));have bY:=ah.mk (aM (g:=rF) (o:= .cells #[.int .u8 gu,.string jm,.bool gA,.slice oF iU.length oG,.string gB,.string jk,.bool jl,.slice oH ia.length oI] 35 (0,0)) DM hb);have cK:=ah.mk (ay EZ hb);clear nu;clear HB;have Ct:=bB;have Cu:=bL;have nu:=bY;have HB:=cK;clear bB bL bY cK;(try clear hb);(try clear hb2);(try clear hk);(try clear hi);(try clear ho0);(try clear kI))|((with_reducible refine cC (N:=5) rfl ?_);refine b9 ?hg (N:=5) ?hd (cs:=#[.int .u8 0,.string (⟨#[]⟩:ByteArray),.bool false,.slice none 0 0,.string (⟨#[]⟩:ByteArray),.string (⟨#[]⟩:ByteArray),.bool false,.slice none 0 0]) (t:=35) ?hr ?_;(case hd=>rfl);(case hg=>rfl);(case hr=>first|(go_simp;done)|(go_simp;rfl));intro lD hg w8 cJ hb;have bB:=ah.mk (Kd.bP (by (with_reducible repeat (first|apply Kd.dR|apply Kd.dW|apply Kd.eW));exact Ct.out) hb);have bL:=ah.mk (Kd.bP (by (with_reducible repeat (first|apply Kd.dR|apply Kd.dW|apply Kd.eW));exact Cu.out) hb);have bY:=ah.mk (aM (g:=rF) (o:= .cells #[.int .u8 gu,.string jm,.bool gA,.slice oF iU.length oG,.string gB,.string jk,.bool jl,.slice oH ia.length oI] 35 (0,0)) DM hb);have cK:=ah.mk (ay EZ hb);have gY:=ah.mk (cJ);have jc:=ah.mk ((PW:w.heap.size≤lD));have nH:=ah.mk ((PW:w.heap.size≤lD));have zq:=ah.mk ((by rw [hg];exact Nat.ne_of_lt (iK (g:=rF) (o:= .cells #[.int .u8 gu,.string jm,.bool gA,.slice oF iU.length oG,.string gB,.string jk,.bool jl,.slice oH ia.length oI] 35 (0,0)) DM):rF≠lD));have Bo:=ah.mk ((by rw [hg];exact Nat.ne_of_gt (iK (g:=rF) (o:= .cells #[.int .u8 gu,.string jm,.bool gA,.slice oF iU.length oG,.string gB,.string jk,.bool jl,.slice oH ia.length oI] 35 (0,0)) DM):lD≠rF));clear Ct;clear Cu;clear nu;clear HB;have Ct:=bB;have Cu:=bL;have nu:=bY;have HB:=cK;have ou:=gY;have ao7:=jc;have adt:=nH;have nW:=zq;have Th:=Bo;clear bB bL bY cK gY jc nH zq Bo;clear hb cJ hg;have aqR:=Th.out;have aqS:=nW.out;have Kb:w8.cell? ⟨lD,0,none⟩=some (.int .u8 0):=(af ou.out 0).trans rfl;have Ke:w8.cell? ⟨lD,1,none⟩=some (.string (⟨#[]⟩:ByteArray)):=(af ou.out 1).trans rfl;have Kf:w8.cell? ⟨lD,2,none⟩=some (.bool false):=(af ou.out 2).trans rfl;have Zh:w8.cell? ⟨lD,3,none⟩=some (.slice none 0 0):=(af ou.out 3).trans rfl;have Zi:w8.cell? ⟨lD,4,none⟩=some (.string (⟨#[]⟩:ByteArray)):=(af ou.out 4).trans rfl;have ait:w8.cell? ⟨lD,5,none⟩=some (.string (⟨#[]⟩:ByteArray)):=(af ou.out 5).trans rfl;have aiu:w8.cell? ⟨lD,6,none⟩=some (.bool false):=(af ou.out 6).trans rfl;have aiv:w8.cell? ⟨lD,7,none⟩=some (.slice none 0 0):=(af ou.out 7).trans rfl;have Kg:=aa ou.out 0;have Kh:=aa ou.out 1;have Ki:=aa ou.out 2;have Zj:=aa ou.out 3;have Zk:=aa ou.out 4;have aiw:=aa ou.out 5;have aix:=aa ou.out 6;have aiy:=aa ou.out 7;obtain ⟨NW,Lz,amR⟩:=Kd.dn Ct.out;subst amR;obtain ⟨aa9,Xt,amS⟩:=Kd.dn Cu.out;subst amS;have qN:w8.cell? ⟨rF,0,none⟩=some (.int .u8 gu):=(af nu.out 0).trans rfl;have qO:w8.cell? ⟨rF,1,none⟩=some (.string jm):=(af nu.out 1).trans rfl;have vq:w8.cell? ⟨rF,2,none⟩=some (.bool gA):=(af nu.out 2).trans rfl;have D3:w8.cell? ⟨rF,3,none⟩=some (.slice oF iU.length oG):=(af nu.out 3).trans rfl;have D4:w8.cell? ⟨rF,4,none⟩=some (.string gB):=(af nu.out 4).trans rfl;have aiz:w8.cell? ⟨rF,5,none⟩=some (.string jk):=(af nu.out 5).trans rfl;have aiA:w8.cell? ⟨rF,6,none⟩=some (.bool jl):=(af nu.out 6).trans rfl;have aiB:w8.cell? ⟨rF,7,none⟩=some (.slice oH ia.length oI):=(af nu.out 7).trans rfl;have qP:=aa nu.out 0;have qQ:=aa nu.out 1;have vv:=aa nu.out 2;have D5:=aa nu.out 3;have D6:=aa nu.out 4;have aiC:=aa nu.out 5;have aiD:=aa nu.out 6;have aiE:=aa nu.out 7)|(go_at_call 36;(with_reducible refine (aN.calls k BN C9 E2 _ _ E3 Il LA NY _ _ NZ gu jm gA _ _ iU gB jk jl _ _ ia MB _ ?aX ?bT ?eo ?fS ?gG ?oK ?oL ?oM A5.out).mono ?_);(case aX=>refine (Kd.ck (e:=9) (base:=w.heap.size) (ok:=fun k_ =>True) (n:=E3.length) (c:=Lz) ?_).2.2;exact Uu);(case bT=>exact (Kd.ck Ct.out).2.1);(case eo=>refine (Kd.ck (e:=58) (base:=w.heap.size) (ok:=fun k_ =>True) (n:=NZ.length) (c:=Xt) ?_).2.2;exact Uv);(case fS=>exact (Kd.ck Cu.out).2.1);(case gG=>exact Kd.fy CJ.out DJ);(case oK=>exact CK.out);(case oL=>exact Kd.fy QI.out DJ);(case oM=>exact aag.out);rintro e Hh ⟨rfl,hb⟩;have bB:=ah.mk (Kd.bP Uu hb);have bL:=ah.mk (Kd.bP Uv hb);have bY:=ah.mk (aM (g:=rF) (o:= .cells #[.int .u8 gu,.string jm,.bool gA,.slice oF iU.length oG,.string gB,.string jk,.bool jl,.slice oH ia.length oI] 35 (0,0)) (by (with_reducible repeat (first|refine au ?_ _|refine aG ?_|refine az ?_ _));refine gL ?_ nW.out _;(with_reducible repeat (first|refine au ?_ _|refine aG ?_|refine az ?_ _));refine gL ?_ nW.out _;(with_reducible repeat (first|refine au ?_ _|refine aG ?_|refine az ?_ _));refine gL ?_ nW.out _;(with_reducible repeat (first|refine au ?_ _|refine aG ?_|refine az ?_ _));refine gL ?_ nW.out _;(with_reducible repeat (first|refine au ?_ _|refine aG ?_|refine az ?_ _));refine gL ?_ nW.out _;(with_reducible repeat (first|refine au ?_ _|refine aG ?_|refine az ?_ _));refine gL ?_ nW.out _;(with_reducible repeat (first|refine au ?_ _|refine aG ?_|refine az ?_ _));refine gL ?_ nW.out _;(with_reducible repeat (first|refine au ?_ _|refine aG ?_|refine az ?_ _));refine gL ?_ nW.out _;(with_reducible repeat (first|refine au ?_ _|refine aG ?_|refine az ?_ _));exact nu.out) hb);have cK:=ah.mk (aM (g:=lD) (o:= .cells #[.int .u8 BN,.string C9,.bool E2,.slice NW E3.length Lz,.string Il,.string LA,.bool NY,.slice aa9 NZ.length Xt] 35 (0,0)) (by (with_reducible repeat (first|refine au ?_ _|refine aG ?_|refine az ?_ _));refine bw (cs:=#[.int .u8 BN,.string C9,.bool E2,.slice NW E3.length Lz,.string Il,.string LA,.bool NY,.slice none 0 0]) ?_ 7 _ rfl;(with_reducible repeat (first|refine au ?_ _|refine aG ?_|refine az ?_ _));refine bw (cs:=#[.int .u8 BN,.string C9,.bool E2,.slice NW E3.length Lz,.string Il,.string LA,.bool false,.slice none 0 0]) ?_ 6 _ rfl;(with_reducible repeat (first|refine au ?_ _|refine aG ?_|refine az ?_ _));refine bw (cs:=#[.int .u8 BN,.string C9,.bool E2,.slice NW E3.length Lz,.string Il,.string (⟨#[]⟩:ByteArray),.bool false,.slice none 0 0]) ?_ 5 _ rfl;(with_reducible repeat (first|refine au ?_ _|refine aG ?_|refine az ?_ _));refine bw (cs:=#[.int .u8 BN,.string C9,.bool E2,.slice NW E3.length Lz,.string (⟨#[]⟩:ByteArray),.string (⟨#[]⟩:ByteArray),.bool false,.slice none 0 0]) ?_ 4 _ rfl;(with_reducible repeat (first|refine au ?_ _|refine aG ?_|refine az ?_ _));refine bw (cs:=#[.int .u8 BN,.string C9,.bool E2,.slice none 0 0,.string (⟨#[]⟩:ByteArray),.string (⟨#[]⟩:ByteArray),.bool false,.slice none 0 0]) ?_ 3 _ rfl;(with_reducible repeat (first|refine au ?_ _|refine aG ?_|refine az ?_ _));refine bw (cs:=#[.int .u8 BN,.string C9,.bool false,.slice none 0 0,.string (⟨#[]⟩:ByteArray),.string (⟨#[]⟩:ByteArray),.bool false,.slice none 0 0]) ?_ 2 _ rfl;(with_reducible repeat (first|refine au ?_ _|refine aG ?_|refine az ?_ _));refine bw (cs:=#[.int .u8 BN,.string (⟨#[]⟩:ByteArray),.bool false,.slice none 0 0,.string (⟨#[]⟩:ByteArray),.string (⟨#[]⟩:ByteArray),.bool false,.slice none 0 0]) ?_ 1 _ rfl;(with_reducible repeat (first|refine au ?_ _|refine aG ?_|refine az ?_ _));refine bw (cs:=#[.int .u8 0,.string (⟨#[]⟩:ByteArray),.bool false,.slice none 0 0,.string (⟨#[]⟩:ByteArray),.string (⟨#[]⟩:ByteArray),.bool false,.slice none 0 0]) ?_ 0 _ rfl;(with_reducible repeat (first|refine au ?_ _|refine aG ?_|refine az ?_ _));exact ou.out) hb);have gY:=ah.mk (ay DJ hb);clear Ct;clear Cu;clear nu;clear ou;clear HB;have Ct:=bB;have Cu:=bL;have nu:=bY;have ou:=cK;have HB:=gY;clear bB bL bY cK gY;(try clear hb);(try clear hb2);(try clear hk);(try clear hi)))
  go_ret
  exact ⟨cR,DJ⟩
 ·rw [if_neg c4] at H
  exact absurd H bn
def bz.l0:Nat→List ByteArray→Int→Int→Option (Bool)
 | 0,_,_,_ =>none
 |k + 1,x4,x5,x6=>if x6 < x5 then (if 0≤x6 then (if x6 < (x4.length:Int) then ((dU.f k (kB ByteArray.empty x4 x6) 161).bind fun Zl=>(if Zl=true then (bz.l0 k x4 x5 (wrap64 (x6 + 1))) else (none))) else (none)) else (none)) else ((dU.f k (⟨#[72,69,76,79,120]⟩:ByteArray) 160).bind fun Zm=>(if Zm=true then ((dU.f k (⟨#[]⟩:ByteArray) 160).bind fun MC=>(if MC=true then ((bG.f k (⟨#[109,97,105,108,32,102,114,111,109,58,60,65,64,66,46,99,62,32,115,105,122,101,61,57,32,66,79,68,89]⟩:ByteArray) 3 (⟨#[]⟩:ByteArray) false ([]:List ByteArray) (⟨#[65]⟩:ByteArray) (⟨#[98,46,99]⟩:ByteArray) false (([(⟨(⟨#[83,73,90,69]⟩:ByteArray),(⟨#[57]⟩:ByteArray),true⟩:ij),(⟨(⟨#[66,79,68,89]⟩:ByteArray),(⟨#[]⟩:ByteArray),false⟩:ij)]:List (ij)))).bind fun Bq=>(if Bq=true then ((bG.f k (⟨#[69,72,76,79,32,88,46,121]⟩:ByteArray) 2 (⟨#[120,46,121]⟩:ByteArray) false ([]:List ByteArray) (⟨#[]⟩:ByteArray) (⟨#[]⟩:ByteArray) false ([]:List (ij))).bind fun wR=>(if wR=true then ((bG.f k (⟨#[78,79,79,80]⟩:ByteArray) 9 (⟨#[]⟩:ByteArray) false ([]:List ByteArray) (⟨#[]⟩:ByteArray) (⟨#[]⟩:ByteArray) false ([]:List (ij))).bind fun sX=>(if sX=true then ((bG.f k (⟨#[78,79,79,80,32,97,32,32,98]⟩:ByteArray) 9 (⟨#[97,32,32,98]⟩:ByteArray) false ([]:List ByteArray) (⟨#[]⟩:ByteArray) (⟨#[]⟩:ByteArray) false ([]:List (ij))).bind fun rG=>(some rG)) else (none))) else (none))) else (none))) else (none))) else (none)))
def bz.f (k:Nat):Option (Bool):=(some (([(⟨#[78,79,79,80,32]⟩:ByteArray),(⟨#[77,65,73,76,32,70,82,79,77,58,32,60,62]⟩:ByteArray),(⟨#[68,65,84,65,32,120]⟩:ByteArray),(⟨#[82,67,80,84,32,84,79,58,60,62]⟩:ByteArray),(⟨#[77,65,73,76,32,70,82,79,77,58,60,112,111,115,116,109,97,115,116,101,114,62]⟩:ByteArray)]:List ByteArray):List ByteArray)).bind fun rU=>(bz.l0 k rU (rU.length:Int) 0)
theorem bz.gf:∀ k,(∀ y0 y1 y2,cN (bz.l0 k y0 y1 y2) (bz.l0 (k + 1) y0 y1 y2))
 | 0=>fun _ _ _ r h=>by simp [bz.l0] at h
 |k + 1=>by
  have oo:=bz.gf k
  ·intro y0 y1 y2
   unfold bz.l0
   repeat' first
   |(with_reducible exact oo _ _ _)
   |(with_reducible exact bG.mono _ _ _ _ _ _ _ _ _ _)
   |(with_reducible exact dU.mono _ _ _)
   |(with_reducible exact cN.refl _)
   |(with_reducible exact cN.none _)
   |(with_reducible refine cN.ite ?_ ?_)
   |(with_reducible refine cN.bind ?_ (fun _ =>?_))
   |refine cN.ite ?_ ?_
   |refine cN.bind ?_ (fun _ =>?_)
theorem bz.mono:∀ k,cN (bz.f k) (bz.f (k + 1)):=by
 intro k
 have oo:=bz.gf k
 unfold bz.f
 repeat' first
  |(with_reducible exact oo _ _ _)
  |(with_reducible exact bG.mono _ _ _ _ _ _ _ _ _ _)
  |(with_reducible exact dU.mono _ _ _)
  |(with_reducible exact cN.refl _)
  |(with_reducible exact cN.none _)
  |(with_reducible refine cN.ite ?_ ?_)
  |(with_reducible refine cN.bind ?_ (fun _ =>?_))
  |refine cN.ite ?_ ?_
  |refine cN.bind ?_ (fun _ =>?_)
set_option maxHeartbeats 8000000 in
set_option maxRecDepth 100000 in
theorem bz.calls (k:Nat) (r:Bool) (w:World) (hG:aU w) (h:bz.f k=some r):
 Calls Tryz.prog 15 #[] w fun e w'=>e= .returned (.bool r)∧Below w.heap.size w w':=by
 have LP:=Tryz.underlying30
 have Oi:=Tryz.underlying32
 have Vq:=Tryz.underlying58
 have LW:=Tryz.underlying35
 have HB:=ah.mk (Below.refl w.heap.size w)
 have HG:=ah.mk hG
 clear hG
 have H:((some (([(⟨#[78,79,79,80,32]⟩:ByteArray),(⟨#[77,65,73,76,32,70,82,79,77,58,32,60,62]⟩:ByteArray),(⟨#[68,65,84,65,32,120]⟩:ByteArray),(⟨#[82,67,80,84,32,84,79,58,60,62]⟩:ByteArray),(⟨#[77,65,73,76,32,70,82,79,77,58,60,112,111,115,116,109,97,115,116,101,114,62]⟩:ByteArray)]:List ByteArray):List ByteArray)).bind fun rU=>(bz.l0 k rU (rU.length:Int) 0))=some r:=h
 clear h
 obtain ⟨rU,MD⟩:∃ y_:List ByteArray,y_=(([(⟨#[78,79,79,80,32]⟩:ByteArray),(⟨#[77,65,73,76,32,70,82,79,77,58,32,60,62]⟩:ByteArray),(⟨#[68,65,84,65,32,120]⟩:ByteArray),(⟨#[82,67,80,84,32,84,79,58,60,62]⟩:ByteArray),(⟨#[77,65,73,76,32,70,82,79,77,58,60,112,111,115,116,109,97,115,116,101,114,62]⟩:ByteArray)]:List ByteArray)):=⟨_,rfl⟩
 replace H:(bz.l0 k rU (rU.length:Int) 0)=some r:=by first|(rw [MD];with_reducible exact H)|(have OL:=(Option.bind_some _ _).symm.trans H;rw [MD];with_reducible exact OL)|(have OL:=(Option.bind_some _ _).symm.trans H;with_reducible exact OL)|with_reducible exact H|(rw [MD];exact H)|exact H
 have aaA:=ah.mk MD
 clear MD
 have H':=ah.mk H
 clear H
 go_enter Tryz.func15,Tryz.ntmps15
 go_wp2_with (first|((with_reducible refine cC (N:=4) rfl ?_);(try (refine cO (by rfl) ?_;dsimp only));refine Kd.Z7 Kd.string _ 9 ?hg (N:=4) ?hd (xs:=([(⟨#[78,79,79,80,32]⟩:ByteArray),(⟨#[77,65,73,76,32,70,82,79,77,58,32,60,62]⟩:ByteArray),(⟨#[68,65,84,65,32,120]⟩:ByteArray),(⟨#[82,67,80,84,32,84,79,58,60,62]⟩:ByteArray),(⟨#[77,65,73,76,32,70,82,79,77,58,60,112,111,115,116,109,97,115,116,101,114,62]⟩:ByteArray)]:List ByteArray)) (inner:=[.string (⟨#[78,79,79,80,32]⟩:ByteArray),.string (⟨#[77,65,73,76,32,70,82,79,77,58,32,60,62]⟩:ByteArray),.string (⟨#[68,65,84,65,32,120]⟩:ByteArray),.string (⟨#[82,67,80,84,32,84,79,58,60,62]⟩:ByteArray),.string (⟨#[77,65,73,76,32,70,82,79,77,58,60,112,111,115,116,109,97,115,116,101,114,62]⟩:ByteArray)]) (ok:=fun _ =>True) (Oa:=fun _ =>True) ?hr ?hp (fun _ hk=>hk) trivial (Below.refl _ _) (Nat.le_refl _) bn ?_;(case hd=>rfl);(case hg=>rfl);(case hr=>first|(go_simp;done)|(go_simp;rfl));(case hp=>exact (iN.one (show Kd.M Kd.string _ _ _ (⟨#[78,79,79,80,32]⟩:ByteArray) [.string (⟨#[78,79,79,80,32]⟩:ByteArray)] from rfl) (iN.one (show Kd.M Kd.string _ _ _ (⟨#[77,65,73,76,32,70,82,79,77,58,32,60,62]⟩:ByteArray) [.string (⟨#[77,65,73,76,32,70,82,79,77,58,32,60,62]⟩:ByteArray)] from rfl) (iN.one (show Kd.M Kd.string _ _ _ (⟨#[68,65,84,65,32,120]⟩:ByteArray) [.string (⟨#[68,65,84,65,32,120]⟩:ByteArray)] from rfl) (iN.one (show Kd.M Kd.string _ _ _ (⟨#[82,67,80,84,32,84,79,58,60,62]⟩:ByteArray) [.string (⟨#[82,67,80,84,32,84,79,58,60,62]⟩:ByteArray)] from rfl) (iN.one (show Kd.M Kd.string _ _ _ (⟨#[77,65,73,76,32,70,82,79,77,58,60,112,111,115,116,109,97,115,116,101,114,62]⟩:ByteArray) [.string (⟨#[77,65,73,76,32,70,82,79,77,58,60,112,111,115,116,109,97,115,116,101,114,62]⟩:ByteArray)] from rfl) (iN.none _ _)))))));intro aqT w1 zf hb hg_ Wk;clear hg_ Wk;(first|rw [← aaA.out] at zf|(simp only [Int.reduceToNat] at zf;rw [← aaA.out] at zf));have bB:=ah.mk (Kd.eF zf (cE bN));have bL:=ah.mk (ay bN hb);clear HB;have aaB:=bB;have HB:=bL;clear bB bL;clear hb zf;obtain ⟨Ao3,co3,eo3⟩:=Kd.dn aaB.out;subst eo3))
 go_loopg [6] k (fun kq v6 w'=>∃ (nK:Int),v6= .int .i64 nK∧ah (bz.l0 kq rU (rU.length:Int) nK=some r)∧ah (kq≤k)∧ah (Kd.R Kd.string 9 w' w.heap.size (fun _ =>True) (.slice Ao3 rU.length co3) rU)∧ah (Below w.heap.size w w'))
 case atStart=>exact ⟨(0),ey,H',⟨Nat.le_refl _⟩,⟨by (with_reducible repeat (first|apply Kd.dR|apply Kd.dW|apply Kd.eW));exact aaB.out⟩,⟨bN⟩⟩
 case round=>
  clear H'
  try clear c1
  try clear p2
  obtain ⟨nK,rfl,HA,uX,uy,HB⟩:=hrel
  cases gk with
  |zero=>exact absurd HA.out (by simp [bz.l0])
  |succ k1=>
   have H:=HA.out
   clear HA
   simp only [bz.l0] at H
   by_cases c4:nK < (rU.length:Int)
   ·rw [if_pos c4] at H
    have o9:decide (nK < (rU.length:Int))=true:=decide_eq_true c4
    clear c4
    by_cases c5: 0≤nK
    ·rw [if_pos c5] at H
     have uB:decide (0≤nK)=true:=decide_eq_true c5
     clear c5
     by_cases c6:nK < (rU.length:Int)
     ·rw [if_pos c6] at H
      have pP:decide (nK < (rU.length:Int))=true:=decide_eq_true c6
      clear c6
      replace H:=Option.bind_eq_some_iff.mp H
      obtain ⟨Zl,Hg,H⟩:=H
      replace H:(if Zl=true then (bz.l0 k1 rU (rU.length:Int) (wrap64 (nK + 1))) else (none))=some r:=H
      have A7:=ah.mk Hg
      clear Hg
      by_cases c8:Zl=true
      ·subst c8
       have H1:(bz.l0 k1 rU (rU.length:Int) (wrap64 (nK + 1)))=some r:=by rw [if_pos rfl] at H;exact H
       clear H
       have H:=H1
       clear H1
       have H':=ah.mk H
       clear H
       have acm: 0≤(nK:Int):=of_decide_eq_true cW
       have acn:nK < (rU.length:Int):=of_decide_eq_true cW
       obtain ⟨ao8,amU,aiF⟩:=Kd.jA (Kd.ck uy.out).2.2 nK acm acn
       cases amU
       replace acm:=eq_true acm
       replace acn:=eq_true acn
       go_wp2_with (first|((with_reducible refine aQ (f:=14) rfl ?_);refine cu (some 11) rfl rfl Tryz.func14 av rfl #[.string (kB ByteArray.empty rU nK),.int .i64 161] rfl cT ?_;(with_reducible refine (dU.calls k1 (kB ByteArray.empty rU nK) 161 true _ ?aX A7.out).mono ?_);(case aX=>exact aU.below HG.out bN);rintro e w9 ⟨rfl,hb⟩;refine ⟨_,rfl,?_⟩;have bB:=ah.mk (Kd.bP uV hb);have bL:=ah.mk (ay bN hb);clear uy;clear HB;have uy:=bB;have HB:=bL;clear bB bL;(try clear hb);(try clear hb2);(try clear hk);(try clear hi)))
       go_roundg k1
       case measure=>have:=uX.out;omega
       case rel=>exact ⟨(wrap64 (nK + 1)),ey,H',⟨j6⟩,⟨uV⟩,⟨bN⟩⟩
      ·replace c8:=Bool.eq_false_iff.mpr c8
       subst c8
       have H1:(none)=some r:=by rw [if_neg (show ¬ (false=true) by decide)] at H;exact H
       clear H
       have H:=H1
       clear H1
       exact absurd H bn
     ·rw [if_neg c6] at H
      exact absurd H bn
    ·rw [if_neg c5] at H
     exact absurd H bn
   ·rw [if_neg c4] at H
    have o9:decide (nK < (rU.length:Int))=false:=decide_eq_false c4
    clear c4
    replace H:=Option.bind_eq_some_iff.mp H
    obtain ⟨Zm,OJ,H⟩:=H
    replace H:(if Zm=true then ((dU.f k1 (⟨#[]⟩:ByteArray) 160).bind fun MC=>(if MC=true then ((bG.f k1 (⟨#[109,97,105,108,32,102,114,111,109,58,60,65,64,66,46,99,62,32,115,105,122,101,61,57,32,66,79,68,89]⟩:ByteArray) 3 (⟨#[]⟩:ByteArray) false ([]:List ByteArray) (⟨#[65]⟩:ByteArray) (⟨#[98,46,99]⟩:ByteArray) false (([(⟨(⟨#[83,73,90,69]⟩:ByteArray),(⟨#[57]⟩:ByteArray),true⟩:ij),(⟨(⟨#[66,79,68,89]⟩:ByteArray),(⟨#[]⟩:ByteArray),false⟩:ij)]:List (ij)))).bind fun Bq=>(if Bq=true then ((bG.f k1 (⟨#[69,72,76,79,32,88,46,121]⟩:ByteArray) 2 (⟨#[120,46,121]⟩:ByteArray) false ([]:List ByteArray) (⟨#[]⟩:ByteArray) (⟨#[]⟩:ByteArray) false ([]:List (ij))).bind fun wR=>(if wR=true then ((bG.f k1 (⟨#[78,79,79,80]⟩:ByteArray) 9 (⟨#[]⟩:ByteArray) false ([]:List ByteArray) (⟨#[]⟩:ByteArray) (⟨#[]⟩:ByteArray) false ([]:List (ij))).bind fun sX=>(if sX=true then ((bG.f k1 (⟨#[78,79,79,80,32,97,32,32,98]⟩:ByteArray) 9 (⟨#[97,32,32,98]⟩:ByteArray) false ([]:List ByteArray) (⟨#[]⟩:ByteArray) (⟨#[]⟩:ByteArray) false ([]:List (ij))).bind fun rG=>(some rG)) else (none))) else (none))) else (none))) else (none))) else (none))=some r:=H
    have A10:=ah.mk OJ
    clear OJ
    by_cases c11:Zm=true
    ·subst c11
     have H1:((dU.f k1 (⟨#[]⟩:ByteArray) 160).bind fun MC=>(if MC=true then ((bG.f k1 (⟨#[109,97,105,108,32,102,114,111,109,58,60,65,64,66,46,99,62,32,115,105,122,101,61,57,32,66,79,68,89]⟩:ByteArray) 3 (⟨#[]⟩:ByteArray) false ([]:List ByteArray) (⟨#[65]⟩:ByteArray) (⟨#[98,46,99]⟩:ByteArray) false (([(⟨(⟨#[83,73,90,69]⟩:ByteArray),(⟨#[57]⟩:ByteArray),true⟩:ij),(⟨(⟨#[66,79,68,89]⟩:ByteArray),(⟨#[]⟩:ByteArray),false⟩:ij)]:List (ij)))).bind fun Bq=>(if Bq=true then ((bG.f k1 (⟨#[69,72,76,79,32,88,46,121]⟩:ByteArray) 2 (⟨#[120,46,121]⟩:ByteArray) false ([]:List ByteArray) (⟨#[]⟩:ByteArray) (⟨#[]⟩:ByteArray) false ([]:List (ij))).bind fun wR=>(if wR=true then ((bG.f k1 (⟨#[78,79,79,80]⟩:ByteArray) 9 (⟨#[]⟩:ByteArray) false ([]:List ByteArray) (⟨#[]⟩:ByteArray) (⟨#[]⟩:ByteArray) false ([]:List (ij))).bind fun sX=>(if sX=true then ((bG.f k1 (⟨#[78,79,79,80,32,97,32,32,98]⟩:ByteArray) 9 (⟨#[97,32,32,98]⟩:ByteArray) false ([]:List ByteArray) (⟨#[]⟩:ByteArray) (⟨#[]⟩:ByteArray) false ([]:List (ij))).bind fun rG=>(some rG)) else (none))) else (none))) else (none))) else (none)))=some r:=by rw [if_pos rfl] at H;exact H
     clear H
     have H:=H1
     clear H1
     replace H:=Option.bind_eq_some_iff.mp H
     obtain ⟨MC,FI,H⟩:=H
     replace H:(if MC=true then ((bG.f k1 (⟨#[109,97,105,108,32,102,114,111,109,58,60,65,64,66,46,99,62,32,115,105,122,101,61,57,32,66,79,68,89]⟩:ByteArray) 3 (⟨#[]⟩:ByteArray) false ([]:List ByteArray) (⟨#[65]⟩:ByteArray) (⟨#[98,46,99]⟩:ByteArray) false (([(⟨(⟨#[83,73,90,69]⟩:ByteArray),(⟨#[57]⟩:ByteArray),true⟩:ij),(⟨(⟨#[66,79,68,89]⟩:ByteArray),(⟨#[]⟩:ByteArray),false⟩:ij)]:List (ij)))).bind fun Bq=>(if Bq=true then ((bG.f k1 (⟨#[69,72,76,79,32,88,46,121]⟩:ByteArray) 2 (⟨#[120,46,121]⟩:ByteArray) false ([]:List ByteArray) (⟨#[]⟩:ByteArray) (⟨#[]⟩:ByteArray) false ([]:List (ij))).bind fun wR=>(if wR=true then ((bG.f k1 (⟨#[78,79,79,80]⟩:ByteArray) 9 (⟨#[]⟩:ByteArray) false ([]:List ByteArray) (⟨#[]⟩:ByteArray) (⟨#[]⟩:ByteArray) false ([]:List (ij))).bind fun sX=>(if sX=true then ((bG.f k1 (⟨#[78,79,79,80,32,97,32,32,98]⟩:ByteArray) 9 (⟨#[97,32,32,98]⟩:ByteArray) false ([]:List ByteArray) (⟨#[]⟩:ByteArray) (⟨#[]⟩:ByteArray) false ([]:List (ij))).bind fun rG=>(some rG)) else (none))) else (none))) else (none))) else (none))=some r:=H
     have Lp:=ah.mk FI
     clear FI
     by_cases c13:MC=true
     ·subst c13
      have H1:((bG.f k1 (⟨#[109,97,105,108,32,102,114,111,109,58,60,65,64,66,46,99,62,32,115,105,122,101,61,57,32,66,79,68,89]⟩:ByteArray) 3 (⟨#[]⟩:ByteArray) false ([]:List ByteArray) (⟨#[65]⟩:ByteArray) (⟨#[98,46,99]⟩:ByteArray) false (([(⟨(⟨#[83,73,90,69]⟩:ByteArray),(⟨#[57]⟩:ByteArray),true⟩:ij),(⟨(⟨#[66,79,68,89]⟩:ByteArray),(⟨#[]⟩:ByteArray),false⟩:ij)]:List (ij)))).bind fun Bq=>(if Bq=true then ((bG.f k1 (⟨#[69,72,76,79,32,88,46,121]⟩:ByteArray) 2 (⟨#[120,46,121]⟩:ByteArray) false ([]:List ByteArray) (⟨#[]⟩:ByteArray) (⟨#[]⟩:ByteArray) false ([]:List (ij))).bind fun wR=>(if wR=true then ((bG.f k1 (⟨#[78,79,79,80]⟩:ByteArray) 9 (⟨#[]⟩:ByteArray) false ([]:List ByteArray) (⟨#[]⟩:ByteArray) (⟨#[]⟩:ByteArray) false ([]:List (ij))).bind fun sX=>(if sX=true then ((bG.f k1 (⟨#[78,79,79,80,32,97,32,32,98]⟩:ByteArray) 9 (⟨#[97,32,32,98]⟩:ByteArray) false ([]:List ByteArray) (⟨#[]⟩:ByteArray) (⟨#[]⟩:ByteArray) false ([]:List (ij))).bind fun rG=>(some rG)) else (none))) else (none))) else (none)))=some r:=by rw [if_pos rfl] at H;exact H
      clear H
      have H:=H1
      clear H1
      obtain ⟨aeP,ME⟩:∃ y_:List (ij),y_=(([(⟨(⟨#[83,73,90,69]⟩:ByteArray),(⟨#[57]⟩:ByteArray),true⟩:ij),(⟨(⟨#[66,79,68,89]⟩:ByteArray),(⟨#[]⟩:ByteArray),false⟩:ij)]:List (ij))):=⟨_,rfl⟩
      replace H:((bG.f k1 (⟨#[109,97,105,108,32,102,114,111,109,58,60,65,64,66,46,99,62,32,115,105,122,101,61,57,32,66,79,68,89]⟩:ByteArray) 3 (⟨#[]⟩:ByteArray) false ([]:List ByteArray) (⟨#[65]⟩:ByteArray) (⟨#[98,46,99]⟩:ByteArray) false aeP).bind fun Bq=>(if Bq=true then ((bG.f k1 (⟨#[69,72,76,79,32,88,46,121]⟩:ByteArray) 2 (⟨#[120,46,121]⟩:ByteArray) false ([]:List ByteArray) (⟨#[]⟩:ByteArray) (⟨#[]⟩:ByteArray) false ([]:List (ij))).bind fun wR=>(if wR=true then ((bG.f k1 (⟨#[78,79,79,80]⟩:ByteArray) 9 (⟨#[]⟩:ByteArray) false ([]:List ByteArray) (⟨#[]⟩:ByteArray) (⟨#[]⟩:ByteArray) false ([]:List (ij))).bind fun sX=>(if sX=true then ((bG.f k1 (⟨#[78,79,79,80,32,97,32,32,98]⟩:ByteArray) 9 (⟨#[97,32,32,98]⟩:ByteArray) false ([]:List ByteArray) (⟨#[]⟩:ByteArray) (⟨#[]⟩:ByteArray) false ([]:List (ij))).bind fun rG=>(some rG)) else (none))) else (none))) else (none)))=some r:=by first|(rw [ME];with_reducible exact H)|(have OL:=(Option.bind_some _ _).symm.trans H;rw [ME];with_reducible exact OL)|(have OL:=(Option.bind_some _ _).symm.trans H;with_reducible exact OL)|with_reducible exact H|(rw [ME];exact H)|exact H
      have aaC:=ah.mk ME
      clear ME
      replace H:=Option.bind_eq_some_iff.mp H
      obtain ⟨Bq,Bi,H⟩:=H
      replace H:(if Bq=true then ((bG.f k1 (⟨#[69,72,76,79,32,88,46,121]⟩:ByteArray) 2 (⟨#[120,46,121]⟩:ByteArray) false ([]:List ByteArray) (⟨#[]⟩:ByteArray) (⟨#[]⟩:ByteArray) false ([]:List (ij))).bind fun wR=>(if wR=true then ((bG.f k1 (⟨#[78,79,79,80]⟩:ByteArray) 9 (⟨#[]⟩:ByteArray) false ([]:List ByteArray) (⟨#[]⟩:ByteArray) (⟨#[]⟩:ByteArray) false ([]:List (ij))).bind fun sX=>(if sX=true then ((bG.f k1 (⟨#[78,79,79,80,32,97,32,32,98]⟩:ByteArray) 9 (⟨#[97,32,32,98]⟩:ByteArray) false ([]:List ByteArray) (⟨#[]⟩:ByteArray) (⟨#[]⟩:ByteArray) false ([]:List (ij))).bind fun rG=>(some rG)) else (none))) else (none))) else (none))=some r:=H
      have Vy:=ah.mk Bi
      clear Bi
      by_cases c15:Bq=true
      ·subst c15
       have H1:((bG.f k1 (⟨#[69,72,76,79,32,88,46,121]⟩:ByteArray) 2 (⟨#[120,46,121]⟩:ByteArray) false ([]:List ByteArray) (⟨#[]⟩:ByteArray) (⟨#[]⟩:ByteArray) false ([]:List (ij))).bind fun wR=>(if wR=true then ((bG.f k1 (⟨#[78,79,79,80]⟩:ByteArray) 9 (⟨#[]⟩:ByteArray) false ([]:List ByteArray) (⟨#[]⟩:ByteArray) (⟨#[]⟩:ByteArray) false ([]:List (ij))).bind fun sX=>(if sX=true then ((bG.f k1 (⟨#[78,79,79,80,32,97,32,32,98]⟩:ByteArray) 9 (⟨#[97,32,32,98]⟩:ByteArray) false ([]:List ByteArray) (⟨#[]⟩:ByteArray) (⟨#[]⟩:ByteArray) false ([]:List (ij))).bind fun rG=>(some rG)) else (none))) else (none)))=some r:=by rw [if_pos rfl] at H;exact H
       clear H
       have H:=H1
       clear H1
       replace H:=Option.bind_eq_some_iff.mp H
       obtain ⟨wR,Mx,H⟩:=H
       replace H:(if wR=true then ((bG.f k1 (⟨#[78,79,79,80]⟩:ByteArray) 9 (⟨#[]⟩:ByteArray) false ([]:List ByteArray) (⟨#[]⟩:ByteArray) (⟨#[]⟩:ByteArray) false ([]:List (ij))).bind fun sX=>(if sX=true then ((bG.f k1 (⟨#[78,79,79,80,32,97,32,32,98]⟩:ByteArray) 9 (⟨#[97,32,32,98]⟩:ByteArray) false ([]:List ByteArray) (⟨#[]⟩:ByteArray) (⟨#[]⟩:ByteArray) false ([]:List (ij))).bind fun rG=>(some rG)) else (none))) else (none))=some r:=H
       have A16:=ah.mk Mx
       clear Mx
       by_cases c17:wR=true
       ·subst c17
        have H1:((bG.f k1 (⟨#[78,79,79,80]⟩:ByteArray) 9 (⟨#[]⟩:ByteArray) false ([]:List ByteArray) (⟨#[]⟩:ByteArray) (⟨#[]⟩:ByteArray) false ([]:List (ij))).bind fun sX=>(if sX=true then ((bG.f k1 (⟨#[78,79,79,80,32,97,32,32,98]⟩:ByteArray) 9 (⟨#[97,32,32,98]⟩:ByteArray) false ([]:List ByteArray) (⟨#[]⟩:ByteArray) (⟨#[]⟩:ByteArray) false ([]:List (ij))).bind fun rG=>(some rG)) else (none)))=some r:=by rw [if_pos rfl] at H;exact H
        clear H
        have H:=H1
        clear H1
        replace H:=Option.bind_eq_some_iff.mp H
        obtain ⟨sX,VN,H⟩:=H
        replace H:(if sX=true then ((bG.f k1 (⟨#[78,79,79,80,32,97,32,32,98]⟩:ByteArray) 9 (⟨#[97,32,32,98]⟩:ByteArray) false ([]:List ByteArray) (⟨#[]⟩:ByteArray) (⟨#[]⟩:ByteArray) false ([]:List (ij))).bind fun rG=>(some rG)) else (none))=some r:=H
        have A18:=ah.mk VN
        clear VN
        by_cases c19:sX=true
        ·subst c19
         have H1:((bG.f k1 (⟨#[78,79,79,80,32,97,32,32,98]⟩:ByteArray) 9 (⟨#[97,32,32,98]⟩:ByteArray) false ([]:List ByteArray) (⟨#[]⟩:ByteArray) (⟨#[]⟩:ByteArray) false ([]:List (ij))).bind fun rG=>(some rG))=some r:=by rw [if_pos rfl] at H;exact H
         clear H
         have H:=H1
         clear H1
         replace H:=Option.bind_eq_some_iff.mp H
         obtain ⟨rG,Wc,H⟩:=H
         replace H:(some rG)=some r:=H
         have nU:=ah.mk Wc
         clear Wc
         obtain rfl:=Option.some.inj H
         go_wp2_with (first|((with_reducible refine cC (N:=3) rfl ?_);(try (refine cO (by rfl) ?_;dsimp only));refine b9 ?hg (N:=3) ?hd (cs:=#[.bool false,.slice none 0 0,.string (⟨#[]⟩:ByteArray),.string (⟨#[]⟩:ByteArray),.bool false]) (t:=32) ?hr ?_;(case hd=>rfl);(case hg=>rfl);(case hr=>first|(go_simp;done)|(go_simp;rfl));intro nB hg w21 cJ hb;have bB:=ah.mk (Kd.bP uV hb);have bL:=ah.mk (ay bN hb);have bY:=ah.mk (cJ);have cK:=ah.mk ((dz:w.heap.size≤nB));have gY:=ah.mk ((dz:w.heap.size≤nB));clear uy;clear HB;have uy:=bB;have HB:=bL;have jX:=bY;have ao9:=cK;have ado:=gY;clear bB bL bY cK gY;clear hb cJ hg;have yx:w21.cell? ⟨nB,0,none⟩=some (.bool false):=(af jX.out 0).trans rfl;have yz:w21.cell? ⟨nB,1,none⟩=some (.slice none 0 0):=(af jX.out 1).trans rfl;have AP:w21.cell? ⟨nB,2,none⟩=some (.string (⟨#[]⟩:ByteArray)):=(af jX.out 2).trans rfl;have JH:w21.cell? ⟨nB,3,none⟩=some (.string (⟨#[]⟩:ByteArray)):=(af jX.out 3).trans rfl;have JI:w21.cell? ⟨nB,4,none⟩=some (.bool false):=(af jX.out 4).trans rfl;have yA:=aa jX.out 0;have yB:=aa jX.out 1;have AQ:=aa jX.out 2;have JJ:=aa jX.out 3;have JK:=aa jX.out 4)|((with_reducible refine aQ (f:=14) rfl ?_);refine cu (some 16) rfl rfl Tryz.func14 av rfl #[.string (⟨#[72,69,76,79,120]⟩:ByteArray),.int .i64 160] rfl cT ?_;(with_reducible refine (dU.calls k1 (⟨#[72,69,76,79,120]⟩:ByteArray) 160 true _ ?aX A10.out).mono ?_);(case aX=>exact aU.below HG.out oY);rintro e Mo ⟨rfl,hb⟩;refine ⟨_,rfl,?_⟩;have bB:=ah.mk (Kd.bP (by (with_reducible repeat (first|apply Kd.dR|apply Kd.dW|apply Kd.eW));exact (Kd.ez (Kd.aY (p:=⟨nB,4,none⟩) (Kd.aY (p:=⟨nB,3,none⟩) (Kd.aY (p:=⟨nB,2,none⟩) (Kd.aY (p:=⟨nB,1,none⟩) (Kd.aY (p:=⟨nB,0,none⟩) (Kd.fG uy.out jX.out bU) (fun _ hk=>hk.2) (.bool false)) (fun _ hk=>hk.2) (.slice none 0 0)) (fun _ hk=>hk.2) (.string (⟨#[65]⟩:ByteArray))) (fun _ hk=>hk.2) (.string (⟨#[98,46,99]⟩:ByteArray))) (fun _ hk=>hk.2) (.bool false)) (fun _ h_ =>h_.1))) hb);have bL:=ah.mk (aM (g:=nB) (o:= .cells #[.bool false,.slice none 0 0,.string (⟨#[65]⟩:ByteArray),.string (⟨#[98,46,99]⟩:ByteArray),.bool false] 32 (0,0)) (by (with_reducible repeat (first|refine au ?_ _|refine aG ?_|refine az ?_ _));refine bw (cs:=#[.bool false,.slice none 0 0,.string (⟨#[65]⟩:ByteArray),.string (⟨#[98,46,99]⟩:ByteArray),.bool false]) ?_ 4 _ rfl;(with_reducible repeat (first|refine au ?_ _|refine aG ?_|refine az ?_ _));refine bw (cs:=#[.bool false,.slice none 0 0,.string (⟨#[65]⟩:ByteArray),.string (⟨#[]⟩:ByteArray),.bool false]) ?_ 3 _ rfl;(with_reducible repeat (first|refine au ?_ _|refine aG ?_|refine az ?_ _));refine bw (cs:=#[.bool false,.slice none 0 0,.string (⟨#[]⟩:ByteArray),.string (⟨#[]⟩:ByteArray),.bool false]) ?_ 2 _ rfl;(with_reducible repeat (first|refine au ?_ _|refine aG ?_|refine az ?_ _));refine bw (cs:=#[.bool false,.slice none 0 0,.string (⟨#[]⟩:ByteArray),.string (⟨#[]⟩:ByteArray),.bool false]) ?_ 1 _ rfl;(with_reducible repeat (first|refine au ?_ _|refine aG ?_|refine az ?_ _));refine bw (cs:=#[.bool false,.slice none 0 0,.string (⟨#[]⟩:ByteArray),.string (⟨#[]⟩:ByteArray),.bool false]) ?_ 0 _ rfl;(with_reducible repeat (first|refine au ?_ _|refine aG ?_|refine az ?_ _));exact jX.out) hb);have bY:=ah.mk (ay oY hb);clear uy;clear jX;clear HB;have uy:=bB;have jX:=bL;have HB:=bY;clear bB bL bY;(try clear hb);(try clear hb2);(try clear hk);(try clear hi))|(go_at_call 14;(with_reducible refine (dU.calls k1 (⟨#[]⟩:ByteArray) 160 true _ ?aX Lp.out).mono ?_);(case aX=>exact aU.below HG.out oY);rintro e KW ⟨rfl,hb⟩;have bB:=ah.mk (Kd.bP uV hb);have bL:=ah.mk (aM (g:=nB) (o:= .cells #[.bool false,.slice none 0 0,.string (⟨#[65]⟩:ByteArray),.string (⟨#[98,46,99]⟩:ByteArray),.bool false] 32 (0,0)) xR hb);have bY:=ah.mk (ay oY hb);clear uy;clear jX;clear HB;have uy:=bB;have jX:=bL;have HB:=bY;clear bB bL bY;(try clear hb);(try clear hb2);(try clear hk);(try clear hi);have ud:KW.cell? ⟨nB,0,none⟩=some (.bool false):=(af jX.out 0).trans rfl;have ue:KW.cell? ⟨nB,1,none⟩=some (.slice none 0 0):=(af jX.out 1).trans rfl;have uf:KW.cell? ⟨nB,2,none⟩=some (.string (⟨#[65]⟩:ByteArray)):=(af jX.out 2).trans rfl;have yC:KW.cell? ⟨nB,3,none⟩=some (.string (⟨#[98,46,99]⟩:ByteArray)):=(af jX.out 3).trans rfl;have yD:KW.cell? ⟨nB,4,none⟩=some (.bool false):=(af jX.out 4).trans rfl;have ug:=aa jX.out 0;have uh:=aa jX.out 1;have uj:=aa jX.out 2;have yE:=aa jX.out 3;have yF:=aa jX.out 4)|((with_reducible refine cC (N:=24) rfl ?_);(try (refine cO (by rfl) ?_;dsimp only));refine Kd.Z7 CF _ 58 ?hg (N:=24) ?hd (xs:=([(⟨(⟨#[83,73,90,69]⟩:ByteArray),(⟨#[57]⟩:ByteArray),true⟩:ij),(⟨(⟨#[66,79,68,89]⟩:ByteArray),(⟨#[]⟩:ByteArray),false⟩:ij)]:List (ij))) (inner:=[.string (⟨#[83,73,90,69]⟩:ByteArray),.string (⟨#[57]⟩:ByteArray),.bool true,.string (⟨#[66,79,68,89]⟩:ByteArray),.string (⟨#[]⟩:ByteArray),.bool false]) (ok:=fun _ =>True) (Oa:=fun _ =>True) ?hr ?hp (fun _ hk=>hk) trivial (Below.refl _ _) (Nat.le_refl _) bn ?_;(case hd=>rfl);(case hg=>rfl);(case hr=>first|(go_simp;done)|(go_simp;rfl));(case hp=>exact (iN.c3 (show Kd.M CF _ _ _ (⟨(⟨#[83,73,90,69]⟩:ByteArray),(⟨#[57]⟩:ByteArray),true⟩:ij) [.string (⟨#[83,73,90,69]⟩:ByteArray),.string (⟨#[57]⟩:ByteArray),.bool true] from (I0 _ _ _ (⟨(⟨#[83,73,90,69]⟩:ByteArray),(⟨#[57]⟩:ByteArray),true⟩:ij))) (iN.c3 (show Kd.M CF _ _ _ (⟨(⟨#[66,79,68,89]⟩:ByteArray),(⟨#[]⟩:ByteArray),false⟩:ij) [.string (⟨#[66,79,68,89]⟩:ByteArray),.string (⟨#[]⟩:ByteArray),.bool false] from (I0 _ _ _ (⟨(⟨#[66,79,68,89]⟩:ByteArray),(⟨#[]⟩:ByteArray),false⟩:ij))) (iN.none _ _))));intro aqX zK Wl hb hg_ Wk;clear hg_ Wk;(first|rw [← aaC.out] at Wl|(simp only [Int.reduceToNat] at Wl;rw [← aaC.out] at Wl));have bB:=ah.mk (Kd.bP uV hb);have bL:=ah.mk (Kd.eF Wl (cE oY));have bY:=ah.mk (aM (g:=nB) (o:= .cells #[.bool false,.slice none 0 0,.string (⟨#[65]⟩:ByteArray),.string (⟨#[98,46,99]⟩:ByteArray),.bool false] 32 (0,0)) xR hb);have cK:=ah.mk (ay oY hb);clear uy;clear jX;clear HB;have uy:=bB;have wJ:=bL;have jX:=bY;have HB:=cK;clear bB bL bY cK;clear hb Wl;obtain ⟨aqY,aqZ,amV⟩:=Kd.dn wJ.out;subst amV)|(go_at_call 16;guard_target=Calls _ _ #[.string (⟨#[109,97,105,108,32,102,114,111,109,58,60,65,64,66,46,99,62,32,115,105,122,101,61,57,32,66,79,68,89]⟩:ByteArray),_] _ _;(refine (bG.calls k1 (⟨#[109,97,105,108,32,102,114,111,109,58,60,65,64,66,46,99,62,32,115,105,122,101,61,57,32,66,79,68,89]⟩:ByteArray) 3 (⟨#[]⟩:ByteArray) false _ _ ([]:List ByteArray) (⟨#[65]⟩:ByteArray) (⟨#[98,46,99]⟩:ByteArray) false _ _ aeP true _ ?aX ?bT ?eo ?fS ?gG Vy.out).mono ?_);(case aX=>exact Kd.n9 _ _);(case bT=>exact Nat.le_refl _);(case eo=>repeat (first|exact (Kd.ck wJ.out).2.2|(with_reducible refine Kd.eJ ?_ _)|(with_reducible refine Kd.eK ?_ _)|(with_reducible refine Kd.fR ?_)));(case fS=>exact (Kd.ck wJ.out).2.1);(case gG=>exact aU.below HG.out oY);rintro e w29 ⟨rfl,hb⟩;have bB:=ah.mk (Kd.bP uV hb);have bL:=ah.mk (Kd.bP DR hb);have bY:=ah.mk (aM (g:=nB) (o:= .cells #[.bool false,.slice none 0 0,.string (⟨#[65]⟩:ByteArray),.string (⟨#[98,46,99]⟩:ByteArray),.bool false] 32 (0,0)) xR hb);have cK:=ah.mk (ay oY hb);clear uy;clear wJ;clear jX;clear HB;have uy:=bB;have wJ:=bL;have jX:=bY;have HB:=cK;clear bB bL bY cK;(try clear hb);(try clear hb2);(try clear hk);(try clear hi))|(go_at_call 16;guard_target=Calls _ _ #[.string (⟨#[69,72,76,79,32,88,46,121]⟩:ByteArray),_] _ _;(refine (bG.calls k1 (⟨#[69,72,76,79,32,88,46,121]⟩:ByteArray) 2 (⟨#[120,46,121]⟩:ByteArray) false _ _ ([]:List ByteArray) (⟨#[]⟩:ByteArray) (⟨#[]⟩:ByteArray) false _ _ ([]:List (ij)) true _ ?aX ?bT ?eo ?fS ?gG A16.out).mono ?_);(case aX=>exact Kd.n9 _ _);(case bT=>exact Nat.le_refl _);(case eo=>exact Kd.n9 _ _);(case fS=>exact Nat.le_refl _);(case gG=>exact aU.below HG.out oY);rintro e w30 ⟨rfl,hb⟩;have bB:=ah.mk (Kd.bP uV hb);have bL:=ah.mk (Kd.bP DR hb);have bY:=ah.mk (aM (g:=nB) (o:= .cells #[.bool false,.slice none 0 0,.string (⟨#[65]⟩:ByteArray),.string (⟨#[98,46,99]⟩:ByteArray),.bool false] 32 (0,0)) xR hb);have cK:=ah.mk (ay oY hb);clear uy;clear wJ;clear jX;clear HB;have uy:=bB;have wJ:=bL;have jX:=bY;have HB:=cK;clear bB bL bY cK;(try clear hb);(try clear hb2);(try clear hk);(try clear hi))|(go_at_call 16;guard_target=Calls _ _ #[.string (⟨#[78,79,79,80]⟩:ByteArray),_] _ _;(refine (bG.calls k1 (⟨#[78,79,79,80]⟩:ByteArray) 9 (⟨#[]⟩:ByteArray) false _ _ ([]:List ByteArray) (⟨#[]⟩:ByteArray) (⟨#[]⟩:ByteArray) false _ _ ([]:List (ij)) true _ ?aX ?bT ?eo ?fS ?gG A18.out).mono ?_);(case aX=>exact Kd.n9 _ _);(case bT=>exact Nat.le_refl _);(case eo=>exact Kd.n9 _ _);(case fS=>exact Nat.le_refl _);(case gG=>exact aU.below HG.out oY);rintro e w31 ⟨rfl,hb⟩;have bB:=ah.mk (Kd.bP uV hb);have bL:=ah.mk (Kd.bP DR hb);have bY:=ah.mk (aM (g:=nB) (o:= .cells #[.bool false,.slice none 0 0,.string (⟨#[65]⟩:ByteArray),.string (⟨#[98,46,99]⟩:ByteArray),.bool false] 32 (0,0)) xR hb);have cK:=ah.mk (ay oY hb);clear uy;clear wJ;clear jX;clear HB;have uy:=bB;have wJ:=bL;have jX:=bY;have HB:=cK;clear bB bL bY cK;(try clear hb);(try clear hb2);(try clear hk);(try clear hi))|(go_at_call 16;guard_target=Calls _ _ #[.string (⟨#[78,79,79,80,32,97,32,32,98]⟩:ByteArray),_] _ _;(refine (bG.calls k1 (⟨#[78,79,79,80,32,97,32,32,98]⟩:ByteArray) 9 (⟨#[97,32,32,98]⟩:ByteArray) false _ _ ([]:List ByteArray) (⟨#[]⟩:ByteArray) (⟨#[]⟩:ByteArray) false _ _ ([]:List (ij)) rG _ ?aX ?bT ?eo ?fS ?gG nU.out).mono ?_);(case aX=>exact Kd.n9 _ _);(case bT=>exact Nat.le_refl _);(case eo=>exact Kd.n9 _ _);(case fS=>exact Nat.le_refl _);(case gG=>exact aU.below HG.out oY);rintro e EJ ⟨rfl,hb⟩;have bB:=ah.mk (Kd.bP uV hb);have bL:=ah.mk (Kd.bP DR hb);have bY:=ah.mk (aM (g:=nB) (o:= .cells #[.bool false,.slice none 0 0,.string (⟨#[65]⟩:ByteArray),.string (⟨#[98,46,99]⟩:ByteArray),.bool false] 32 (0,0)) xR hb);have cK:=ah.mk (ay oY hb);clear uy;clear wJ;clear jX;clear HB;have uy:=bB;have wJ:=bL;have jX:=bY;have HB:=cK;clear bB bL bY cK;(try clear hb);(try clear hb2);(try clear hk);(try clear hi)))
         go_ret
         exact ⟨cR,oY⟩
        ·replace c19:=Bool.eq_false_iff.mpr c19
         subst c19
         have H1:(none)=some r:=by rw [if_neg (show ¬ (false=true) by decide)] at H;exact H
         clear H
         have H:=H1
         clear H1
         exact absurd H bn
       ·replace c17:=Bool.eq_false_iff.mpr c17
        subst c17
        have H1:(none)=some r:=by rw [if_neg (show ¬ (false=true) by decide)] at H;exact H
        clear H
        have H:=H1
        clear H1
        exact absurd H bn
      ·replace c15:=Bool.eq_false_iff.mpr c15
       subst c15
       have H1:(none)=some r:=by rw [if_neg (show ¬ (false=true) by decide)] at H;exact H
       clear H
       have H:=H1
       clear H1
       exact absurd H bn
     ·replace c13:=Bool.eq_false_iff.mpr c13
      subst c13
      have H1:(none)=some r:=by rw [if_neg (show ¬ (false=true) by decide)] at H;exact H
      clear H
      have H:=H1
      clear H1
      exact absurd H bn
    ·replace c11:=Bool.eq_false_iff.mpr c11
     subst c11
     have H1:(none)=some r:=by rw [if_neg (show ¬ (false=true) by decide)] at H;exact H
     clear H
     have H:=H1
     clear H1
     exact absurd H bn
def lC.f (k:Nat) (a0:ByteArray):Option (Bool):=(fE.f k a0).bind fun Ti=>(if Ti=true then ((cH.f a0).bind fun GM=>(some (GM.toList == a0.toList))) else (some false))
set_option maxHeartbeats 8000000 in
set_option maxRecDepth 100000 in
theorem lC.calls (k:Nat) (a0:ByteArray) (r:Bool) (w:World) (hG:aU w) (h:lC.f k a0=some r):
 Calls Tryz.prog 65 #[.string a0] w fun e w'=>e= .returned (.bool r)∧Below w.heap.size w w':=by
 have HB:=ah.mk (Below.refl w.heap.size w)
 have HG:=ah.mk hG
 clear hG
 have H:((fE.f k a0).bind fun Ti=>(if Ti=true then ((cH.f a0).bind fun GM=>(some (GM.toList == a0.toList))) else (some false)))=some r:=h
 clear h
 replace H:=Option.bind_eq_some_iff.mp H
 obtain ⟨Ti,nU,H⟩:=H
 replace H:(if Ti=true then ((cH.f a0).bind fun GM=>(some (GM.toList == a0.toList))) else (some false))=some r:=H
 have A2:=ah.mk nU
 clear nU
 by_cases c3:Ti=true
 ·subst c3
  have H1:((cH.f a0).bind fun GM=>(some (GM.toList == a0.toList)))=some r:=by rw [if_pos rfl] at H;exact H
  clear H
  have H:=H1
  clear H1
  replace H:=Option.bind_eq_some_iff.mp H
  obtain ⟨GM,Bg,H⟩:=H
  replace H:(some (GM.toList == a0.toList))=some r:=H
  have A4:=ah.mk Bg
  clear Bg
  obtain rfl:=Option.some.inj H
  go_enter Tryz.func65,Tryz.ntmps65
  go_wp2_with (first|((with_reducible refine aQ (f:=25) rfl ?_);refine cu (some 4) rfl rfl Tryz.func25 av rfl #[.string a0] rfl cT ?_;(with_reducible refine (fE.calls k a0 true _ ?aX A2.out).mono ?_);(case aX=>exact aU.below HG.out bN);rintro e w5 ⟨rfl,hb⟩;refine ⟨_,rfl,?_⟩;have bB:=ah.mk (ay bN hb);clear HB;have HB:=bB;clear bB;(try clear hb);(try clear hb2);(try clear hk);(try clear hi))|(go_at_call 81;(with_reducible refine (cH.calls a0 GM _ A4.out).mono ?_);rintro e w6 ⟨rfl,hb⟩;have bB:=ah.mk (ay bN hb);clear HB;have HB:=bB;clear bB;(try clear hb);(try clear hb2);(try clear hk);(try clear hi)))
  go_ret
  exact ⟨cR,bN⟩
 ·replace c3:=Bool.eq_false_iff.mpr c3
  subst c3
  have H1:(some false)=some r:=by rw [if_neg (show ¬ (false=true) by decide)] at H;exact H
  clear H
  have H:=H1
  clear H1
  obtain rfl:=Option.some.inj H
  go_enter Tryz.func65,Tryz.ntmps65
  go_wp2_with (first|((with_reducible refine aQ (f:=25) rfl ?_);refine cu (some 4) rfl rfl Tryz.func25 av rfl #[.string a0] rfl cT ?_;(with_reducible refine (fE.calls k a0 false _ ?aX A2.out).mono ?_);(case aX=>exact aU.below HG.out bN);rintro e w7 ⟨rfl,hb⟩;refine ⟨_,rfl,?_⟩;have bB:=ah.mk (ay bN hb);clear HB;have HB:=bB;clear bB;(try clear hb);(try clear hb2);(try clear hk);(try clear hi)))
  go_ret
  exact ⟨cR,bN⟩
end Go.Proofs.YtokpnfljjjjikaaGreatDoor.pJ
