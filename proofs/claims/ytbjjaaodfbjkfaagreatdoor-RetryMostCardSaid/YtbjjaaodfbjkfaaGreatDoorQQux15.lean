import Derived.Test.YtbjjaaodfbjkfaaGreatDoorQQux14
import Derived.Test.YtbjjaaodfbjkfaaGreatDoorESettled
set_option maxHeartbeats 8000000
set_option maxRecDepth 100000
namespace Go.Proofs.YtbjjaaodfbjkfaaGreatDoor.qb
open Go.RowKit Go.Proofs.YtbjjaaodfbjkfaaGreatDoor.xI Go.Proofs.aj.bQ Go.Proofs.aj.dX Go.Proofs.aj.dJ
attribute [local go_sem] jT jU lF lG iX iY jV jW
set_option linter.unusedVariables false
set_option linter.unusedSimpArgs false
def cg.j0:Nat→List Int→Int→Int→Int→Int→Bool→Int→Bool→List ByteArray→ByteArray→ByteArray→Bool→List (iN)→List Int→Int→Option (Int×Int×Int×Int×Int×Bool×List ByteArray×ByteArray×ByteArray×Bool×(List (iN))×List Int×Int×Int)
 | 0,_,_,_,_,_,_,_,_,_,_,_,_,_,_,_ =>none
 |k + 1,x0,x1,x3,x4,x5,x43,xO,arq,ars,art,aru,arv,Mb,arw,Vo=>if x43=true then (some (0,0,0,0,0,false,([]:List ByteArray),(⟨#[]⟩:ByteArray),(⟨#[]⟩:ByteArray),false,([]:List (iN)),([]:List Int),0,2)) else (if x4=1 then (some (3,xO,x3,0,0,false,([]:List ByteArray),(⟨#[]⟩:ByteArray),(⟨#[]⟩:ByteArray),false,([]:List (iN)),([]:List Int),0,0)) else (if x4=2 then (some (4,xO,x3,0,0,false,([]:List ByteArray),(⟨#[]⟩:ByteArray),(⟨#[]⟩:ByteArray),false,([]:List (iN)),([]:List Int),0,0)) else (if x4=3 then (if (wrap64 (x5 - Vo)) < x1 then (if x5 < 1099511627776 then (if 0≤x3 then (if x3 < (Mb.length:Int) then ((dK.f k x0 (wrap64 (((bg Mb x3).f2) + 1)) x5).bind fun t291=>(some (2,xO,x3,t291,0,false,([]:List ByteArray),(⟨#[]⟩:ByteArray),(⟨#[]⟩:ByteArray),false,([]:List (iN)),([]:List Int),0,0))) else (none)) else (none)) else (some (4,xO,x3,0,0,false,([]:List ByteArray),(⟨#[]⟩:ByteArray),(⟨#[]⟩:ByteArray),false,([]:List (iN)),([]:List Int),0,0))) else (some (4,xO,x3,0,0,false,([]:List ByteArray),(⟨#[]⟩:ByteArray),(⟨#[]⟩:ByteArray),false,([]:List (iN)),([]:List Int),0,0))) else (some (0,0,0,0,0,false,([]:List ByteArray),(⟨#[]⟩:ByteArray),(⟨#[]⟩:ByteArray),false,([]:List (iN)),([]:List Int),0,2)))))
def cg.f (k:Nat) (l0:List Int) (a1:Int) (eZ:Int) (oF:Bool) (ni:List ByteArray) (oG:ByteArray) (oH:ByteArray) (oI:Bool) (jX:List (iN)) (nj:List Int) (nS:Int) (a3:Int) (a4:Int) (a5:Int):Option (Int×Int×Int×Int×Int×Bool×List ByteArray×ByteArray×ByteArray×Bool×(List (iN))×List Int×Int×Int):=(dw.f k l0 a1).bind fun t286=>(if t286=true then (if a3 < 0 then (cg.j0 k l0 a1 a3 a4 a5 true eZ oF ni oG oH oI jX nj nS) else (if a3≥(jX.length:Int) then (cg.j0 k l0 a1 a3 a4 a5 true eZ oF ni oG oH oI jX nj nS) else (if 0≤a3 then (if a3 < (jX.length:Int) then (if ((bg jX a3).f1)=0 then ((fZ.f a5 0).bind fun t288=>(cg.j0 k l0 a1 a3 a4 a5 (!t288) eZ oF ni oG oH oI jX nj nS)) else (cg.j0 k l0 a1 a3 a4 a5 true eZ oF ni oG oH oI jX nj nS)) else (none)) else (none)))) else (cg.j0 k l0 a1 a3 a4 a5 true eZ oF ni oG oH oI jX nj nS))
theorem cg.ij:∀ k,(∀ y0 y1 y2 y3 y4 y5 y6 y7 y8 y9 y10 y11 y12 y13 y14,gB (cg.j0 k y0 y1 y2 y3 y4 y5 y6 y7 y8 y9 y10 y11 y12 y13 y14) (cg.j0 (k + 1) y0 y1 y2 y3 y4 y5 y6 y7 y8 y9 y10 y11 y12 y13 y14))
 | 0=>fun _ _ _ _ _ _ _ _ _ _ _ _ _ _ _ r h=>by simp [cg.j0] at h
 |k + 1=>by
  have sG:=cg.ij k
  ·intro y0 y1 y2 y3 y4 y5 y6 y7 y8 y9 y10 y11 y12 y13 y14
   unfold cg.j0
   repeat' (with_reducible first|exact dK.mono _ _ _ _|exact gB.refl _|refine gB.ite ?_ ?_|refine gB.bind ?_ (fun _ =>?_))
theorem cg.mono:∀ a0 a1 a2 a3 a4 a5 a6 a7 a8 a9 a10 a11 a12 a13 k,gB (cg.f k a0 a1 a2 a3 a4 a5 a6 a7 a8 a9 a10 a11 a12 a13) (cg.f (k + 1) a0 a1 a2 a3 a4 a5 a6 a7 a8 a9 a10 a11 a12 a13):=by
 intro a0 a1 a2 a3 a4 a5 a6 a7 a8 a9 a10 a11 a12 a13 k
 have sG:=cg.ij k
 unfold cg.f
 repeat' (with_reducible first|exact sG _ _ _ _ _ _ _ _ _ _ _ _ _ _ _|exact dw.mono _ _ _|exact gB.refl _|refine gB.ite ?_ ?_|refine gB.bind ?_ (fun _ =>?_))
theorem cg.calls (k:Nat) (A0:Option Addr) (c0:Nat) (l0:List Int) (a1:Int) (eZ:Int) (oF:Bool) (uQ:Option Addr) (uR:Nat) (ni:List ByteArray) (oG:ByteArray) (oH:ByteArray) (oI:Bool) (wu:Option Addr) (uS:Nat) (jX:List (iN)) (uT:Option Addr) (uU:Nat) (nj:List Int) (nS:Int) (a3:Int) (a4:Int) (a5:Int) (r1:Int) (r2:Int) (r3:Int) (r4:Int) (r5:Int) (r6:Bool) (r7:List ByteArray) (r8:ByteArray) (r9:ByteArray) (r10:Bool) (r11:List (iN)) (r12:List Int) (r13:Int) (r14:Int) (w:World) (lN:Kd.C (Kd.int .i64) w A0 l0.length l0) (hc0:l0.length≤c0) (abn:Kd.C Kd.string w uQ ni.length ni) (abo:ni.length≤uR) (abp:Kd.C mV w wu jX.length jX) (abq:jX.length≤uS) (abr:Kd.C (Kd.int .u8) w uT nj.length nj) (abt:nj.length≤uU) (h:cg.f k l0 a1 eZ oF ni oG oH oI jX nj nS a3 a4 a5=some (r1,r2,r3,r4,r5,r6,r7,r8,r9,r10,r11,r12,r13,r14)):
 Calls Tryz.prog 18 #[.slice A0 l0.length c0,.int .i64 a1,.agg #[.int .i64 eZ,.bool oF,.slice uQ ni.length uR,.string oG,.string oH,.bool oI,.slice wu jX.length uS,.slice uT nj.length uU,.int .i64 nS],.int .i64 a3,.int .u8 a4,.int .i64 a5] w fun e w'=>∃ Pf ahf ahg:Value,e= .returned (.tuple #[.agg #[.int .u8 r1,.int .i64 r2,.int .i64 r3,.int .i64 r4,.int .i64 r5,.bool r6,Pf,.string r8,.string r9,.bool r10,ahf,ahg,.int .i64 r13],.int .i64 r14])∧Kd.R Kd.string 9 w' w.heap.size (fun _ =>True) Pf r7∧Kd.R mV 37 w' w.heap.size (fun _ =>True) ahf r11∧Kd.R (Kd.int .u8) 5 w' w.heap.size (fun _ =>True) ahg r12∧Below w.heap.size w w':=by
 have Dg:=Tryz.underlying34
 have adE:=Tryz.underlying46
 have nr:=ah.mk lN
 have sU:=ah.mk hc0
 clear lN hc0
 have aFg:=ah.mk abn
 have aFh:=ah.mk abo
 clear abn abo
 have Rb:=ah.mk abp
 have aFi:=ah.mk abq
 clear abp abq
 have aFj:=ah.mk abr
 have aFk:=ah.mk abt
 clear abr abt
 have HB:=ah.mk (Below.refl w.heap.size w)
 have H:((dw.f k l0 a1).bind fun t286=>(if t286=true then (if a3 < 0 then (cg.j0 k l0 a1 a3 a4 a5 true eZ oF ni oG oH oI jX nj nS) else (if a3≥(jX.length:Int) then (cg.j0 k l0 a1 a3 a4 a5 true eZ oF ni oG oH oI jX nj nS) else (if 0≤a3 then (if a3 < (jX.length:Int) then (if ((bg jX a3).f1)=0 then ((fZ.f a5 0).bind fun t288=>(cg.j0 k l0 a1 a3 a4 a5 (!t288) eZ oF ni oG oH oI jX nj nS)) else (cg.j0 k l0 a1 a3 a4 a5 true eZ oF ni oG oH oI jX nj nS)) else (none)) else (none)))) else (cg.j0 k l0 a1 a3 a4 a5 true eZ oF ni oG oH oI jX nj nS)))=some (r1,r2,r3,r4,r5,r6,r7,r8,r9,r10,r11,r12,r13,r14):=h
 clear h
 have HC7:=ah.mk H
 clear H
 go_enter Tryz.func18,Tryz.ntmps18
 go_upto_region 1 with (first|((with_reducible refine bI (N:=8) rfl ?_);(try (refine bT (by rfl) ?_;dsimp only));refine bR ?hg (N:=8) ?hd (cs:=#[.int .i64 eZ,.bool oF,.slice uQ ni.length uR,.string oG,.string oH,.bool oI,.slice wu jX.length uS,.slice uT nj.length uU,.int .i64 nS]) (t:=34) ?hr ?_;(case hd=>rfl);(case hg=>rfl);(case hr=>(go_simp;done));intro cz hg w8 b9 hb;have bw:=ah.mk (b9);have aFl:=ah.mk ((bZ:w.heap.size≤cz));have aFm:=ah.mk ((bZ:w.heap.size≤cz));replace HB:=ah.mk (aA aD hb);clear hb b9 hg)|((with_reducible refine bI (N:=12) rfl ?_);(try (refine bT (by rfl) ?_;dsimp only));refine bR ?hg (N:=12) ?hd (cs:=#[.int .u8 0,.int .i64 0,.int .i64 0,.int .i64 0,.int .i64 0,.bool false,.slice none 0 0,.string (⟨#[]⟩:ByteArray),.string (⟨#[]⟩:ByteArray),.bool false,.slice none 0 0,.slice none 0 0,.int .i64 0]) (t:=46) ?hr ?_;(case hd=>rfl);(case hg=>rfl);(case hr=>(go_simp;done));intro cG hg w9 b9 hb;have bH:=ah.mk (b9);have aFn:=ah.mk ((bZ:w.heap.size≤cG));have aa0:=ah.mk ((bZ:w.heap.size≤cG));replace HB:=ah.mk (aA aD hb);have lQ:=ah.mk ((wN:cz≠cG));have lR:=ah.mk ((wO:cG≠cz));replace bw:=ah.mk (aC wQ hb);clear hb b9 hg))
 go_cut [43] (fun v43 wc=>∃ (kq:Nat) (Mc:Bool),v43= .bool Mc∧ah (cg.j0 kq l0 a1 a3 a4 a5 Mc eZ oF ni oG oH oI jX nj nS=some (r1,r2,r3,r4,r5,r6,r7,r8,r9,r10,r11,r12,r13,r14))∧ah (kq≤k)∧ah (wc.heap[cz]? =some (.cells #[.int .i64 eZ,.bool oF,(.slice uQ ni.length uR),.string oG,.string oH,.bool oI,(.slice wu jX.length uS),(.slice uT nj.length uU),.int .i64 nS] 34 (0,0)))∧ah (wc.heap[cG]? =some (.cells #[.int .u8 0,.int .i64 0,.int .i64 0,.int .i64 0,.int .i64 0,.bool false,(.slice none 0 0),.string (⟨#[]⟩:ByteArray),.string (⟨#[]⟩:ByteArray),.bool false,(.slice none 0 0),(.slice none 0 0),.int .i64 0] 46 (0,0)))∧ah (Below w.heap.size w wc))
 case first=>
  have H:=HC7.out
  clear HC7
  obtain ⟨t286,Re,H⟩:=bd_ H
  by_cases c11:t286=true
  ·subst c11
   rw [if_pos rfl] at H
   by_cases c12:a3 < 0
   ·rw [if_pos c12] at H
    have CC:=decide_eq_true c12
    clear c12
    have H':=ah.mk H
    clear H
    go_wp2_with (((with_reducible refine bq (f:=42) rfl ?_);refine cK (some 17) rfl rfl Tryz.func42 aR rfl #[.slice A0 l0.length c0,.int .i64 a1] rfl dc ?_;(with_reducible refine (dw.calls k _ _ l0 a1 true _ ?aX ?bF Re.out).mono ?_);(case aX=>repeat (exact (Kd.bG nr.out HB.out)));(case bF=>exact sU.out);rintro e w' ⟨rfl,⟨nd,rfl⟩⟩;refine ⟨_,rfl,?_⟩))
    go_meet
    case rel=>exact ⟨_,(true),(by rfl),H',⟨ay⟩,⟨AX⟩,⟨AY⟩,⟨dG⟩⟩
   ·rw [if_neg c12] at H
    have CC:=decide_eq_false c12
    clear c12
    by_cases c13:a3≥(jX.length:Int)
    ·rw [if_pos c13] at H
     have CD:decide ((jX.length:Int)≤a3)=true:=decide_eq_true c13
     clear c13
     have H':=ah.mk H
     clear H
     go_wp2_with (((with_reducible refine bq (f:=42) rfl ?_);refine cK (some 17) rfl rfl Tryz.func42 aR rfl #[.slice A0 l0.length c0,.int .i64 a1] rfl dc ?_;(with_reducible refine (dw.calls k _ _ l0 a1 true _ ?aX ?bF Re.out).mono ?_);(case aX=>repeat (exact (Kd.bG nr.out HB.out)));(case bF=>exact sU.out);rintro e w' ⟨rfl,⟨nd,rfl⟩⟩;refine ⟨_,rfl,?_⟩;have aFo:=lQ.out;have aFp:=lR.out;have Vp:w9.cell? ⟨cz,0,none⟩=some (.int .i64 eZ):=(af bw.out 0).trans rfl;have Vq:w9.cell? ⟨cz,1,none⟩=some (.bool oF):=(af bw.out 1).trans rfl;have Vr:w9.cell? ⟨cz,2,none⟩=some (.slice uQ ni.length uR):=(af bw.out 2).trans rfl;have Vs:w9.cell? ⟨cz,3,none⟩=some (.string oG):=(af bw.out 3).trans rfl;have Vt:w9.cell? ⟨cz,4,none⟩=some (.string oH):=(af bw.out 4).trans rfl;have Vu:w9.cell? ⟨cz,5,none⟩=some (.bool oI):=(af bw.out 5).trans rfl;have Vv:w9.cell? ⟨cz,6,none⟩=some (.slice wu jX.length uS):=(af bw.out 6).trans rfl;have Vw:w9.cell? ⟨cz,7,none⟩=some (.slice uT nj.length uU):=(af bw.out 7).trans rfl;have Vx:w9.cell? ⟨cz,8,none⟩=some (.int .i64 nS):=(af bw.out 8).trans rfl;have Vy:=aa bw.out 0;have Vz:=aa bw.out 1;have VA:=aa bw.out 2;have VB:=aa bw.out 3;have VC:=aa bw.out 4;have VD:=aa bw.out 5;have VE:=aa bw.out 6;have VF:=aa bw.out 7;have VG:=aa bw.out 8))
     go_meet
     case rel=>exact ⟨_,(true),(by rfl),H',⟨ay⟩,⟨AX⟩,⟨AY⟩,⟨dG⟩⟩
    ·rw [if_neg c13] at H
     have CD:decide ((jX.length:Int)≤a3)=false:=decide_eq_false c13
     clear c13
     obtain ⟨c16,H⟩:=ld H
     have abu:=decide_eq_true c16
     clear c16
     obtain ⟨c17,H⟩:=ld H
     have ahh:=decide_eq_true c17
     clear c17
     by_cases c18:((bg jX a3).f1)=0
     ·rw [if_pos c18] at H
      have abv:=beq_iff_eq.mpr c18
      have abw:=bne_eq_false_iff_eq.mpr c18
      clear c18
      obtain ⟨t288,A19,H⟩:=bd_ H
      have H':=ah.mk H
      clear H
      go_wp2_with (first|((with_reducible refine bq (f:=42) rfl ?_);refine cK (some 17) rfl rfl Tryz.func42 aR rfl #[.slice A0 l0.length c0,.int .i64 a1] rfl dc ?_;(with_reducible refine (dw.calls k _ _ l0 a1 true _ ?aX ?bF Re.out).mono ?_);(case aX=>repeat (exact (Kd.bG nr.out HB.out)));(case bF=>exact sU.out);rintro e w' ⟨rfl,⟨nd,rfl⟩⟩;refine ⟨_,rfl,?_⟩;have aFq:=lQ.out;have aFr:=lR.out;have VH:w9.cell? ⟨cz,0,none⟩=some (.int .i64 eZ):=(af bw.out 0).trans rfl;have VI:w9.cell? ⟨cz,1,none⟩=some (.bool oF):=(af bw.out 1).trans rfl;have VJ:w9.cell? ⟨cz,2,none⟩=some (.slice uQ ni.length uR):=(af bw.out 2).trans rfl;have VK:w9.cell? ⟨cz,3,none⟩=some (.string oG):=(af bw.out 3).trans rfl;have VL:w9.cell? ⟨cz,4,none⟩=some (.string oH):=(af bw.out 4).trans rfl;have arC:w9.cell? ⟨cz,5,none⟩=some (.bool oI):=(af bw.out 5).trans rfl;have arD:w9.cell? ⟨cz,6,none⟩=some (.slice wu jX.length uS):=(af bw.out 6).trans rfl;have arE:w9.cell? ⟨cz,7,none⟩=some (.slice uT nj.length uU):=(af bw.out 7).trans rfl;have arF:w9.cell? ⟨cz,8,none⟩=some (.int .i64 nS):=(af bw.out 8).trans rfl;have VM:=aa bw.out 0;have VN:=aa bw.out 1;have VO:=aa bw.out 2;have VP:=aa bw.out 3;have VQ:=aa bw.out 4;have arG:=aa bw.out 5;have arH:=aa bw.out 6;have arI:=aa bw.out 7;have arJ:=aa bw.out 8;have JH: 0≤(a3:Int):=of_decide_eq_true cP;have JI:a3 < (jX.length:Int):=of_decide_eq_true cP;obtain ⟨ahi,e287,tI,tJ,tK,tL,tM,tN⟩:=uO Rb.out a3 JH JI;cases e287;replace tI:=(HB.out.cell (World.block_lt_of_cell? w _ tI)).trans tI;replace tJ:=(HB.out.cell (World.block_lt_of_cell? w _ tJ)).trans tJ;replace tK:=(HB.out.cell (World.block_lt_of_cell? w _ tK)).trans tK;replace tL:=(HB.out.cell (World.block_lt_of_cell? w _ tL)).trans tL;replace tM:=(HB.out.cell (World.block_lt_of_cell? w _ tM)).trans tM;replace tN:=(HB.out.cell (World.block_lt_of_cell? w _ tN)).trans tN;replace JH:=eq_true JH;replace JI:=eq_true JI)|(go_at_call 60;(with_reducible refine (fZ.calls a5 0 t288 _ A19.out).mono ?_);rintro e w' ⟨rfl,⟨nd,rfl⟩⟩))
      go_meet
      case rel=>exact ⟨_,(!t288),(by rfl),H',⟨ay⟩,⟨AX⟩,⟨AY⟩,⟨dG⟩⟩
     ·rw [if_neg c18] at H
      have abv:=beq_eq_false_iff_ne.mpr c18
      have abw:=bne_iff_ne.mpr c18
      have H':=ah.mk H
      clear H
      go_wp2_with (((with_reducible refine bq (f:=42) rfl ?_);refine cK (some 17) rfl rfl Tryz.func42 aR rfl #[.slice A0 l0.length c0,.int .i64 a1] rfl dc ?_;(with_reducible refine (dw.calls k _ _ l0 a1 true _ ?aX ?bF Re.out).mono ?_);(case aX=>repeat (exact (Kd.bG nr.out HB.out)));(case bF=>exact sU.out);rintro e w' ⟨rfl,⟨nd,rfl⟩⟩;refine ⟨_,rfl,?_⟩;have aFs:=lQ.out;have aFt:=lR.out;have Md:w9.cell? ⟨cz,0,none⟩=some (.int .i64 eZ):=(af bw.out 0).trans rfl;have Me:w9.cell? ⟨cz,1,none⟩=some (.bool oF):=(af bw.out 1).trans rfl;have Mf:w9.cell? ⟨cz,2,none⟩=some (.slice uQ ni.length uR):=(af bw.out 2).trans rfl;have Mg:w9.cell? ⟨cz,3,none⟩=some (.string oG):=(af bw.out 3).trans rfl;have Mh:w9.cell? ⟨cz,4,none⟩=some (.string oH):=(af bw.out 4).trans rfl;have VR:w9.cell? ⟨cz,5,none⟩=some (.bool oI):=(af bw.out 5).trans rfl;have VS:w9.cell? ⟨cz,6,none⟩=some (.slice wu jX.length uS):=(af bw.out 6).trans rfl;have VT:w9.cell? ⟨cz,7,none⟩=some (.slice uT nj.length uU):=(af bw.out 7).trans rfl;have VU:w9.cell? ⟨cz,8,none⟩=some (.int .i64 nS):=(af bw.out 8).trans rfl;have Mi:=aa bw.out 0;have Mj:=aa bw.out 1;have Mk:=aa bw.out 2;have Mm:=aa bw.out 3;have Mn:=aa bw.out 4;have VV:=aa bw.out 5;have VW:=aa bw.out 6;have VX:=aa bw.out 7;have VY:=aa bw.out 8;have JH: 0≤(a3:Int):=of_decide_eq_true cP;have JI:a3 < (jX.length:Int):=of_decide_eq_true cP;obtain ⟨ahi,e287,tI,tJ,tK,tL,tM,tN⟩:=uO Rb.out a3 JH JI;cases e287;replace tI:=(HB.out.cell (World.block_lt_of_cell? w _ tI)).trans tI;replace tJ:=(HB.out.cell (World.block_lt_of_cell? w _ tJ)).trans tJ;replace tK:=(HB.out.cell (World.block_lt_of_cell? w _ tK)).trans tK;replace tL:=(HB.out.cell (World.block_lt_of_cell? w _ tL)).trans tL;replace tM:=(HB.out.cell (World.block_lt_of_cell? w _ tM)).trans tM;replace tN:=(HB.out.cell (World.block_lt_of_cell? w _ tN)).trans tN;replace JH:=eq_true JH;replace JI:=eq_true JI))
      go_meet
      case rel=>exact ⟨_,(true),(by rfl),H',⟨ay⟩,⟨AX⟩,⟨AY⟩,⟨dG⟩⟩
  ·replace c11:=Bool.eq_false_iff.mpr c11
   subst c11
   rw [if_neg (show ¬ (false=true) by decide)] at H
   have H':=ah.mk H
   clear H
   go_wp2_with (((with_reducible refine bq (f:=42) rfl ?_);refine cK (some 17) rfl rfl Tryz.func42 aR rfl #[.slice A0 l0.length c0,.int .i64 a1] rfl dc ?_;(with_reducible refine (dw.calls k _ _ l0 a1 false _ ?aX ?bF Re.out).mono ?_);(case aX=>repeat (exact (Kd.bG nr.out HB.out)));(case bF=>exact sU.out);rintro e w' ⟨rfl,⟨nd,rfl⟩⟩;refine ⟨_,rfl,?_⟩))
   go_meet
   case rel=>exact ⟨_,(true),(by rfl),H',⟨ay⟩,⟨AX⟩,⟨AY⟩,⟨dG⟩⟩
 case rest=>
  clear HC7
  obtain ⟨kq,Mc,rfl,HA,HJ6,bw,bH,HB⟩:=hcut
  cases kq with
  |zero=>exact absurd HA.out (by simp [cg.j0])
  |succ kj6=>
   have H:=HA.out
   clear HA
   simp only [cg.j0] at H
   by_cases c24:Mc=true
   ·subst c24
    rw [if_pos rfl] at H
    simp only [Option.some.injEq,Prod.mk.injEq] at H
    obtain ⟨rfl,rfl,rfl,rfl,rfl,rfl,rfl,rfl,rfl,rfl,rfl,rfl,rfl,rfl⟩:=H
    have aFu:=lR.out
    have aFv:=lQ.out
    have VZ:wc.cell? ⟨cG,0,none⟩=some (.int .u8 0):=(af bH.out 0).trans rfl
    have V2:wc.cell? ⟨cG,1,none⟩=some (.int .i64 0):=(af bH.out 1).trans rfl
    have V3:wc.cell? ⟨cG,2,none⟩=some (.int .i64 0):=(af bH.out 2).trans rfl
    have V4:wc.cell? ⟨cG,3,none⟩=some (.int .i64 0):=(af bH.out 3).trans rfl
    have V5:wc.cell? ⟨cG,4,none⟩=some (.int .i64 0):=(af bH.out 4).trans rfl
    have V6:wc.cell? ⟨cG,5,none⟩=some (.bool false):=(af bH.out 5).trans rfl
    have V7:wc.cell? ⟨cG,6,none⟩=some (.slice none 0 0):=(af bH.out 6).trans rfl
    have V8:wc.cell? ⟨cG,7,none⟩=some (.string (⟨#[]⟩:ByteArray)):=(af bH.out 7).trans rfl
    have V9:wc.cell? ⟨cG,8,none⟩=some (.string (⟨#[]⟩:ByteArray)):=(af bH.out 8).trans rfl
    have arK:wc.cell? ⟨cG,9,none⟩=some (.bool false):=(af bH.out 9).trans rfl
    have ahj:wc.cell? ⟨cG,10,none⟩=some (.slice none 0 0):=(af bH.out 10).trans rfl
    have ahk:wc.cell? ⟨cG,11,none⟩=some (.slice none 0 0):=(af bH.out 11).trans rfl
    have ahl:wc.cell? ⟨cG,12,none⟩=some (.int .i64 0):=(af bH.out 12).trans rfl
    have Wa:=aa bH.out 0
    have Wb:=aa bH.out 1
    have Wc:=aa bH.out 2
    have Wd:=aa bH.out 3
    have We:=aa bH.out 4
    have Wf:=aa bH.out 5
    have Wh:=aa bH.out 6
    have Wi:=aa bH.out 7
    have Wj:=aa bH.out 8
    have arL:=aa bH.out 9
    have ahm:=aa bH.out 10
    have ahn:=aa bH.out 11
    have aho:=aa bH.out 12
    go_wp2
    refine bodyPost_ret (kC rfl _ _ cG 46 #[.int .u8 0,.int .i64 0,.int .i64 0,.int .i64 0,.int .i64 0,.bool false,.slice none 0 0,.string (⟨#[]⟩:ByteArray),.string (⟨#[]⟩:ByteArray),.bool false,.slice none 0 0,.slice none 0 0,.int .i64 0] (0,0) _ rfl (by refine aH (cs:=#[.int .u8 0,.int .i64 0,.int .i64 0,.int .i64 0,.int .i64 0,.bool false,.slice none 0 0,.string (⟨#[]⟩:ByteArray),.string (⟨#[]⟩:ByteArray),.bool false,.slice none 0 0,.slice none 0 0,.int .i64 0]) ?_ 12 _ rfl;refine aH (cs:=#[.int .u8 0,.int .i64 0,.int .i64 0,.int .i64 0,.int .i64 0,.bool false,.slice none 0 0,.string (⟨#[]⟩:ByteArray),.string (⟨#[]⟩:ByteArray),.bool false,.slice none 0 0,.slice none 0 0,.int .i64 0]) ?_ 11 _ rfl;refine aH (cs:=#[.int .u8 0,.int .i64 0,.int .i64 0,.int .i64 0,.int .i64 0,.bool false,.slice none 0 0,.string (⟨#[]⟩:ByteArray),.string (⟨#[]⟩:ByteArray),.bool false,.slice none 0 0,.slice none 0 0,.int .i64 0]) ?_ 10 _ rfl;refine aH (cs:=#[.int .u8 0,.int .i64 0,.int .i64 0,.int .i64 0,.int .i64 0,.bool false,.slice none 0 0,.string (⟨#[]⟩:ByteArray),.string (⟨#[]⟩:ByteArray),.bool false,.slice none 0 0,.slice none 0 0,.int .i64 0]) ?_ 9 _ rfl;refine aH (cs:=#[.int .u8 0,.int .i64 0,.int .i64 0,.int .i64 0,.int .i64 0,.bool false,.slice none 0 0,.string (⟨#[]⟩:ByteArray),.string (⟨#[]⟩:ByteArray),.bool false,.slice none 0 0,.slice none 0 0,.int .i64 0]) ?_ 8 _ rfl;refine aH (cs:=#[.int .u8 0,.int .i64 0,.int .i64 0,.int .i64 0,.int .i64 0,.bool false,.slice none 0 0,.string (⟨#[]⟩:ByteArray),.string (⟨#[]⟩:ByteArray),.bool false,.slice none 0 0,.slice none 0 0,.int .i64 0]) ?_ 7 _ rfl;refine aH (cs:=#[.int .u8 0,.int .i64 0,.int .i64 0,.int .i64 0,.int .i64 0,.bool false,.slice none 0 0,.string (⟨#[]⟩:ByteArray),.string (⟨#[]⟩:ByteArray),.bool false,.slice none 0 0,.slice none 0 0,.int .i64 0]) ?_ 6 _ rfl;refine aH (cs:=#[.int .u8 0,.int .i64 0,.int .i64 0,.int .i64 0,.int .i64 0,.bool false,.slice none 0 0,.string (⟨#[]⟩:ByteArray),.string (⟨#[]⟩:ByteArray),.bool false,.slice none 0 0,.slice none 0 0,.int .i64 0]) ?_ 5 _ rfl;refine aH (cs:=#[.int .u8 0,.int .i64 0,.int .i64 0,.int .i64 0,.int .i64 0,.bool false,.slice none 0 0,.string (⟨#[]⟩:ByteArray),.string (⟨#[]⟩:ByteArray),.bool false,.slice none 0 0,.slice none 0 0,.int .i64 0]) ?_ 4 _ rfl;refine aH (cs:=#[.int .u8 0,.int .i64 0,.int .i64 0,.int .i64 0,.int .i64 0,.bool false,.slice none 0 0,.string (⟨#[]⟩:ByteArray),.string (⟨#[]⟩:ByteArray),.bool false,.slice none 0 0,.slice none 0 0,.int .i64 0]) ?_ 3 _ rfl;refine aH (cs:=#[.int .u8 0,.int .i64 0,.int .i64 0,.int .i64 0,.int .i64 0,.bool false,.slice none 0 0,.string (⟨#[]⟩:ByteArray),.string (⟨#[]⟩:ByteArray),.bool false,.slice none 0 0,.slice none 0 0,.int .i64 0]) ?_ 2 _ rfl;refine aH (cs:=#[.int .u8 0,.int .i64 0,.int .i64 0,.int .i64 0,.int .i64 0,.bool false,.slice none 0 0,.string (⟨#[]⟩:ByteArray),.string (⟨#[]⟩:ByteArray),.bool false,.slice none 0 0,.slice none 0 0,.int .i64 0]) ?_ 1 _ rfl;refine aH (cs:=#[.int .u8 0,.int .i64 0,.int .i64 0,.int .i64 0,.int .i64 0,.bool false,.slice none 0 0,.string (⟨#[]⟩:ByteArray),.string (⟨#[]⟩:ByteArray),.bool false,.slice none 0 0,.slice none 0 0,.int .i64 0]) ?_ 0 _ rfl;exact bH.out) Tryz.underlying46 rfl aR) rfl ?_
    exact ⟨_,_,_,by rfl,iQ,iQ,iQ,by repeat ((with_reducible first|exact HB.out|refine dN ?_ aa0.out))⟩
   ·replace c24:=Bool.eq_false_iff.mpr c24
    subst c24
    rw [if_neg (show ¬ (false=true) by decide)] at H
    by_cases T6:a4=1
    ·rw [if_pos T6] at H
     have abh:=beq_iff_eq.mpr T6
     have ahp:=bne_eq_false_iff_eq.mpr T6
     clear T6
     simp only [Option.some.injEq,Prod.mk.injEq] at H
     obtain ⟨rfl,rfl,rfl,rfl,rfl,rfl,rfl,rfl,rfl,rfl,rfl,rfl,rfl,rfl⟩:=H
     have aFw:=lQ.out
     have aFx:=lR.out
     have Mo:wc.cell? ⟨cz,0,none⟩=some (.int .i64 eZ):=(af bw.out 0).trans rfl
     have Mq:wc.cell? ⟨cz,1,none⟩=some (.bool oF):=(af bw.out 1).trans rfl
     have Mr:wc.cell? ⟨cz,2,none⟩=some (.slice uQ ni.length uR):=(af bw.out 2).trans rfl
     have Wk:wc.cell? ⟨cz,3,none⟩=some (.string oG):=(af bw.out 3).trans rfl
     have Wl:wc.cell? ⟨cz,4,none⟩=some (.string oH):=(af bw.out 4).trans rfl
     have Wm:wc.cell? ⟨cz,5,none⟩=some (.bool oI):=(af bw.out 5).trans rfl
     have Wn:wc.cell? ⟨cz,6,none⟩=some (.slice wu jX.length uS):=(af bw.out 6).trans rfl
     have Wo:wc.cell? ⟨cz,7,none⟩=some (.slice uT nj.length uU):=(af bw.out 7).trans rfl
     have Wp:wc.cell? ⟨cz,8,none⟩=some (.int .i64 nS):=(af bw.out 8).trans rfl
     have Ms:=aa bw.out 0
     have Mt:=aa bw.out 1
     have Mu:=aa bw.out 2
     have Wq:=aa bw.out 3
     have Ws:=aa bw.out 4
     have Wt:=aa bw.out 5
     have Wu:=aa bw.out 6
     have Wv:=aa bw.out 7
     have Ww:=aa bw.out 8
     go_wp2_with (((with_reducible refine bI (N:=14) rfl ?_);(try (refine bT (by rfl) ?_;dsimp only));refine bR ?hg (N:=14) ?hd (cs:=#[.int .u8 0,.int .i64 0,.int .i64 0,.int .i64 0,.int .i64 0,.bool false,.slice none 0 0,.string (⟨#[]⟩:ByteArray),.string (⟨#[]⟩:ByteArray),.bool false,.slice none 0 0,.slice none 0 0,.int .i64 0]) (t:=46) ?hr ?_;(case hd=>rfl);(case hg=>rfl);(case hr=>(go_simp;done));intro bu hg xp b9 hb;have bJ:=ah.mk (b9);have oJ:=ah.mk ((bZ:w.heap.size≤bu));have AV:=ah.mk ((bZ:w.heap.size≤bu));replace HB:=ah.mk (aA aD hb);have eU:=ah.mk ((wN:cz≠bu));have kQ:=ah.mk ((wO:bu≠cz));replace bw:=ah.mk (aC wQ hb);have bW:=ah.mk ((zm:cG≠bu));have kR:=ah.mk ((zn:bu≠cG));replace bH:=ah.mk (aC zo hb);clear hb b9 hg;have ahq:=kQ.out;have ahr:=eU.out;have aFy:=kR.out;have aFz:=bW.out;have DV:xp.cell? ⟨bu,0,none⟩=some (.int .u8 0):=(af bJ.out 0).trans rfl;have DW:xp.cell? ⟨bu,1,none⟩=some (.int .i64 0):=(af bJ.out 1).trans rfl;have DX:xp.cell? ⟨bu,2,none⟩=some (.int .i64 0):=(af bJ.out 2).trans rfl;have DY:xp.cell? ⟨bu,3,none⟩=some (.int .i64 0):=(af bJ.out 3).trans rfl;have DZ:xp.cell? ⟨bu,4,none⟩=some (.int .i64 0):=(af bJ.out 4).trans rfl;have D2:xp.cell? ⟨bu,5,none⟩=some (.bool false):=(af bJ.out 5).trans rfl;have D3:xp.cell? ⟨bu,6,none⟩=some (.slice none 0 0):=(af bJ.out 6).trans rfl;have D4:xp.cell? ⟨bu,7,none⟩=some (.string (⟨#[]⟩:ByteArray)):=(af bJ.out 7).trans rfl;have D5:xp.cell? ⟨bu,8,none⟩=some (.string (⟨#[]⟩:ByteArray)):=(af bJ.out 8).trans rfl;have Wx:xp.cell? ⟨bu,9,none⟩=some (.bool false):=(af bJ.out 9).trans rfl;have Rf:xp.cell? ⟨bu,10,none⟩=some (.slice none 0 0):=(af bJ.out 10).trans rfl;have Rg:xp.cell? ⟨bu,11,none⟩=some (.slice none 0 0):=(af bJ.out 11).trans rfl;have Rh:xp.cell? ⟨bu,12,none⟩=some (.int .i64 0):=(af bJ.out 12).trans rfl;have D6:=aa bJ.out 0;have D7:=aa bJ.out 1;have D8:=aa bJ.out 2;have D9:=aa bJ.out 3;have Ea:=aa bJ.out 4;have Eb:=aa bJ.out 5;have Ec:=aa bJ.out 6;have Ed:=aa bJ.out 7;have Ee:=aa bJ.out 8;have Wy:=aa bJ.out 9;have Ri:=aa bJ.out 10;have Rj:=aa bJ.out 11;have Rk:=aa bJ.out 12;have L6:xp.cell? ⟨cG,0,none⟩=some (.int .u8 0):=(af bH.out 0).trans rfl;have L8:xp.cell? ⟨cG,1,none⟩=some (.int .i64 0):=(af bH.out 1).trans rfl;have UK:xp.cell? ⟨cG,2,none⟩=some (.int .i64 0):=(af bH.out 2).trans rfl;have UL:xp.cell? ⟨cG,3,none⟩=some (.int .i64 0):=(af bH.out 3).trans rfl;have UM:xp.cell? ⟨cG,4,none⟩=some (.int .i64 0):=(af bH.out 4).trans rfl;have UN:xp.cell? ⟨cG,5,none⟩=some (.bool false):=(af bH.out 5).trans rfl;have UO:xp.cell? ⟨cG,6,none⟩=some (.slice none 0 0):=(af bH.out 6).trans rfl;have UQ:xp.cell? ⟨cG,7,none⟩=some (.string (⟨#[]⟩:ByteArray)):=(af bH.out 7).trans rfl;have UR:xp.cell? ⟨cG,8,none⟩=some (.string (⟨#[]⟩:ByteArray)):=(af bH.out 8).trans rfl;have arM:xp.cell? ⟨cG,9,none⟩=some (.bool false):=(af bH.out 9).trans rfl;have ahs:xp.cell? ⟨cG,10,none⟩=some (.slice none 0 0):=(af bH.out 10).trans rfl;have aht:xp.cell? ⟨cG,11,none⟩=some (.slice none 0 0):=(af bH.out 11).trans rfl;have ahu:xp.cell? ⟨cG,12,none⟩=some (.int .i64 0):=(af bH.out 12).trans rfl;have L9:=aa bH.out 0;have Ma:=aa bH.out 1;have UT:=aa bH.out 2;have UU:=aa bH.out 3;have UW:=aa bH.out 4;have UX:=aa bH.out 5;have UY:=aa bH.out 6;have UZ:=aa bH.out 7;have U0:=aa bH.out 8;have arN:=aa bH.out 9;have ahv:=aa bH.out 10;have ahw:=aa bH.out 11;have ahx:=aa bH.out 12))
     refine bodyPost_ret (kC rfl _ _ cG 46 #[.int .u8 3,.int .i64 eZ,.int .i64 a3,.int .i64 0,.int .i64 0,.bool false,.slice none 0 0,.string (⟨#[]⟩:ByteArray),.string (⟨#[]⟩:ByteArray),.bool false,.slice none 0 0,.slice none 0 0,.int .i64 0] (0,0) _ rfl (by refine aH (cs:=#[.int .u8 3,.int .i64 eZ,.int .i64 a3,.int .i64 0,.int .i64 0,.bool false,.slice none 0 0,.string (⟨#[]⟩:ByteArray),.string (⟨#[]⟩:ByteArray),.bool false,.slice none 0 0,.slice none 0 0,.int .i64 0]) ?_ 12 _ rfl;refine aH (cs:=#[.int .u8 3,.int .i64 eZ,.int .i64 a3,.int .i64 0,.int .i64 0,.bool false,.slice none 0 0,.string (⟨#[]⟩:ByteArray),.string (⟨#[]⟩:ByteArray),.bool false,.slice none 0 0,.slice none 0 0,.int .i64 0]) ?_ 11 _ rfl;refine aH (cs:=#[.int .u8 3,.int .i64 eZ,.int .i64 a3,.int .i64 0,.int .i64 0,.bool false,.slice none 0 0,.string (⟨#[]⟩:ByteArray),.string (⟨#[]⟩:ByteArray),.bool false,.slice none 0 0,.slice none 0 0,.int .i64 0]) ?_ 10 _ rfl;refine aH (cs:=#[.int .u8 3,.int .i64 eZ,.int .i64 a3,.int .i64 0,.int .i64 0,.bool false,.slice none 0 0,.string (⟨#[]⟩:ByteArray),.string (⟨#[]⟩:ByteArray),.bool false,.slice none 0 0,.slice none 0 0,.int .i64 0]) ?_ 9 _ rfl;refine aH (cs:=#[.int .u8 3,.int .i64 eZ,.int .i64 a3,.int .i64 0,.int .i64 0,.bool false,.slice none 0 0,.string (⟨#[]⟩:ByteArray),.string (⟨#[]⟩:ByteArray),.bool false,.slice none 0 0,.slice none 0 0,.int .i64 0]) ?_ 8 _ rfl;refine aH (cs:=#[.int .u8 3,.int .i64 eZ,.int .i64 a3,.int .i64 0,.int .i64 0,.bool false,.slice none 0 0,.string (⟨#[]⟩:ByteArray),.string (⟨#[]⟩:ByteArray),.bool false,.slice none 0 0,.slice none 0 0,.int .i64 0]) ?_ 7 _ rfl;refine aH (cs:=#[.int .u8 3,.int .i64 eZ,.int .i64 a3,.int .i64 0,.int .i64 0,.bool false,.slice none 0 0,.string (⟨#[]⟩:ByteArray),.string (⟨#[]⟩:ByteArray),.bool false,.slice none 0 0,.slice none 0 0,.int .i64 0]) ?_ 6 _ rfl;refine aH (cs:=#[.int .u8 3,.int .i64 eZ,.int .i64 a3,.int .i64 0,.int .i64 0,.bool false,.slice none 0 0,.string (⟨#[]⟩:ByteArray),.string (⟨#[]⟩:ByteArray),.bool false,.slice none 0 0,.slice none 0 0,.int .i64 0]) ?_ 5 _ rfl;refine aH (cs:=#[.int .u8 3,.int .i64 eZ,.int .i64 a3,.int .i64 0,.int .i64 0,.bool false,.slice none 0 0,.string (⟨#[]⟩:ByteArray),.string (⟨#[]⟩:ByteArray),.bool false,.slice none 0 0,.slice none 0 0,.int .i64 0]) ?_ 4 _ rfl;refine aH (cs:=#[.int .u8 3,.int .i64 eZ,.int .i64 a3,.int .i64 0,.int .i64 0,.bool false,.slice none 0 0,.string (⟨#[]⟩:ByteArray),.string (⟨#[]⟩:ByteArray),.bool false,.slice none 0 0,.slice none 0 0,.int .i64 0]) ?_ 3 _ rfl;refine aH (cs:=#[.int .u8 3,.int .i64 eZ,.int .i64 0,.int .i64 0,.int .i64 0,.bool false,.slice none 0 0,.string (⟨#[]⟩:ByteArray),.string (⟨#[]⟩:ByteArray),.bool false,.slice none 0 0,.slice none 0 0,.int .i64 0]) ?_ 2 _ rfl;refine aH (cs:=#[.int .u8 3,.int .i64 0,.int .i64 0,.int .i64 0,.int .i64 0,.bool false,.slice none 0 0,.string (⟨#[]⟩:ByteArray),.string (⟨#[]⟩:ByteArray),.bool false,.slice none 0 0,.slice none 0 0,.int .i64 0]) ?_ 1 _ rfl;refine aH (cs:=#[.int .u8 0,.int .i64 0,.int .i64 0,.int .i64 0,.int .i64 0,.bool false,.slice none 0 0,.string (⟨#[]⟩:ByteArray),.string (⟨#[]⟩:ByteArray),.bool false,.slice none 0 0,.slice none 0 0,.int .i64 0]) ?_ 0 _ rfl;refine aN ?_ bW.out _;refine aN ?_ bW.out _;refine aN ?_ bW.out _;refine aN ?_ bW.out _;refine aN ?_ bW.out _;refine aN ?_ bW.out _;refine aN ?_ bW.out _;refine aN ?_ bW.out _;refine aN ?_ bW.out _;refine aN ?_ bW.out _;refine aN ?_ bW.out _;refine aN ?_ bW.out _;refine aN ?_ bW.out _;refine aN ?_ bW.out _;exact bH.out) Tryz.underlying46 rfl aR) rfl ?_
     exact ⟨_,_,_,by rfl,iQ,iQ,iQ,zl⟩
    ·rw [if_neg T6] at H
     have abh:=beq_eq_false_iff_ne.mpr T6
     have ahp:=bne_iff_ne.mpr T6
     by_cases c35:a4=2
     ·rw [if_pos c35] at H
      have ahy:=beq_iff_eq.mpr c35
      have ahz:=bne_eq_false_iff_eq.mpr c35
      clear c35
      simp only [Option.some.injEq,Prod.mk.injEq] at H
      obtain ⟨rfl,rfl,rfl,rfl,rfl,rfl,rfl,rfl,rfl,rfl,rfl,rfl,rfl,rfl⟩:=H
      have aFA:=lQ.out
      have aFB:=lR.out
      have Ar:wc.cell? ⟨cz,0,none⟩=some (.int .i64 eZ):=(af bw.out 0).trans rfl
      have Au:wc.cell? ⟨cz,1,none⟩=some (.bool oF):=(af bw.out 1).trans rfl
      have Aw:wc.cell? ⟨cz,2,none⟩=some (.slice uQ ni.length uR):=(af bw.out 2).trans rfl
      have DD:wc.cell? ⟨cz,3,none⟩=some (.string oG):=(af bw.out 3).trans rfl
      have DF:wc.cell? ⟨cz,4,none⟩=some (.string oH):=(af bw.out 4).trans rfl
      have DG:wc.cell? ⟨cz,5,none⟩=some (.bool oI):=(af bw.out 5).trans rfl
      have DI:wc.cell? ⟨cz,6,none⟩=some (.slice wu jX.length uS):=(af bw.out 6).trans rfl
      have DJ:wc.cell? ⟨cz,7,none⟩=some (.slice uT nj.length uU):=(af bw.out 7).trans rfl
      have DK:wc.cell? ⟨cz,8,none⟩=some (.int .i64 nS):=(af bw.out 8).trans rfl
      have Ax:=aa bw.out 0
      have Ay:=aa bw.out 1
      have Az:=aa bw.out 2
      have DL:=aa bw.out 3
      have DM:=aa bw.out 4
      have DN:=aa bw.out 5
      have DR:=aa bw.out 6
      have DT:=aa bw.out 7
      have DU:=aa bw.out 8
      go_wp2_with (((with_reducible refine bI (N:=14) rfl ?_);(try (refine bT (by rfl) ?_;dsimp only));refine bR ?hg (N:=14) ?hd (cs:=#[.int .u8 0,.int .i64 0,.int .i64 0,.int .i64 0,.int .i64 0,.bool false,.slice none 0 0,.string (⟨#[]⟩:ByteArray),.string (⟨#[]⟩:ByteArray),.bool false,.slice none 0 0,.slice none 0 0,.int .i64 0]) (t:=46) ?hr ?_;(case hd=>rfl);(case hg=>rfl);(case hr=>(go_simp;done));intro bu hg pY b9 hb;have bJ:=ah.mk (b9);have oJ:=ah.mk ((bZ:w.heap.size≤bu));have AV:=ah.mk ((bZ:w.heap.size≤bu));replace HB:=ah.mk (aA aD hb);have eU:=ah.mk ((wN:cz≠bu));have kQ:=ah.mk ((wO:bu≠cz));replace bw:=ah.mk (aC wQ hb);have bW:=ah.mk ((zm:cG≠bu));have kR:=ah.mk ((zn:bu≠cG));replace bH:=ah.mk (aC zo hb);clear hb b9 hg;have aFC:=kQ.out;have aFD:=eU.out;have ahA:=kR.out;have ahB:=bW.out;have Wz:pY.cell? ⟨bu,0,none⟩=some (.int .u8 0):=(af bJ.out 0).trans rfl;have WA:pY.cell? ⟨bu,1,none⟩=some (.int .i64 0):=(af bJ.out 1).trans rfl;have WB:pY.cell? ⟨bu,2,none⟩=some (.int .i64 0):=(af bJ.out 2).trans rfl;have WC:pY.cell? ⟨bu,3,none⟩=some (.int .i64 0):=(af bJ.out 3).trans rfl;have WD:pY.cell? ⟨bu,4,none⟩=some (.int .i64 0):=(af bJ.out 4).trans rfl;have WE:pY.cell? ⟨bu,5,none⟩=some (.bool false):=(af bJ.out 5).trans rfl;have WG:pY.cell? ⟨bu,6,none⟩=some (.slice none 0 0):=(af bJ.out 6).trans rfl;have WH:pY.cell? ⟨bu,7,none⟩=some (.string (⟨#[]⟩:ByteArray)):=(af bJ.out 7).trans rfl;have WI:pY.cell? ⟨bu,8,none⟩=some (.string (⟨#[]⟩:ByteArray)):=(af bJ.out 8).trans rfl;have WJ:pY.cell? ⟨bu,9,none⟩=some (.bool false):=(af bJ.out 9).trans rfl;have Rl:pY.cell? ⟨bu,10,none⟩=some (.slice none 0 0):=(af bJ.out 10).trans rfl;have Rm:pY.cell? ⟨bu,11,none⟩=some (.slice none 0 0):=(af bJ.out 11).trans rfl;have Rn:pY.cell? ⟨bu,12,none⟩=some (.int .i64 0):=(af bJ.out 12).trans rfl;have WK:=aa bJ.out 0;have WL:=aa bJ.out 1;have WM:=aa bJ.out 2;have WN:=aa bJ.out 3;have WO:=aa bJ.out 4;have WQ:=aa bJ.out 5;have WR:=aa bJ.out 6;have WS:=aa bJ.out 7;have WT:=aa bJ.out 8;have WU:=aa bJ.out 9;have Ro:=aa bJ.out 10;have Rp:=aa bJ.out 11;have Rq:=aa bJ.out 12;have Mv:pY.cell? ⟨cG,0,none⟩=some (.int .u8 0):=(af bH.out 0).trans rfl;have Mw:pY.cell? ⟨cG,1,none⟩=some (.int .i64 0):=(af bH.out 1).trans rfl;have Mx:pY.cell? ⟨cG,2,none⟩=some (.int .i64 0):=(af bH.out 2).trans rfl;have My:pY.cell? ⟨cG,3,none⟩=some (.int .i64 0):=(af bH.out 3).trans rfl;have Mz:pY.cell? ⟨cG,4,none⟩=some (.int .i64 0):=(af bH.out 4).trans rfl;have MA:pY.cell? ⟨cG,5,none⟩=some (.bool false):=(af bH.out 5).trans rfl;have MB:pY.cell? ⟨cG,6,none⟩=some (.slice none 0 0):=(af bH.out 6).trans rfl;have MC:pY.cell? ⟨cG,7,none⟩=some (.string (⟨#[]⟩:ByteArray)):=(af bH.out 7).trans rfl;have MD:pY.cell? ⟨cG,8,none⟩=some (.string (⟨#[]⟩:ByteArray)):=(af bH.out 8).trans rfl;have WV:pY.cell? ⟨cG,9,none⟩=some (.bool false):=(af bH.out 9).trans rfl;have Rs:pY.cell? ⟨cG,10,none⟩=some (.slice none 0 0):=(af bH.out 10).trans rfl;have Ru:pY.cell? ⟨cG,11,none⟩=some (.slice none 0 0):=(af bH.out 11).trans rfl;have Rv:pY.cell? ⟨cG,12,none⟩=some (.int .i64 0):=(af bH.out 12).trans rfl;have ME:=aa bH.out 0;have MF:=aa bH.out 1;have MG:=aa bH.out 2;have MH:=aa bH.out 3;have MI:=aa bH.out 4;have MJ:=aa bH.out 5;have MK:=aa bH.out 6;have ML:=aa bH.out 7;have MM:=aa bH.out 8;have WW:=aa bH.out 9;have Rw:=aa bH.out 10;have Rx:=aa bH.out 11;have Ry:=aa bH.out 12))
      refine bodyPost_ret (kC rfl _ _ cG 46 #[.int .u8 4,.int .i64 eZ,.int .i64 a3,.int .i64 0,.int .i64 0,.bool false,.slice none 0 0,.string (⟨#[]⟩:ByteArray),.string (⟨#[]⟩:ByteArray),.bool false,.slice none 0 0,.slice none 0 0,.int .i64 0] (0,0) _ rfl PZ Tryz.underlying46 rfl aR) rfl ?_
      exact ⟨_,_,_,by rfl,iQ,iQ,iQ,zl⟩
     ·rw [if_neg c35] at H
      have ahy:=beq_eq_false_iff_ne.mpr c35
      have ahz:=bne_iff_ne.mpr c35
      by_cases Pj:a4=3
      ·rw [if_pos Pj] at H
       have abx:=beq_iff_eq.mpr Pj
       have aby:=bne_eq_false_iff_eq.mpr Pj
       clear Pj
       by_cases Rz:(wrap64 (a5 - nS)) < a1
       ·rw [if_pos Rz] at H
        have ahC:=decide_eq_true Rz
        clear Rz
        by_cases c45:a5 < 1099511627776
        ·rw [if_pos c45] at H
         have ahD:=decide_eq_true c45
         clear c45
         obtain ⟨c46,H⟩:=ld H
         have aFE:=decide_eq_true c46
         clear c46
         obtain ⟨Ic,H⟩:=ld H
         have MN:=decide_eq_true Ic
         clear Ic
         obtain ⟨t291,A48,H⟩:=bd_ H
         simp only [Option.some.injEq,Prod.mk.injEq] at H
         obtain ⟨rfl,rfl,rfl,rfl,rfl,rfl,rfl,rfl,rfl,rfl,rfl,rfl,rfl,rfl⟩:=H
         have aFF:=lQ.out
         have aFG:=lR.out
         have MO:wc.cell? ⟨cz,0,none⟩=some (.int .i64 eZ):=(af bw.out 0).trans rfl
         have MP:wc.cell? ⟨cz,1,none⟩=some (.bool oF):=(af bw.out 1).trans rfl
         have MQ:wc.cell? ⟨cz,2,none⟩=some (.slice uQ ni.length uR):=(af bw.out 2).trans rfl
         have MS:wc.cell? ⟨cz,3,none⟩=some (.string oG):=(af bw.out 3).trans rfl
         have MT:wc.cell? ⟨cz,4,none⟩=some (.string oH):=(af bw.out 4).trans rfl
         have MU:wc.cell? ⟨cz,5,none⟩=some (.bool oI):=(af bw.out 5).trans rfl
         have MV:wc.cell? ⟨cz,6,none⟩=some (.slice wu jX.length uS):=(af bw.out 6).trans rfl
         have MW:wc.cell? ⟨cz,7,none⟩=some (.slice uT nj.length uU):=(af bw.out 7).trans rfl
         have MX:wc.cell? ⟨cz,8,none⟩=some (.int .i64 nS):=(af bw.out 8).trans rfl
         have MZ:=aa bw.out 0
         have M0:=aa bw.out 1
         have M3:=aa bw.out 2
         have M4:=aa bw.out 3
         have M5:=aa bw.out 4
         have M6:=aa bw.out 5
         have M7:=aa bw.out 6
         have M8:=aa bw.out 7
         have M9:=aa bw.out 8
         go_wp2_with (first|((with_reducible refine bI (N:=14) rfl ?_);(try (refine bT (by rfl) ?_;dsimp only));refine bR ?hg (N:=14) ?hd (cs:=#[.int .u8 0,.int .i64 0,.int .i64 0,.int .i64 0,.int .i64 0,.bool false,.slice none 0 0,.string (⟨#[]⟩:ByteArray),.string (⟨#[]⟩:ByteArray),.bool false,.slice none 0 0,.slice none 0 0,.int .i64 0]) (t:=46) ?hr ?_;(case hd=>rfl);(case hg=>rfl);(case hr=>(go_simp;done));intro bu hg nT b9 hb;have bJ:=ah.mk (b9);have oJ:=ah.mk ((bZ:w.heap.size≤bu));have AV:=ah.mk ((bZ:w.heap.size≤bu));replace HB:=ah.mk (aA aD hb);have eU:=ah.mk ((wN:cz≠bu));have kQ:=ah.mk ((wO:bu≠cz));replace bw:=ah.mk (aC wQ hb);have bW:=ah.mk ((zm:cG≠bu));have kR:=ah.mk ((zn:bu≠cG));replace bH:=ah.mk (aC zo hb);clear hb b9 hg;have ahE:=kQ.out;have ahF:=eU.out;have ahG:=kR.out;have ahH:=bW.out;have Ef:nT.cell? ⟨bu,0,none⟩=some (.int .u8 0):=(af bJ.out 0).trans rfl;have Eg:nT.cell? ⟨bu,1,none⟩=some (.int .i64 0):=(af bJ.out 1).trans rfl;have Eh:nT.cell? ⟨bu,2,none⟩=some (.int .i64 0):=(af bJ.out 2).trans rfl;have Ei:nT.cell? ⟨bu,3,none⟩=some (.int .i64 0):=(af bJ.out 3).trans rfl;have Ej:nT.cell? ⟨bu,4,none⟩=some (.int .i64 0):=(af bJ.out 4).trans rfl;have Ek:nT.cell? ⟨bu,5,none⟩=some (.bool false):=(af bJ.out 5).trans rfl;have El:nT.cell? ⟨bu,6,none⟩=some (.slice none 0 0):=(af bJ.out 6).trans rfl;have Em:nT.cell? ⟨bu,7,none⟩=some (.string (⟨#[]⟩:ByteArray)):=(af bJ.out 7).trans rfl;have En:nT.cell? ⟨bu,8,none⟩=some (.string (⟨#[]⟩:ByteArray)):=(af bJ.out 8).trans rfl;have Na:nT.cell? ⟨bu,9,none⟩=some (.bool false):=(af bJ.out 9).trans rfl;have Ie:nT.cell? ⟨bu,10,none⟩=some (.slice none 0 0):=(af bJ.out 10).trans rfl;have Ig:nT.cell? ⟨bu,11,none⟩=some (.slice none 0 0):=(af bJ.out 11).trans rfl;have Ih:nT.cell? ⟨bu,12,none⟩=some (.int .i64 0):=(af bJ.out 12).trans rfl;have Eo:=aa bJ.out 0;have Ep:=aa bJ.out 1;have Er:=aa bJ.out 2;have Es:=aa bJ.out 3;have Et:=aa bJ.out 4;have Eu:=aa bJ.out 5;have Ew:=aa bJ.out 6;have Ex:=aa bJ.out 7;have Ey:=aa bJ.out 8;have Nb:=aa bJ.out 9;have Ii:=aa bJ.out 10;have Ij:=aa bJ.out 11;have Ik:=aa bJ.out 12;have arO:nT.cell? ⟨cz,0,none⟩=some (.int .i64 eZ):=(af bw.out 0).trans rfl;have arP:nT.cell? ⟨cz,1,none⟩=some (.bool oF):=(af bw.out 1).trans rfl;have arQ:nT.cell? ⟨cz,2,none⟩=some (.slice uQ ni.length uR):=(af bw.out 2).trans rfl;have arR:nT.cell? ⟨cz,3,none⟩=some (.string oG):=(af bw.out 3).trans rfl;have arS:nT.cell? ⟨cz,4,none⟩=some (.string oH):=(af bw.out 4).trans rfl;have arT:nT.cell? ⟨cz,5,none⟩=some (.bool oI):=(af bw.out 5).trans rfl;have arU:nT.cell? ⟨cz,6,none⟩=some (.slice wu jX.length uS):=(af bw.out 6).trans rfl;have arV:nT.cell? ⟨cz,7,none⟩=some (.slice uT nj.length uU):=(af bw.out 7).trans rfl;have arW:nT.cell? ⟨cz,8,none⟩=some (.int .i64 nS):=(af bw.out 8).trans rfl;have arX:=aa bw.out 0;have arY:=aa bw.out 1;have arZ:=aa bw.out 2;have ar0:=aa bw.out 3;have ar1:=aa bw.out 4;have ar2:=aa bw.out 5;have ar3:=aa bw.out 6;have ar4:=aa bw.out 7;have ar5:=aa bw.out 8;have adG: 0≤(a3:Int):=of_decide_eq_true cP;have adH:a3 < (jX.length:Int):=of_decide_eq_true cP;obtain ⟨qH,aBA,fG,fM,fN,fO,fP,fQ⟩:=uO Rb.out a3 adG adH;cases aBA;have KB:qH.block≠bu:=Nat.ne_of_lt (Nat.lt_of_lt_of_le nX oJ.out);have KC:qH.block≠bu:=Nat.ne_of_lt (Nat.lt_of_lt_of_le nX oJ.out);have KD:qH.block≠bu:=Nat.ne_of_lt (Nat.lt_of_lt_of_le nX oJ.out);have KE:qH.block≠bu:=Nat.ne_of_lt (Nat.lt_of_lt_of_le nX oJ.out);have KF:qH.block≠bu:=Nat.ne_of_lt (Nat.lt_of_lt_of_le nX oJ.out);have KG:qH.block≠bu:=Nat.ne_of_lt (Nat.lt_of_lt_of_le nX oJ.out);have KH:qH.block≠bu:=Nat.ne_of_lt (Nat.lt_of_lt_of_le nX oJ.out);have KI:qH.block≠bu:=Nat.ne_of_lt (Nat.lt_of_lt_of_le nX oJ.out);have KJ:qH.block≠bu:=Nat.ne_of_lt (Nat.lt_of_lt_of_le nX oJ.out);have KL:qH.block≠bu:=Nat.ne_of_lt (Nat.lt_of_lt_of_le nX oJ.out);have Hl:qH.block≠bu:=Nat.ne_of_lt (Nat.lt_of_lt_of_le nX oJ.out);have Ho:qH.block≠bu:=Nat.ne_of_lt (Nat.lt_of_lt_of_le nX oJ.out);have Hp:qH.block≠bu:=Nat.ne_of_lt (Nat.lt_of_lt_of_le nX oJ.out);have Hq:qH.block≠bu:=Nat.ne_of_lt (Nat.lt_of_lt_of_le nX oJ.out);replace fG:=(HB.out.cell (World.block_lt_of_cell? w _ fG)).trans fG;replace fM:=(HB.out.cell (World.block_lt_of_cell? w _ fM)).trans fM;replace fN:=(HB.out.cell (World.block_lt_of_cell? w _ fN)).trans fN;replace fO:=(HB.out.cell (World.block_lt_of_cell? w _ fO)).trans fO;replace fP:=(HB.out.cell (World.block_lt_of_cell? w _ fP)).trans fP;replace fQ:=(HB.out.cell (World.block_lt_of_cell? w _ fQ)).trans fQ;replace fG:=(cell_far (p:=⟨bu,0,none⟩) vG (.int .u8 0)).trans fG;replace fM:=(cell_far (p:=⟨bu,0,none⟩) vG (.int .u8 0)).trans fM;replace fN:=(cell_far (p:=⟨bu,0,none⟩) vG (.int .u8 0)).trans fN;replace fO:=(cell_far (p:=⟨bu,0,none⟩) vG (.int .u8 0)).trans fO;replace fP:=(cell_far (p:=⟨bu,0,none⟩) vG (.int .u8 0)).trans fP;replace fQ:=(cell_far (p:=⟨bu,0,none⟩) vG (.int .u8 0)).trans fQ;replace fG:=(cell_far (p:=⟨bu,1,none⟩) vH (.int .i64 eZ)).trans fG;replace fM:=(cell_far (p:=⟨bu,1,none⟩) vH (.int .i64 eZ)).trans fM;replace fN:=(cell_far (p:=⟨bu,1,none⟩) vH (.int .i64 eZ)).trans fN;replace fO:=(cell_far (p:=⟨bu,1,none⟩) vH (.int .i64 eZ)).trans fO;replace fP:=(cell_far (p:=⟨bu,1,none⟩) vH (.int .i64 eZ)).trans fP;replace fQ:=(cell_far (p:=⟨bu,1,none⟩) vH (.int .i64 eZ)).trans fQ;replace fG:=(cell_far (p:=⟨bu,2,none⟩) vI (.int .i64 a3)).trans fG;replace fM:=(cell_far (p:=⟨bu,2,none⟩) vI (.int .i64 a3)).trans fM;replace fN:=(cell_far (p:=⟨bu,2,none⟩) vI (.int .i64 a3)).trans fN;replace fO:=(cell_far (p:=⟨bu,2,none⟩) vI (.int .i64 a3)).trans fO;replace fP:=(cell_far (p:=⟨bu,2,none⟩) vI (.int .i64 a3)).trans fP;replace fQ:=(cell_far (p:=⟨bu,2,none⟩) vI (.int .i64 a3)).trans fQ;replace fG:=(cell_far (p:=⟨bu,3,none⟩) vJ (.int .i64 0)).trans fG;replace fM:=(cell_far (p:=⟨bu,3,none⟩) vJ (.int .i64 0)).trans fM;replace fN:=(cell_far (p:=⟨bu,3,none⟩) vJ (.int .i64 0)).trans fN;replace fO:=(cell_far (p:=⟨bu,3,none⟩) vJ (.int .i64 0)).trans fO;replace fP:=(cell_far (p:=⟨bu,3,none⟩) vJ (.int .i64 0)).trans fP;replace fQ:=(cell_far (p:=⟨bu,3,none⟩) vJ (.int .i64 0)).trans fQ;replace fG:=(cell_far (p:=⟨bu,4,none⟩) vK (.int .i64 0)).trans fG;replace fM:=(cell_far (p:=⟨bu,4,none⟩) vK (.int .i64 0)).trans fM;replace fN:=(cell_far (p:=⟨bu,4,none⟩) vK (.int .i64 0)).trans fN;replace fO:=(cell_far (p:=⟨bu,4,none⟩) vK (.int .i64 0)).trans fO;replace fP:=(cell_far (p:=⟨bu,4,none⟩) vK (.int .i64 0)).trans fP;replace fQ:=(cell_far (p:=⟨bu,4,none⟩) vK (.int .i64 0)).trans fQ;replace fG:=(cell_far (p:=⟨bu,5,none⟩) vL (.bool false)).trans fG;replace fM:=(cell_far (p:=⟨bu,5,none⟩) vL (.bool false)).trans fM;replace fN:=(cell_far (p:=⟨bu,5,none⟩) vL (.bool false)).trans fN;replace fO:=(cell_far (p:=⟨bu,5,none⟩) vL (.bool false)).trans fO;replace fP:=(cell_far (p:=⟨bu,5,none⟩) vL (.bool false)).trans fP;replace fQ:=(cell_far (p:=⟨bu,5,none⟩) vL (.bool false)).trans fQ;replace fG:=(cell_far (p:=⟨bu,6,none⟩) vM (.slice none 0 0)).trans fG;replace fM:=(cell_far (p:=⟨bu,6,none⟩) vM (.slice none 0 0)).trans fM;replace fN:=(cell_far (p:=⟨bu,6,none⟩) vM (.slice none 0 0)).trans fN;replace fO:=(cell_far (p:=⟨bu,6,none⟩) vM (.slice none 0 0)).trans fO;replace fP:=(cell_far (p:=⟨bu,6,none⟩) vM (.slice none 0 0)).trans fP;replace fQ:=(cell_far (p:=⟨bu,6,none⟩) vM (.slice none 0 0)).trans fQ;replace fG:=(cell_far (p:=⟨bu,7,none⟩) vN (.string (⟨#[]⟩:ByteArray))).trans fG;replace fM:=(cell_far (p:=⟨bu,7,none⟩) vN (.string (⟨#[]⟩:ByteArray))).trans fM;replace fN:=(cell_far (p:=⟨bu,7,none⟩) vN (.string (⟨#[]⟩:ByteArray))).trans fN;replace fO:=(cell_far (p:=⟨bu,7,none⟩) vN (.string (⟨#[]⟩:ByteArray))).trans fO;replace fP:=(cell_far (p:=⟨bu,7,none⟩) vN (.string (⟨#[]⟩:ByteArray))).trans fP;replace fQ:=(cell_far (p:=⟨bu,7,none⟩) vN (.string (⟨#[]⟩:ByteArray))).trans fQ;replace fG:=(cell_far (p:=⟨bu,8,none⟩) vO (.string (⟨#[]⟩:ByteArray))).trans fG;replace fM:=(cell_far (p:=⟨bu,8,none⟩) vO (.string (⟨#[]⟩:ByteArray))).trans fM;replace fN:=(cell_far (p:=⟨bu,8,none⟩) vO (.string (⟨#[]⟩:ByteArray))).trans fN;replace fO:=(cell_far (p:=⟨bu,8,none⟩) vO (.string (⟨#[]⟩:ByteArray))).trans fO;replace fP:=(cell_far (p:=⟨bu,8,none⟩) vO (.string (⟨#[]⟩:ByteArray))).trans fP;replace fQ:=(cell_far (p:=⟨bu,8,none⟩) vO (.string (⟨#[]⟩:ByteArray))).trans fQ;replace fG:=(cell_far (p:=⟨bu,9,none⟩) vP (.bool false)).trans fG;replace fM:=(cell_far (p:=⟨bu,9,none⟩) vP (.bool false)).trans fM;replace fN:=(cell_far (p:=⟨bu,9,none⟩) vP (.bool false)).trans fN;replace fO:=(cell_far (p:=⟨bu,9,none⟩) vP (.bool false)).trans fO;replace fP:=(cell_far (p:=⟨bu,9,none⟩) vP (.bool false)).trans fP;replace fQ:=(cell_far (p:=⟨bu,9,none⟩) vP (.bool false)).trans fQ;replace fG:=(cell_far (p:=⟨bu,10,none⟩) vC (.slice none 0 0)).trans fG;replace fM:=(cell_far (p:=⟨bu,10,none⟩) vC (.slice none 0 0)).trans fM;replace fN:=(cell_far (p:=⟨bu,10,none⟩) vC (.slice none 0 0)).trans fN;replace fO:=(cell_far (p:=⟨bu,10,none⟩) vC (.slice none 0 0)).trans fO;replace fP:=(cell_far (p:=⟨bu,10,none⟩) vC (.slice none 0 0)).trans fP;replace fQ:=(cell_far (p:=⟨bu,10,none⟩) vC (.slice none 0 0)).trans fQ;replace fG:=(cell_far (p:=⟨bu,11,none⟩) vD (.slice none 0 0)).trans fG;replace fM:=(cell_far (p:=⟨bu,11,none⟩) vD (.slice none 0 0)).trans fM;replace fN:=(cell_far (p:=⟨bu,11,none⟩) vD (.slice none 0 0)).trans fN;replace fO:=(cell_far (p:=⟨bu,11,none⟩) vD (.slice none 0 0)).trans fO;replace fP:=(cell_far (p:=⟨bu,11,none⟩) vD (.slice none 0 0)).trans fP;replace fQ:=(cell_far (p:=⟨bu,11,none⟩) vD (.slice none 0 0)).trans fQ;replace fG:=(cell_far (p:=⟨bu,12,none⟩) vE (.int .i64 0)).trans fG;replace fM:=(cell_far (p:=⟨bu,12,none⟩) vE (.int .i64 0)).trans fM;replace fN:=(cell_far (p:=⟨bu,12,none⟩) vE (.int .i64 0)).trans fN;replace fO:=(cell_far (p:=⟨bu,12,none⟩) vE (.int .i64 0)).trans fO;replace fP:=(cell_far (p:=⟨bu,12,none⟩) vE (.int .i64 0)).trans fP;replace fQ:=(cell_far (p:=⟨bu,12,none⟩) vE (.int .i64 0)).trans fQ;replace fG:=(cell_far (p:=⟨bu,0,none⟩) vF (.int .u8 4)).trans fG;replace fM:=(cell_far (p:=⟨bu,0,none⟩) vF (.int .u8 4)).trans fM;replace fN:=(cell_far (p:=⟨bu,0,none⟩) vF (.int .u8 4)).trans fN;replace fO:=(cell_far (p:=⟨bu,0,none⟩) vF (.int .u8 4)).trans fO;replace fP:=(cell_far (p:=⟨bu,0,none⟩) vF (.int .u8 4)).trans fP;replace fQ:=(cell_far (p:=⟨bu,0,none⟩) vF (.int .u8 4)).trans fQ;clear KB;clear KC;clear KD;clear KE;clear KF;clear KG;clear KH;clear KI;clear KJ;clear KL;clear Hl;clear Ho;clear Hp;clear Hq;replace adG:=eq_true adG;replace adH:=eq_true adH)|((with_reducible refine bq (f:=44) rfl ?_);refine cK (some 79) rfl rfl Tryz.func44 aR rfl #[.slice A0 l0.length c0,.int .i64 (wrap64 (((bg jX a3).f2) + 1)),.int .i64 a5] rfl dc ?_;(with_reducible refine (dK.calls kj6 _ _ l0 (wrap64 (((bg jX a3).f2) + 1)) a5 t291 _ ?aX ?bF A48.out).mono ?_);(case aX=>exact Kd.bG nr.out KV);(case bF=>exact sU.out);rintro e zT ⟨rfl,hb⟩;refine ⟨_,rfl,?_⟩;replace bw:=ah.mk (aC (g:=cz) (o:= .cells #[.int .i64 eZ,.bool oF,.slice uQ ni.length uR,.string oG,.string oH,.bool oI,.slice (some qH) jX.length uS,.slice uT nj.length uU,.int .i64 nS] 34 (0,0)) (by refine aN ?_ eU.out _;refine aN ?_ eU.out _;refine aN ?_ eU.out _;refine aN ?_ eU.out _;refine aN ?_ eU.out _;refine aN ?_ eU.out _;refine aN ?_ eU.out _;refine aN ?_ eU.out _;refine aN ?_ eU.out _;refine aN ?_ eU.out _;refine aN ?_ eU.out _;refine aN ?_ eU.out _;refine aN ?_ eU.out _;refine aN ?_ eU.out _;exact bw.out) hb);replace bH:=ah.mk (aC (g:=cG) (o:= .cells #[.int .u8 0,.int .i64 0,.int .i64 0,.int .i64 0,.int .i64 0,.bool false,.slice none 0 0,.string (⟨#[]⟩:ByteArray),.string (⟨#[]⟩:ByteArray),.bool false,.slice none 0 0,.slice none 0 0,.int .i64 0] 46 (0,0)) (by refine aN ?_ bW.out _;refine aN ?_ bW.out _;refine aN ?_ bW.out _;refine aN ?_ bW.out _;refine aN ?_ bW.out _;refine aN ?_ bW.out _;refine aN ?_ bW.out _;refine aN ?_ bW.out _;refine aN ?_ bW.out _;refine aN ?_ bW.out _;refine aN ?_ bW.out _;refine aN ?_ bW.out _;refine aN ?_ bW.out _;refine aN ?_ bW.out _;exact bH.out) hb);replace bJ:=ah.mk (aC (g:=bu) (o:= .cells #[.int .u8 4,.int .i64 eZ,.int .i64 a3,.int .i64 0,.int .i64 0,.bool false,.slice none 0 0,.string (⟨#[]⟩:ByteArray),.string (⟨#[]⟩:ByteArray),.bool false,.slice none 0 0,.slice none 0 0,.int .i64 0] 46 (0,0)) (by refine aH (cs:=#[.int .u8 0,.int .i64 eZ,.int .i64 a3,.int .i64 0,.int .i64 0,.bool false,.slice none 0 0,.string (⟨#[]⟩:ByteArray),.string (⟨#[]⟩:ByteArray),.bool false,.slice none 0 0,.slice none 0 0,.int .i64 0]) ?_ 0 _ rfl;refine aH (cs:=#[.int .u8 0,.int .i64 eZ,.int .i64 a3,.int .i64 0,.int .i64 0,.bool false,.slice none 0 0,.string (⟨#[]⟩:ByteArray),.string (⟨#[]⟩:ByteArray),.bool false,.slice none 0 0,.slice none 0 0,.int .i64 0]) ?_ 12 _ rfl;refine aH (cs:=#[.int .u8 0,.int .i64 eZ,.int .i64 a3,.int .i64 0,.int .i64 0,.bool false,.slice none 0 0,.string (⟨#[]⟩:ByteArray),.string (⟨#[]⟩:ByteArray),.bool false,.slice none 0 0,.slice none 0 0,.int .i64 0]) ?_ 11 _ rfl;refine aH (cs:=#[.int .u8 0,.int .i64 eZ,.int .i64 a3,.int .i64 0,.int .i64 0,.bool false,.slice none 0 0,.string (⟨#[]⟩:ByteArray),.string (⟨#[]⟩:ByteArray),.bool false,.slice none 0 0,.slice none 0 0,.int .i64 0]) ?_ 10 _ rfl;refine aH (cs:=#[.int .u8 0,.int .i64 eZ,.int .i64 a3,.int .i64 0,.int .i64 0,.bool false,.slice none 0 0,.string (⟨#[]⟩:ByteArray),.string (⟨#[]⟩:ByteArray),.bool false,.slice none 0 0,.slice none 0 0,.int .i64 0]) ?_ 9 _ rfl;refine aH (cs:=#[.int .u8 0,.int .i64 eZ,.int .i64 a3,.int .i64 0,.int .i64 0,.bool false,.slice none 0 0,.string (⟨#[]⟩:ByteArray),.string (⟨#[]⟩:ByteArray),.bool false,.slice none 0 0,.slice none 0 0,.int .i64 0]) ?_ 8 _ rfl;refine aH (cs:=#[.int .u8 0,.int .i64 eZ,.int .i64 a3,.int .i64 0,.int .i64 0,.bool false,.slice none 0 0,.string (⟨#[]⟩:ByteArray),.string (⟨#[]⟩:ByteArray),.bool false,.slice none 0 0,.slice none 0 0,.int .i64 0]) ?_ 7 _ rfl;refine aH (cs:=#[.int .u8 0,.int .i64 eZ,.int .i64 a3,.int .i64 0,.int .i64 0,.bool false,.slice none 0 0,.string (⟨#[]⟩:ByteArray),.string (⟨#[]⟩:ByteArray),.bool false,.slice none 0 0,.slice none 0 0,.int .i64 0]) ?_ 6 _ rfl;refine aH (cs:=#[.int .u8 0,.int .i64 eZ,.int .i64 a3,.int .i64 0,.int .i64 0,.bool false,.slice none 0 0,.string (⟨#[]⟩:ByteArray),.string (⟨#[]⟩:ByteArray),.bool false,.slice none 0 0,.slice none 0 0,.int .i64 0]) ?_ 5 _ rfl;refine aH (cs:=#[.int .u8 0,.int .i64 eZ,.int .i64 a3,.int .i64 0,.int .i64 0,.bool false,.slice none 0 0,.string (⟨#[]⟩:ByteArray),.string (⟨#[]⟩:ByteArray),.bool false,.slice none 0 0,.slice none 0 0,.int .i64 0]) ?_ 4 _ rfl;refine aH (cs:=#[.int .u8 0,.int .i64 eZ,.int .i64 a3,.int .i64 0,.int .i64 0,.bool false,.slice none 0 0,.string (⟨#[]⟩:ByteArray),.string (⟨#[]⟩:ByteArray),.bool false,.slice none 0 0,.slice none 0 0,.int .i64 0]) ?_ 3 _ rfl;refine aH (cs:=#[.int .u8 0,.int .i64 eZ,.int .i64 0,.int .i64 0,.int .i64 0,.bool false,.slice none 0 0,.string (⟨#[]⟩:ByteArray),.string (⟨#[]⟩:ByteArray),.bool false,.slice none 0 0,.slice none 0 0,.int .i64 0]) ?_ 2 _ rfl;refine aH (cs:=#[.int .u8 0,.int .i64 0,.int .i64 0,.int .i64 0,.int .i64 0,.bool false,.slice none 0 0,.string (⟨#[]⟩:ByteArray),.string (⟨#[]⟩:ByteArray),.bool false,.slice none 0 0,.slice none 0 0,.int .i64 0]) ?_ 1 _ rfl;refine aH (cs:=#[.int .u8 0,.int .i64 0,.int .i64 0,.int .i64 0,.int .i64 0,.bool false,.slice none 0 0,.string (⟨#[]⟩:ByteArray),.string (⟨#[]⟩:ByteArray),.bool false,.slice none 0 0,.slice none 0 0,.int .i64 0]) ?_ 0 _ rfl;exact bJ.out) hb);replace HB:=ah.mk (aA KV hb);(try clear hb);have ar6:zT.cell? ⟨bu,0,none⟩=some (.int .u8 4):=(af bJ.out 0).trans rfl;have ar7:zT.cell? ⟨bu,1,none⟩=some (.int .i64 eZ):=(af bJ.out 1).trans rfl;have ar8:zT.cell? ⟨bu,2,none⟩=some (.int .i64 a3):=(af bJ.out 2).trans rfl;have ar9:zT.cell? ⟨bu,3,none⟩=some (.int .i64 0):=(af bJ.out 3).trans rfl;have asa:zT.cell? ⟨bu,4,none⟩=some (.int .i64 0):=(af bJ.out 4).trans rfl;have asb:zT.cell? ⟨bu,5,none⟩=some (.bool false):=(af bJ.out 5).trans rfl;have asc:zT.cell? ⟨bu,6,none⟩=some (.slice none 0 0):=(af bJ.out 6).trans rfl;have ase:zT.cell? ⟨bu,7,none⟩=some (.string (⟨#[]⟩:ByteArray)):=(af bJ.out 7).trans rfl;have asf:zT.cell? ⟨bu,8,none⟩=some (.string (⟨#[]⟩:ByteArray)):=(af bJ.out 8).trans rfl;have asg:zT.cell? ⟨bu,9,none⟩=some (.bool false):=(af bJ.out 9).trans rfl;have ahI:zT.cell? ⟨bu,10,none⟩=some (.slice none 0 0):=(af bJ.out 10).trans rfl;have ahJ:zT.cell? ⟨bu,11,none⟩=some (.slice none 0 0):=(af bJ.out 11).trans rfl;have ahK:zT.cell? ⟨bu,12,none⟩=some (.int .i64 0):=(af bJ.out 12).trans rfl;have ash:=aa bJ.out 0;have asi:=aa bJ.out 1;have asj:=aa bJ.out 2;have asl:=aa bJ.out 3;have asn:=aa bJ.out 4;have aso:=aa bJ.out 5;have asp:=aa bJ.out 6;have asq:=aa bJ.out 7;have asr:=aa bJ.out 8;have ast:=aa bJ.out 9;have ahL:=aa bJ.out 10;have ahM:=aa bJ.out 11;have ahN:=aa bJ.out 12;have WX:zT.cell? ⟨cG,0,none⟩=some (.int .u8 0):=(af bH.out 0).trans rfl;have WY:zT.cell? ⟨cG,1,none⟩=some (.int .i64 0):=(af bH.out 1).trans rfl;have WZ:zT.cell? ⟨cG,2,none⟩=some (.int .i64 0):=(af bH.out 2).trans rfl;have W4:zT.cell? ⟨cG,3,none⟩=some (.int .i64 0):=(af bH.out 3).trans rfl;have W5:zT.cell? ⟨cG,4,none⟩=some (.int .i64 0):=(af bH.out 4).trans rfl;have W6:zT.cell? ⟨cG,5,none⟩=some (.bool false):=(af bH.out 5).trans rfl;have W7:zT.cell? ⟨cG,6,none⟩=some (.slice none 0 0):=(af bH.out 6).trans rfl;have W8:zT.cell? ⟨cG,7,none⟩=some (.string (⟨#[]⟩:ByteArray)):=(af bH.out 7).trans rfl;have W9:zT.cell? ⟨cG,8,none⟩=some (.string (⟨#[]⟩:ByteArray)):=(af bH.out 8).trans rfl;have Xa:zT.cell? ⟨cG,9,none⟩=some (.bool false):=(af bH.out 9).trans rfl;have RA:zT.cell? ⟨cG,10,none⟩=some (.slice none 0 0):=(af bH.out 10).trans rfl;have RB:zT.cell? ⟨cG,11,none⟩=some (.slice none 0 0):=(af bH.out 11).trans rfl;have RD:zT.cell? ⟨cG,12,none⟩=some (.int .i64 0):=(af bH.out 12).trans rfl;have Xb:=aa bH.out 0;have Xc:=aa bH.out 1;have Xd:=aa bH.out 2;have Xe:=aa bH.out 3;have Xf:=aa bH.out 4;have Xg:=aa bH.out 5;have Xh:=aa bH.out 6;have Xi:=aa bH.out 7;have Xj:=aa bH.out 8;have Xk:=aa bH.out 9;have RF:=aa bH.out 10;have RG:=aa bH.out 11;have RH:=aa bH.out 12))
         refine bodyPost_ret (kC rfl _ _ cG 46 #[.int .u8 2,.int .i64 eZ,.int .i64 a3,.int .i64 t291,.int .i64 0,.bool false,.slice none 0 0,.string (⟨#[]⟩:ByteArray),.string (⟨#[]⟩:ByteArray),.bool false,.slice none 0 0,.slice none 0 0,.int .i64 0] (0,0) _ rfl (by refine aH (cs:=#[.int .u8 2,.int .i64 eZ,.int .i64 a3,.int .i64 t291,.int .i64 0,.bool false,.slice none 0 0,.string (⟨#[]⟩:ByteArray),.string (⟨#[]⟩:ByteArray),.bool false,.slice none 0 0,.slice none 0 0,.int .i64 0]) ?_ 12 _ rfl;refine aH (cs:=#[.int .u8 2,.int .i64 eZ,.int .i64 a3,.int .i64 t291,.int .i64 0,.bool false,.slice none 0 0,.string (⟨#[]⟩:ByteArray),.string (⟨#[]⟩:ByteArray),.bool false,.slice none 0 0,.slice none 0 0,.int .i64 0]) ?_ 11 _ rfl;refine aH (cs:=#[.int .u8 2,.int .i64 eZ,.int .i64 a3,.int .i64 t291,.int .i64 0,.bool false,.slice none 0 0,.string (⟨#[]⟩:ByteArray),.string (⟨#[]⟩:ByteArray),.bool false,.slice none 0 0,.slice none 0 0,.int .i64 0]) ?_ 10 _ rfl;refine aH (cs:=#[.int .u8 2,.int .i64 eZ,.int .i64 a3,.int .i64 t291,.int .i64 0,.bool false,.slice none 0 0,.string (⟨#[]⟩:ByteArray),.string (⟨#[]⟩:ByteArray),.bool false,.slice none 0 0,.slice none 0 0,.int .i64 0]) ?_ 9 _ rfl;refine aH (cs:=#[.int .u8 2,.int .i64 eZ,.int .i64 a3,.int .i64 t291,.int .i64 0,.bool false,.slice none 0 0,.string (⟨#[]⟩:ByteArray),.string (⟨#[]⟩:ByteArray),.bool false,.slice none 0 0,.slice none 0 0,.int .i64 0]) ?_ 8 _ rfl;refine aH (cs:=#[.int .u8 2,.int .i64 eZ,.int .i64 a3,.int .i64 t291,.int .i64 0,.bool false,.slice none 0 0,.string (⟨#[]⟩:ByteArray),.string (⟨#[]⟩:ByteArray),.bool false,.slice none 0 0,.slice none 0 0,.int .i64 0]) ?_ 7 _ rfl;refine aH (cs:=#[.int .u8 2,.int .i64 eZ,.int .i64 a3,.int .i64 t291,.int .i64 0,.bool false,.slice none 0 0,.string (⟨#[]⟩:ByteArray),.string (⟨#[]⟩:ByteArray),.bool false,.slice none 0 0,.slice none 0 0,.int .i64 0]) ?_ 6 _ rfl;refine aH (cs:=#[.int .u8 2,.int .i64 eZ,.int .i64 a3,.int .i64 t291,.int .i64 0,.bool false,.slice none 0 0,.string (⟨#[]⟩:ByteArray),.string (⟨#[]⟩:ByteArray),.bool false,.slice none 0 0,.slice none 0 0,.int .i64 0]) ?_ 5 _ rfl;refine aH (cs:=#[.int .u8 2,.int .i64 eZ,.int .i64 a3,.int .i64 t291,.int .i64 0,.bool false,.slice none 0 0,.string (⟨#[]⟩:ByteArray),.string (⟨#[]⟩:ByteArray),.bool false,.slice none 0 0,.slice none 0 0,.int .i64 0]) ?_ 4 _ rfl;refine aH (cs:=#[.int .u8 2,.int .i64 eZ,.int .i64 a3,.int .i64 0,.int .i64 0,.bool false,.slice none 0 0,.string (⟨#[]⟩:ByteArray),.string (⟨#[]⟩:ByteArray),.bool false,.slice none 0 0,.slice none 0 0,.int .i64 0]) ?_ 3 _ rfl;refine aH (cs:=#[.int .u8 2,.int .i64 eZ,.int .i64 0,.int .i64 0,.int .i64 0,.bool false,.slice none 0 0,.string (⟨#[]⟩:ByteArray),.string (⟨#[]⟩:ByteArray),.bool false,.slice none 0 0,.slice none 0 0,.int .i64 0]) ?_ 2 _ rfl;refine aH (cs:=#[.int .u8 2,.int .i64 0,.int .i64 0,.int .i64 0,.int .i64 0,.bool false,.slice none 0 0,.string (⟨#[]⟩:ByteArray),.string (⟨#[]⟩:ByteArray),.bool false,.slice none 0 0,.slice none 0 0,.int .i64 0]) ?_ 1 _ rfl;refine aH (cs:=#[.int .u8 0,.int .i64 0,.int .i64 0,.int .i64 0,.int .i64 0,.bool false,.slice none 0 0,.string (⟨#[]⟩:ByteArray),.string (⟨#[]⟩:ByteArray),.bool false,.slice none 0 0,.slice none 0 0,.int .i64 0]) ?_ 0 _ rfl;refine aN ?_ bW.out _;refine aN ?_ bW.out _;exact bH.out) Tryz.underlying46 rfl aR) rfl ?_
         exact ⟨_,_,_,by rfl,iQ,iQ,iQ,zl⟩
        ·rw [if_neg c45] at H
         have ahD:=decide_eq_false c45
         clear c45
         simp only [Option.some.injEq,Prod.mk.injEq] at H
         obtain ⟨rfl,rfl,rfl,rfl,rfl,rfl,rfl,rfl,rfl,rfl,rfl,rfl,rfl,rfl⟩:=H
         have ahO:=lQ.out
         have ahP:=lR.out
         have Xl:wc.cell? ⟨cz,0,none⟩=some (.int .i64 eZ):=(af bw.out 0).trans rfl
         have Xm:wc.cell? ⟨cz,1,none⟩=some (.bool oF):=(af bw.out 1).trans rfl
         have asu:wc.cell? ⟨cz,2,none⟩=some (.slice uQ ni.length uR):=(af bw.out 2).trans rfl
         have asv:wc.cell? ⟨cz,3,none⟩=some (.string oG):=(af bw.out 3).trans rfl
         have asw:wc.cell? ⟨cz,4,none⟩=some (.string oH):=(af bw.out 4).trans rfl
         have asx:wc.cell? ⟨cz,5,none⟩=some (.bool oI):=(af bw.out 5).trans rfl
         have asy:wc.cell? ⟨cz,6,none⟩=some (.slice wu jX.length uS):=(af bw.out 6).trans rfl
         have asz:wc.cell? ⟨cz,7,none⟩=some (.slice uT nj.length uU):=(af bw.out 7).trans rfl
         have asA:wc.cell? ⟨cz,8,none⟩=some (.int .i64 nS):=(af bw.out 8).trans rfl
         have Xn:=aa bw.out 0
         have Xo:=aa bw.out 1
         have asB:=aa bw.out 2
         have asC:=aa bw.out 3
         have asD:=aa bw.out 4
         have asE:=aa bw.out 5
         have asF:=aa bw.out 6
         have asG:=aa bw.out 7
         have asH:=aa bw.out 8
         go_wp2_with (((with_reducible refine bI (N:=14) rfl ?_);(try (refine bT (by rfl) ?_;dsimp only));refine bR ?hg (N:=14) ?hd (cs:=#[.int .u8 0,.int .i64 0,.int .i64 0,.int .i64 0,.int .i64 0,.bool false,.slice none 0 0,.string (⟨#[]⟩:ByteArray),.string (⟨#[]⟩:ByteArray),.bool false,.slice none 0 0,.slice none 0 0,.int .i64 0]) (t:=46) ?hr ?_;(case hd=>rfl);(case hg=>rfl);(case hr=>(go_simp;done));intro bu hg nM b9 hb;have bJ:=ah.mk (b9);have oJ:=ah.mk ((bZ:w.heap.size≤bu));have AV:=ah.mk ((bZ:w.heap.size≤bu));replace HB:=ah.mk (aA aD hb);have eU:=ah.mk ((wN:cz≠bu));have kQ:=ah.mk ((wO:bu≠cz));replace bw:=ah.mk (aC wQ hb);have bW:=ah.mk ((zm:cG≠bu));have kR:=ah.mk ((zn:bu≠cG));replace bH:=ah.mk (aC zo hb);clear hb b9 hg;have aFH:=kQ.out;have aFI:=eU.out;have aFJ:=kR.out;have aFK:=bW.out;have Xp:nM.cell? ⟨bu,0,none⟩=some (.int .u8 0):=(af bJ.out 0).trans rfl;have Xq:nM.cell? ⟨bu,1,none⟩=some (.int .i64 0):=(af bJ.out 1).trans rfl;have Xr:nM.cell? ⟨bu,2,none⟩=some (.int .i64 0):=(af bJ.out 2).trans rfl;have Xt:nM.cell? ⟨bu,3,none⟩=some (.int .i64 0):=(af bJ.out 3).trans rfl;have Xu:nM.cell? ⟨bu,4,none⟩=some (.int .i64 0):=(af bJ.out 4).trans rfl;have Xv:nM.cell? ⟨bu,5,none⟩=some (.bool false):=(af bJ.out 5).trans rfl;have Xw:nM.cell? ⟨bu,6,none⟩=some (.slice none 0 0):=(af bJ.out 6).trans rfl;have Xx:nM.cell? ⟨bu,7,none⟩=some (.string (⟨#[]⟩:ByteArray)):=(af bJ.out 7).trans rfl;have Xy:nM.cell? ⟨bu,8,none⟩=some (.string (⟨#[]⟩:ByteArray)):=(af bJ.out 8).trans rfl;have Xz:nM.cell? ⟨bu,9,none⟩=some (.bool false):=(af bJ.out 9).trans rfl;have RI:nM.cell? ⟨bu,10,none⟩=some (.slice none 0 0):=(af bJ.out 10).trans rfl;have RJ:nM.cell? ⟨bu,11,none⟩=some (.slice none 0 0):=(af bJ.out 11).trans rfl;have RL:nM.cell? ⟨bu,12,none⟩=some (.int .i64 0):=(af bJ.out 12).trans rfl;have XA:=aa bJ.out 0;have XB:=aa bJ.out 1;have XC:=aa bJ.out 2;have XD:=aa bJ.out 3;have XE:=aa bJ.out 4;have XF:=aa bJ.out 5;have XG:=aa bJ.out 6;have XH:=aa bJ.out 7;have XI:=aa bJ.out 8;have XJ:=aa bJ.out 9;have RM:=aa bJ.out 10;have RN:=aa bJ.out 11;have RO:=aa bJ.out 12;have Nc:nM.cell? ⟨cz,0,none⟩=some (.int .i64 eZ):=(af bw.out 0).trans rfl;have Nf:nM.cell? ⟨cz,1,none⟩=some (.bool oF):=(af bw.out 1).trans rfl;have Ng:nM.cell? ⟨cz,2,none⟩=some (.slice uQ ni.length uR):=(af bw.out 2).trans rfl;have Nh:nM.cell? ⟨cz,3,none⟩=some (.string oG):=(af bw.out 3).trans rfl;have Nk:nM.cell? ⟨cz,4,none⟩=some (.string oH):=(af bw.out 4).trans rfl;have Nl:nM.cell? ⟨cz,5,none⟩=some (.bool oI):=(af bw.out 5).trans rfl;have Nn:nM.cell? ⟨cz,6,none⟩=some (.slice wu jX.length uS):=(af bw.out 6).trans rfl;have Np:nM.cell? ⟨cz,7,none⟩=some (.slice uT nj.length uU):=(af bw.out 7).trans rfl;have Nq:nM.cell? ⟨cz,8,none⟩=some (.int .i64 nS):=(af bw.out 8).trans rfl;have Nr:=aa bw.out 0;have Ns:=aa bw.out 1;have Nt:=aa bw.out 2;have Nu:=aa bw.out 3;have Nv:=aa bw.out 4;have Nw:=aa bw.out 5;have Ny:=aa bw.out 6;have Nz:=aa bw.out 7;have NA:=aa bw.out 8;have asI:nM.cell? ⟨cG,0,none⟩=some (.int .u8 0):=(af bH.out 0).trans rfl;have asJ:nM.cell? ⟨cG,1,none⟩=some (.int .i64 0):=(af bH.out 1).trans rfl;have asK:nM.cell? ⟨cG,2,none⟩=some (.int .i64 0):=(af bH.out 2).trans rfl;have asL:nM.cell? ⟨cG,3,none⟩=some (.int .i64 0):=(af bH.out 3).trans rfl;have asM:nM.cell? ⟨cG,4,none⟩=some (.int .i64 0):=(af bH.out 4).trans rfl;have asN:nM.cell? ⟨cG,5,none⟩=some (.bool false):=(af bH.out 5).trans rfl;have asO:nM.cell? ⟨cG,6,none⟩=some (.slice none 0 0):=(af bH.out 6).trans rfl;have asP:nM.cell? ⟨cG,7,none⟩=some (.string (⟨#[]⟩:ByteArray)):=(af bH.out 7).trans rfl;have asQ:nM.cell? ⟨cG,8,none⟩=some (.string (⟨#[]⟩:ByteArray)):=(af bH.out 8).trans rfl;have asR:nM.cell? ⟨cG,9,none⟩=some (.bool false):=(af bH.out 9).trans rfl;have ahQ:nM.cell? ⟨cG,10,none⟩=some (.slice none 0 0):=(af bH.out 10).trans rfl;have ahR:nM.cell? ⟨cG,11,none⟩=some (.slice none 0 0):=(af bH.out 11).trans rfl;have ahS:nM.cell? ⟨cG,12,none⟩=some (.int .i64 0):=(af bH.out 12).trans rfl;have asS:=aa bH.out 0;have asT:=aa bH.out 1;have asU:=aa bH.out 2;have asV:=aa bH.out 3;have asW:=aa bH.out 4;have asX:=aa bH.out 5;have asY:=aa bH.out 6;have asZ:=aa bH.out 7;have as0:=aa bH.out 8;have as1:=aa bH.out 9;have ahT:=aa bH.out 10;have ahU:=aa bH.out 11;have ahV:=aa bH.out 12))
         refine bodyPost_ret (kC rfl _ _ cG 46 #[.int .u8 4,.int .i64 eZ,.int .i64 a3,.int .i64 0,.int .i64 0,.bool false,.slice none 0 0,.string (⟨#[]⟩:ByteArray),.string (⟨#[]⟩:ByteArray),.bool false,.slice none 0 0,.slice none 0 0,.int .i64 0] (0,0) _ rfl PZ Tryz.underlying46 rfl aR) rfl ?_
         exact ⟨_,_,_,by rfl,iQ,iQ,iQ,zl⟩
       ·rw [if_neg Rz] at H
        have ahC:=decide_eq_false Rz
        clear Rz
        simp only [Option.some.injEq,Prod.mk.injEq] at H
        obtain ⟨rfl,rfl,rfl,rfl,rfl,rfl,rfl,rfl,rfl,rfl,rfl,rfl,rfl,rfl⟩:=H
        have aFL:=lQ.out
        have aFM:=lR.out
        have XK:wc.cell? ⟨cz,0,none⟩=some (.int .i64 eZ):=(af bw.out 0).trans rfl
        have XL:wc.cell? ⟨cz,1,none⟩=some (.bool oF):=(af bw.out 1).trans rfl
        have XM:wc.cell? ⟨cz,2,none⟩=some (.slice uQ ni.length uR):=(af bw.out 2).trans rfl
        have XN:wc.cell? ⟨cz,3,none⟩=some (.string oG):=(af bw.out 3).trans rfl
        have XO:wc.cell? ⟨cz,4,none⟩=some (.string oH):=(af bw.out 4).trans rfl
        have XP:wc.cell? ⟨cz,5,none⟩=some (.bool oI):=(af bw.out 5).trans rfl
        have XQ:wc.cell? ⟨cz,6,none⟩=some (.slice wu jX.length uS):=(af bw.out 6).trans rfl
        have XR:wc.cell? ⟨cz,7,none⟩=some (.slice uT nj.length uU):=(af bw.out 7).trans rfl
        have XS:wc.cell? ⟨cz,8,none⟩=some (.int .i64 nS):=(af bw.out 8).trans rfl
        have XT:=aa bw.out 0
        have XU:=aa bw.out 1
        have XV:=aa bw.out 2
        have XW:=aa bw.out 3
        have XX:=aa bw.out 4
        have XY:=aa bw.out 5
        have XZ:=aa bw.out 6
        have X0:=aa bw.out 7
        have X3:=aa bw.out 8
        go_wp2_with (((with_reducible refine bI (N:=14) rfl ?_);(try (refine bT (by rfl) ?_;dsimp only));refine bR ?hg (N:=14) ?hd (cs:=#[.int .u8 0,.int .i64 0,.int .i64 0,.int .i64 0,.int .i64 0,.bool false,.slice none 0 0,.string (⟨#[]⟩:ByteArray),.string (⟨#[]⟩:ByteArray),.bool false,.slice none 0 0,.slice none 0 0,.int .i64 0]) (t:=46) ?hr ?_;(case hd=>rfl);(case hg=>rfl);(case hr=>(go_simp;done));intro bu hg qW b9 hb;have bJ:=ah.mk (b9);have oJ:=ah.mk ((bZ:w.heap.size≤bu));have AV:=ah.mk ((bZ:w.heap.size≤bu));replace HB:=ah.mk (aA aD hb);have eU:=ah.mk ((wN:cz≠bu));have kQ:=ah.mk ((wO:bu≠cz));replace bw:=ah.mk (aC wQ hb);have bW:=ah.mk ((zm:cG≠bu));have kR:=ah.mk ((zn:bu≠cG));replace bH:=ah.mk (aC zo hb);clear hb b9 hg;have aFN:=kQ.out;have aFO:=eU.out;have aFP:=kR.out;have aFQ:=bW.out;have X4:qW.cell? ⟨bu,0,none⟩=some (.int .u8 0):=(af bJ.out 0).trans rfl;have X5:qW.cell? ⟨bu,1,none⟩=some (.int .i64 0):=(af bJ.out 1).trans rfl;have X6:qW.cell? ⟨bu,2,none⟩=some (.int .i64 0):=(af bJ.out 2).trans rfl;have X7:qW.cell? ⟨bu,3,none⟩=some (.int .i64 0):=(af bJ.out 3).trans rfl;have X8:qW.cell? ⟨bu,4,none⟩=some (.int .i64 0):=(af bJ.out 4).trans rfl;have X9:qW.cell? ⟨bu,5,none⟩=some (.bool false):=(af bJ.out 5).trans rfl;have Ya:qW.cell? ⟨bu,6,none⟩=some (.slice none 0 0):=(af bJ.out 6).trans rfl;have Yb:qW.cell? ⟨bu,7,none⟩=some (.string (⟨#[]⟩:ByteArray)):=(af bJ.out 7).trans rfl;have Yc:qW.cell? ⟨bu,8,none⟩=some (.string (⟨#[]⟩:ByteArray)):=(af bJ.out 8).trans rfl;have as2:qW.cell? ⟨bu,9,none⟩=some (.bool false):=(af bJ.out 9).trans rfl;have ahW:qW.cell? ⟨bu,10,none⟩=some (.slice none 0 0):=(af bJ.out 10).trans rfl;have ahX:qW.cell? ⟨bu,11,none⟩=some (.slice none 0 0):=(af bJ.out 11).trans rfl;have ahY:qW.cell? ⟨bu,12,none⟩=some (.int .i64 0):=(af bJ.out 12).trans rfl;have Yd:=aa bJ.out 0;have Ye:=aa bJ.out 1;have Yf:=aa bJ.out 2;have Yg:=aa bJ.out 3;have Yh:=aa bJ.out 4;have Yi:=aa bJ.out 5;have Yj:=aa bJ.out 6;have Yk:=aa bJ.out 7;have Yl:=aa bJ.out 8;have as3:=aa bJ.out 9;have ahZ:=aa bJ.out 10;have ah0:=aa bJ.out 11;have ah1:=aa bJ.out 12;have Ym:qW.cell? ⟨cz,0,none⟩=some (.int .i64 eZ):=(af bw.out 0).trans rfl;have Yn:qW.cell? ⟨cz,1,none⟩=some (.bool oF):=(af bw.out 1).trans rfl;have Yo:qW.cell? ⟨cz,2,none⟩=some (.slice uQ ni.length uR):=(af bw.out 2).trans rfl;have Yp:qW.cell? ⟨cz,3,none⟩=some (.string oG):=(af bw.out 3).trans rfl;have Yq:qW.cell? ⟨cz,4,none⟩=some (.string oH):=(af bw.out 4).trans rfl;have Yr:qW.cell? ⟨cz,5,none⟩=some (.bool oI):=(af bw.out 5).trans rfl;have Yt:qW.cell? ⟨cz,6,none⟩=some (.slice wu jX.length uS):=(af bw.out 6).trans rfl;have Yu:qW.cell? ⟨cz,7,none⟩=some (.slice uT nj.length uU):=(af bw.out 7).trans rfl;have Yv:qW.cell? ⟨cz,8,none⟩=some (.int .i64 nS):=(af bw.out 8).trans rfl;have Yw:=aa bw.out 0;have Yx:=aa bw.out 1;have Yy:=aa bw.out 2;have Yz:=aa bw.out 3;have YA:=aa bw.out 4;have YB:=aa bw.out 5;have YC:=aa bw.out 6;have YD:=aa bw.out 7;have YE:=aa bw.out 8;have YF:qW.cell? ⟨cG,0,none⟩=some (.int .u8 0):=(af bH.out 0).trans rfl;have YG:qW.cell? ⟨cG,1,none⟩=some (.int .i64 0):=(af bH.out 1).trans rfl;have YH:qW.cell? ⟨cG,2,none⟩=some (.int .i64 0):=(af bH.out 2).trans rfl;have YI:qW.cell? ⟨cG,3,none⟩=some (.int .i64 0):=(af bH.out 3).trans rfl;have YJ:qW.cell? ⟨cG,4,none⟩=some (.int .i64 0):=(af bH.out 4).trans rfl;have YK:qW.cell? ⟨cG,5,none⟩=some (.bool false):=(af bH.out 5).trans rfl;have YL:qW.cell? ⟨cG,6,none⟩=some (.slice none 0 0):=(af bH.out 6).trans rfl;have YM:qW.cell? ⟨cG,7,none⟩=some (.string (⟨#[]⟩:ByteArray)):=(af bH.out 7).trans rfl;have YN:qW.cell? ⟨cG,8,none⟩=some (.string (⟨#[]⟩:ByteArray)):=(af bH.out 8).trans rfl;have as4:qW.cell? ⟨cG,9,none⟩=some (.bool false):=(af bH.out 9).trans rfl;have ah2:qW.cell? ⟨cG,10,none⟩=some (.slice none 0 0):=(af bH.out 10).trans rfl;have ah3:qW.cell? ⟨cG,11,none⟩=some (.slice none 0 0):=(af bH.out 11).trans rfl;have ah4:qW.cell? ⟨cG,12,none⟩=some (.int .i64 0):=(af bH.out 12).trans rfl;have YO:=aa bH.out 0;have YP:=aa bH.out 1;have YQ:=aa bH.out 2;have YR:=aa bH.out 3;have YS:=aa bH.out 4;have YT:=aa bH.out 5;have YU:=aa bH.out 6;have YV:=aa bH.out 7;have YW:=aa bH.out 8;have as5:=aa bH.out 9;have ah5:=aa bH.out 10;have ah6:=aa bH.out 11;have ah7:=aa bH.out 12))
        refine bodyPost_ret (kC rfl _ _ cG 46 #[.int .u8 4,.int .i64 eZ,.int .i64 a3,.int .i64 0,.int .i64 0,.bool false,.slice none 0 0,.string (⟨#[]⟩:ByteArray),.string (⟨#[]⟩:ByteArray),.bool false,.slice none 0 0,.slice none 0 0,.int .i64 0] (0,0) _ rfl PZ Tryz.underlying46 rfl aR) rfl ?_
        exact ⟨_,_,_,by rfl,iQ,iQ,iQ,zl⟩
      ·rw [if_neg Pj] at H
       have abx:=beq_eq_false_iff_ne.mpr Pj
       have aby:=bne_iff_ne.mpr Pj
       simp only [Option.some.injEq,Prod.mk.injEq] at H
       obtain ⟨rfl,rfl,rfl,rfl,rfl,rfl,rfl,rfl,rfl,rfl,rfl,rfl,rfl,rfl⟩:=H
       have aFR:=lQ.out
       have aFS:=lR.out
       have as6:wc.cell? ⟨cz,0,none⟩=some (.int .i64 eZ):=(af bw.out 0).trans rfl
       have as7:wc.cell? ⟨cz,1,none⟩=some (.bool oF):=(af bw.out 1).trans rfl
       have as8:wc.cell? ⟨cz,2,none⟩=some (.slice uQ ni.length uR):=(af bw.out 2).trans rfl
       have as9:wc.cell? ⟨cz,3,none⟩=some (.string oG):=(af bw.out 3).trans rfl
       have ata:wc.cell? ⟨cz,4,none⟩=some (.string oH):=(af bw.out 4).trans rfl
       have atb:wc.cell? ⟨cz,5,none⟩=some (.bool oI):=(af bw.out 5).trans rfl
       have atc:wc.cell? ⟨cz,6,none⟩=some (.slice wu jX.length uS):=(af bw.out 6).trans rfl
       have atd:wc.cell? ⟨cz,7,none⟩=some (.slice uT nj.length uU):=(af bw.out 7).trans rfl
       have ate:wc.cell? ⟨cz,8,none⟩=some (.int .i64 nS):=(af bw.out 8).trans rfl
       have atf:=aa bw.out 0
       have atg:=aa bw.out 1
       have ath:=aa bw.out 2
       have ati:=aa bw.out 3
       have atj:=aa bw.out 4
       have atk:=aa bw.out 5
       have atl:=aa bw.out 6
       have atm:=aa bw.out 7
       have atn:=aa bw.out 8
       go_wp2_with (((with_reducible refine bI (N:=14) rfl ?_);(try (refine bT (by rfl) ?_;dsimp only));refine bR ?hg (N:=14) ?hd (cs:=#[.int .u8 0,.int .i64 0,.int .i64 0,.int .i64 0,.int .i64 0,.bool false,.slice none 0 0,.string (⟨#[]⟩:ByteArray),.string (⟨#[]⟩:ByteArray),.bool false,.slice none 0 0,.slice none 0 0,.int .i64 0]) (t:=46) ?hr ?_;(case hd=>rfl);(case hg=>rfl);(case hr=>(go_simp;done));intro bu hg zU b9 hb;have bJ:=ah.mk (b9);have oJ:=ah.mk ((bZ:w.heap.size≤bu));have AV:=ah.mk ((bZ:w.heap.size≤bu));replace HB:=ah.mk (aA aD hb);have eU:=ah.mk ((wN:cz≠bu));have kQ:=ah.mk ((wO:bu≠cz));replace bw:=ah.mk (aC wQ hb);have bW:=ah.mk ((zm:cG≠bu));have kR:=ah.mk ((zn:bu≠cG));replace bH:=ah.mk (aC zo hb);clear hb b9 hg;have aFT:=kQ.out;have aFU:=eU.out;have aFV:=kR.out;have aFW:=bW.out;have ato:zU.cell? ⟨bu,0,none⟩=some (.int .u8 0):=(af bJ.out 0).trans rfl;have atp:zU.cell? ⟨bu,1,none⟩=some (.int .i64 0):=(af bJ.out 1).trans rfl;have atq:zU.cell? ⟨bu,2,none⟩=some (.int .i64 0):=(af bJ.out 2).trans rfl;have atr:zU.cell? ⟨bu,3,none⟩=some (.int .i64 0):=(af bJ.out 3).trans rfl;have att:zU.cell? ⟨bu,4,none⟩=some (.int .i64 0):=(af bJ.out 4).trans rfl;have atu:zU.cell? ⟨bu,5,none⟩=some (.bool false):=(af bJ.out 5).trans rfl;have atv:zU.cell? ⟨bu,6,none⟩=some (.slice none 0 0):=(af bJ.out 6).trans rfl;have atw:zU.cell? ⟨bu,7,none⟩=some (.string (⟨#[]⟩:ByteArray)):=(af bJ.out 7).trans rfl;have atx:zU.cell? ⟨bu,8,none⟩=some (.string (⟨#[]⟩:ByteArray)):=(af bJ.out 8).trans rfl;have aty:zU.cell? ⟨bu,9,none⟩=some (.bool false):=(af bJ.out 9).trans rfl;have ah8:zU.cell? ⟨bu,10,none⟩=some (.slice none 0 0):=(af bJ.out 10).trans rfl;have ah9:zU.cell? ⟨bu,11,none⟩=some (.slice none 0 0):=(af bJ.out 11).trans rfl;have aia:zU.cell? ⟨bu,12,none⟩=some (.int .i64 0):=(af bJ.out 12).trans rfl;have atz:=aa bJ.out 0;have atA:=aa bJ.out 1;have atB:=aa bJ.out 2;have atC:=aa bJ.out 3;have atD:=aa bJ.out 4;have atE:=aa bJ.out 5;have atF:=aa bJ.out 6;have atG:=aa bJ.out 7;have atH:=aa bJ.out 8;have atI:=aa bJ.out 9;have aib:=aa bJ.out 10;have aic:=aa bJ.out 11;have aid:=aa bJ.out 12;have atJ:zU.cell? ⟨cG,0,none⟩=some (.int .u8 0):=(af bH.out 0).trans rfl;have atK:zU.cell? ⟨cG,1,none⟩=some (.int .i64 0):=(af bH.out 1).trans rfl;have atL:zU.cell? ⟨cG,2,none⟩=some (.int .i64 0):=(af bH.out 2).trans rfl;have atM:zU.cell? ⟨cG,3,none⟩=some (.int .i64 0):=(af bH.out 3).trans rfl;have atN:zU.cell? ⟨cG,4,none⟩=some (.int .i64 0):=(af bH.out 4).trans rfl;have atO:zU.cell? ⟨cG,5,none⟩=some (.bool false):=(af bH.out 5).trans rfl;have atP:zU.cell? ⟨cG,6,none⟩=some (.slice none 0 0):=(af bH.out 6).trans rfl;have atQ:zU.cell? ⟨cG,7,none⟩=some (.string (⟨#[]⟩:ByteArray)):=(af bH.out 7).trans rfl;have atS:zU.cell? ⟨cG,8,none⟩=some (.string (⟨#[]⟩:ByteArray)):=(af bH.out 8).trans rfl;have atT:zU.cell? ⟨cG,9,none⟩=some (.bool false):=(af bH.out 9).trans rfl;have aie:zU.cell? ⟨cG,10,none⟩=some (.slice none 0 0):=(af bH.out 10).trans rfl;have aif:zU.cell? ⟨cG,11,none⟩=some (.slice none 0 0):=(af bH.out 11).trans rfl;have aih:zU.cell? ⟨cG,12,none⟩=some (.int .i64 0):=(af bH.out 12).trans rfl;have atU:=aa bH.out 0;have atV:=aa bH.out 1;have atW:=aa bH.out 2;have atX:=aa bH.out 3;have atY:=aa bH.out 4;have atZ:=aa bH.out 5;have at0:=aa bH.out 6;have at1:=aa bH.out 7;have at2:=aa bH.out 8;have at3:=aa bH.out 9;have aii:=aa bH.out 10;have aij:=aa bH.out 11;have aik:=aa bH.out 12))
       refine bodyPost_ret (kC rfl _ _ cG 46 #[.int .u8 0,.int .i64 0,.int .i64 0,.int .i64 0,.int .i64 0,.bool false,.slice none 0 0,.string (⟨#[]⟩:ByteArray),.string (⟨#[]⟩:ByteArray),.bool false,.slice none 0 0,.slice none 0 0,.int .i64 0] (0,0) _ rfl (by refine aH (cs:=#[.int .u8 0,.int .i64 0,.int .i64 0,.int .i64 0,.int .i64 0,.bool false,.slice none 0 0,.string (⟨#[]⟩:ByteArray),.string (⟨#[]⟩:ByteArray),.bool false,.slice none 0 0,.slice none 0 0,.int .i64 0]) ?_ 12 _ rfl;refine aH (cs:=#[.int .u8 0,.int .i64 0,.int .i64 0,.int .i64 0,.int .i64 0,.bool false,.slice none 0 0,.string (⟨#[]⟩:ByteArray),.string (⟨#[]⟩:ByteArray),.bool false,.slice none 0 0,.slice none 0 0,.int .i64 0]) ?_ 11 _ rfl;refine aH (cs:=#[.int .u8 0,.int .i64 0,.int .i64 0,.int .i64 0,.int .i64 0,.bool false,.slice none 0 0,.string (⟨#[]⟩:ByteArray),.string (⟨#[]⟩:ByteArray),.bool false,.slice none 0 0,.slice none 0 0,.int .i64 0]) ?_ 10 _ rfl;refine aH (cs:=#[.int .u8 0,.int .i64 0,.int .i64 0,.int .i64 0,.int .i64 0,.bool false,.slice none 0 0,.string (⟨#[]⟩:ByteArray),.string (⟨#[]⟩:ByteArray),.bool false,.slice none 0 0,.slice none 0 0,.int .i64 0]) ?_ 9 _ rfl;refine aH (cs:=#[.int .u8 0,.int .i64 0,.int .i64 0,.int .i64 0,.int .i64 0,.bool false,.slice none 0 0,.string (⟨#[]⟩:ByteArray),.string (⟨#[]⟩:ByteArray),.bool false,.slice none 0 0,.slice none 0 0,.int .i64 0]) ?_ 8 _ rfl;refine aH (cs:=#[.int .u8 0,.int .i64 0,.int .i64 0,.int .i64 0,.int .i64 0,.bool false,.slice none 0 0,.string (⟨#[]⟩:ByteArray),.string (⟨#[]⟩:ByteArray),.bool false,.slice none 0 0,.slice none 0 0,.int .i64 0]) ?_ 7 _ rfl;refine aH (cs:=#[.int .u8 0,.int .i64 0,.int .i64 0,.int .i64 0,.int .i64 0,.bool false,.slice none 0 0,.string (⟨#[]⟩:ByteArray),.string (⟨#[]⟩:ByteArray),.bool false,.slice none 0 0,.slice none 0 0,.int .i64 0]) ?_ 6 _ rfl;refine aH (cs:=#[.int .u8 0,.int .i64 0,.int .i64 0,.int .i64 0,.int .i64 0,.bool false,.slice none 0 0,.string (⟨#[]⟩:ByteArray),.string (⟨#[]⟩:ByteArray),.bool false,.slice none 0 0,.slice none 0 0,.int .i64 0]) ?_ 5 _ rfl;refine aH (cs:=#[.int .u8 0,.int .i64 0,.int .i64 0,.int .i64 0,.int .i64 0,.bool false,.slice none 0 0,.string (⟨#[]⟩:ByteArray),.string (⟨#[]⟩:ByteArray),.bool false,.slice none 0 0,.slice none 0 0,.int .i64 0]) ?_ 4 _ rfl;refine aH (cs:=#[.int .u8 0,.int .i64 0,.int .i64 0,.int .i64 0,.int .i64 0,.bool false,.slice none 0 0,.string (⟨#[]⟩:ByteArray),.string (⟨#[]⟩:ByteArray),.bool false,.slice none 0 0,.slice none 0 0,.int .i64 0]) ?_ 3 _ rfl;refine aH (cs:=#[.int .u8 0,.int .i64 0,.int .i64 0,.int .i64 0,.int .i64 0,.bool false,.slice none 0 0,.string (⟨#[]⟩:ByteArray),.string (⟨#[]⟩:ByteArray),.bool false,.slice none 0 0,.slice none 0 0,.int .i64 0]) ?_ 2 _ rfl;refine aH (cs:=#[.int .u8 0,.int .i64 0,.int .i64 0,.int .i64 0,.int .i64 0,.bool false,.slice none 0 0,.string (⟨#[]⟩:ByteArray),.string (⟨#[]⟩:ByteArray),.bool false,.slice none 0 0,.slice none 0 0,.int .i64 0]) ?_ 1 _ rfl;refine aH (cs:=#[.int .u8 0,.int .i64 0,.int .i64 0,.int .i64 0,.int .i64 0,.bool false,.slice none 0 0,.string (⟨#[]⟩:ByteArray),.string (⟨#[]⟩:ByteArray),.bool false,.slice none 0 0,.slice none 0 0,.int .i64 0]) ?_ 0 _ rfl;refine aN ?_ bW.out _;refine aN ?_ bW.out _;refine aN ?_ bW.out _;refine aN ?_ bW.out _;refine aN ?_ bW.out _;refine aN ?_ bW.out _;refine aN ?_ bW.out _;refine aN ?_ bW.out _;refine aN ?_ bW.out _;refine aN ?_ bW.out _;refine aN ?_ bW.out _;refine aN ?_ bW.out _;refine aN ?_ bW.out _;exact bH.out) Tryz.underlying46 rfl aR) rfl ?_
       exact ⟨_,_,_,by rfl,iQ,iQ,iQ,zl⟩
def dH.l0:Nat→List Int→List (qV)→Int→Int→Option (List Int)
 | 0,_,_,_,_ =>none
 |k + 1,x3,x9,qX,Aj=>if Aj < qX then (if 0≤Aj then (if Aj < (x9.length:Int) then ((lO.f ((av x9 Aj).f0) ((av x9 Aj).f1.f0) ((av x9 Aj).f1.f1) ((av x9 Aj).f1.f2.f0) ((av x9 Aj).f1.f2.f1) ((av x9 Aj).f1.f2.f2) ((av x9 Aj).f2) ((av x9 Aj).f3) ((av x9 Aj).f4)).bind fun ail=>(if ail.1=true then (if x3.length < 17592186044416 then (dH.l0 k (x3 ++ [(av x9 Aj).f0]) x9 qX (wrap64 (Aj + 1))) else (none)) else (dH.l0 k x3 x9 qX (wrap64 (Aj + 1))))) else (none)) else (none)) else (some x3)
def dH.f (k:Nat) (bB:Int) (bn:List (qV)):Option (List Int):=dH.l0 k ([]:List Int) bn (bn.length:Int) 0
theorem dH.calls (k:Nat) (bB:Int) (lZ:Option Addr) (kE:Nat) (bn:List (qV)) (r:List Int) (w:World) (uV:Kd.C Cb w lZ bn.length bn) (uW:bn.length≤kE) (h:dH.f k bB bn=some r):
 Calls Tryz.prog 19 #[.agg #[.int .i64 bB,.slice lZ bn.length kE]] w fun e w'=>∃ H8:Value,e= .returned (H8)∧Kd.R (Kd.int .i64) 3 w' w.heap.size (fun _ =>True) H8 r∧Below w.heap.size w w':=by
 have adw:=Tryz.underlying40
 have Dg:=Tryz.underlying34
 have CE:=ah.mk uV
 have RP:=ah.mk uW
 clear uV uW
 have HB:=ah.mk (Below.refl w.heap.size w)
 have H:(dH.l0 k ([]:List Int) bn (bn.length:Int) 0)=some r:=h
 clear h
 have H':=ah.mk H
 clear H
 go_enter Tryz.func19,Tryz.ntmps19
 go_wp2_with (((with_reducible refine bI (N:=1) rfl ?_);refine bR ?hg (N:=1) ?hd (cs:=#[.int .i64 bB,.slice lZ bn.length kE]) (t:=40) ?hr ?_;(case hd=>rfl);(case hg=>rfl);(case hr=>(go_simp;done));intro uq hg w2 b9 hb;have sy:=ah.mk (b9);have aFX:=ah.mk ((bZ:w.heap.size≤uq));have aFY:=ah.mk ((bZ:w.heap.size≤uq));replace HB:=ah.mk (aA aD hb);clear hb b9 hg;have RQ:w2.cell? ⟨uq,0,none⟩=some (.int .i64 bB):=(af sy.out 0).trans rfl;have RR:w2.cell? ⟨uq,1,none⟩=some (.slice lZ bn.length kE):=(af sy.out 1).trans rfl;have RS:=aa sy.out 0;have RT:=aa sy.out 1))
 go_loopg [3,11] k (fun kq v3 v11 w'=>∃ (Ad:List Int) (cy:Int),v11= .int .i64 cy∧ah (dH.l0 kq Ad bn (bn.length:Int) cy=some r)∧ah (kq≤k)∧ah (Kd.R (Kd.int .i64) 3 w' w.heap.size (fun _ =>True) v3 Ad)∧ah (w'.heap[uq]? =some (.cells #[.int .i64 bB,(.slice lZ bn.length kE)] 40 (0,0)))∧ah (Below w.heap.size w w'))
 case atStart=>exact ⟨(([]:List Int)),(0),(by rfl),H',⟨Nat.le_refl _⟩,⟨iQ⟩,⟨pL⟩,⟨aD⟩⟩
 case round=>
  clear H'
  obtain ⟨Ad,cy,rfl,HA,sw,z8,sy,HB⟩:=hrel
  cases gk with
  |zero=>exact absurd HA.out (by simp [dH.l0])
  |succ k1=>
   have H:=HA.out
   clear HA
   simp only [dH.l0] at H
   by_cases c4:cy < (bn.length:Int)
   ·rw [if_pos c4] at H
    have oU:=decide_eq_true c4
    clear c4
    obtain ⟨c5,H⟩:=ld H
    have uA:=decide_eq_true c5
    clear c5
    obtain ⟨c6,H⟩:=ld H
    have Cm:=decide_eq_true c6
    clear c6
    obtain ⟨⟨t295,t296⟩,A7,H⟩:=bd_ H
    (try dsimp only at H)
    by_cases c8:t295=true
    ·subst c8
     rw [if_pos rfl] at H
     obtain ⟨c9,H⟩:=ld H
     have aBB:=ah.mk c9
     clear c9
     obtain ⟨aim,RU⟩:∃ y_:List Int,y_=(Ad ++ [(av bn cy).f0]):=⟨_,rfl⟩
     replace H:(dH.l0 k1 aim bn (bn.length:Int) (wrap64 (cy + 1)))=some r:=by (rw [RU];with_reducible exact H)
     have ain:=ah.mk RU
     clear RU
     have H':=ah.mk H
     clear H
     have JJ: 0≤(cy:Int):=of_decide_eq_true cP
     have JK:cy < (bn.length:Int):=of_decide_eq_true cP
     obtain ⟨NB,nV,nW,rO,rP,sV,sW,adI,tO,tP,tQ,tR,tS,tT,tU,tV,tW,xP,xQ,xR,xS,xU,xV⟩:=uP CE.out cy JJ JK
     cases adI
     replace tO:=(HB.out.cell (World.block_lt_of_cell? w _ tO)).trans tO
     replace tP:=(HB.out.cell (World.block_lt_of_cell? w _ tP)).trans tP
     replace tQ:=(HB.out.cell (World.block_lt_of_cell? w _ tQ)).trans tQ
     replace tR:=(HB.out.cell (World.block_lt_of_cell? w _ tR)).trans tR
     replace tS:=(HB.out.cell (World.block_lt_of_cell? w _ tS)).trans tS
     replace tT:=(HB.out.cell (World.block_lt_of_cell? w _ tT)).trans tT
     replace tU:=(HB.out.cell (World.block_lt_of_cell? w _ tU)).trans tU
     replace tV:=(HB.out.cell (World.block_lt_of_cell? w _ tV)).trans tV
     replace tW:=(HB.out.cell (World.block_lt_of_cell? w _ tW)).trans tW
     have Ez:=ah.mk xQ
     have EA:=ah.mk xP
     clear xQ xP
     have EB:=ah.mk xS
     have EC:=ah.mk xR
     clear xS xR
     have ED:=ah.mk xV
     have EE:=ah.mk xU
     clear xV xU
     replace JJ:=eq_true JJ
     replace JK:=eq_true JK
     go_wp2_with (first|((with_reducible refine bI (N:=5) rfl ?_);refine bR ?hg (N:=5) ?hd (cs:=#[.int .i64 0,.bool false,.slice none 0 0,.string (⟨#[]⟩:ByteArray),.string (⟨#[]⟩:ByteArray),.bool false,.slice none 0 0,.slice none 0 0,.int .i64 0]) (t:=34) ?hr ?_;(case hd=>rfl);(case hg=>rfl);(case hr=>(go_simp;done));intro gp hg sI b9 hb;replace z8:=ah.mk (Kd.aM qj hb);have eI:=ah.mk (b9);have aio:=ah.mk ((bZ:w.heap.size≤gp));have aa1:=ah.mk ((bZ:w.heap.size≤gp));replace HB:=ah.mk (aA aD hb);have kr:=ah.mk ((by rw [hg];exact Nat.ne_of_lt (fu pL):uq≠gp));have zC:=ah.mk ((by rw [hg];exact Nat.ne_of_gt (fu pL):gp≠uq));replace sy:=ah.mk (aC pL hb);clear hb b9 hg;have aFZ:=zC.out;have aF0:=kr.out;have xW:sI.cell? ⟨gp,0,none⟩=some (.int .i64 0):=(af eI.out 0).trans rfl;have xX:sI.cell? ⟨gp,1,none⟩=some (.bool false):=(af eI.out 1).trans rfl;have AA:sI.cell? ⟨gp,2,none⟩=some (.slice none 0 0):=(af eI.out 2).trans rfl;have EF:sI.cell? ⟨gp,3,none⟩=some (.string (⟨#[]⟩:ByteArray)):=(af eI.out 3).trans rfl;have EG:sI.cell? ⟨gp,4,none⟩=some (.string (⟨#[]⟩:ByteArray)):=(af eI.out 4).trans rfl;have EH:sI.cell? ⟨gp,5,none⟩=some (.bool false):=(af eI.out 5).trans rfl;have EI:sI.cell? ⟨gp,6,none⟩=some (.slice none 0 0):=(af eI.out 6).trans rfl;have EJ:sI.cell? ⟨gp,7,none⟩=some (.slice none 0 0):=(af eI.out 7).trans rfl;have EK:sI.cell? ⟨gp,8,none⟩=some (.int .i64 0):=(af eI.out 8).trans rfl;have xY:=aa eI.out 0;have xZ:=aa eI.out 1;have AB:=aa eI.out 2;have EL:=aa eI.out 3;have EM:=aa eI.out 4;have EN:=aa eI.out 5;have EO:=aa eI.out 6;have EP:=aa eI.out 7;have ER:=aa eI.out 8)|((with_reducible refine bq (f:=61) rfl ?_);refine cK (some 17) rfl rfl Tryz.func61 aR rfl #[.agg #[.int .i64 ((av bn cy).f0),.bool ((av bn cy).f1.f0),.slice nV ((av bn cy).f1.f1).length nW,.string ((av bn cy).f1.f2.f0),.string ((av bn cy).f1.f2.f1),.bool ((av bn cy).f1.f2.f2),.slice rO ((av bn cy).f2).length rP,.slice sV ((av bn cy).f3).length sW,.int .i64 ((av bn cy).f4)]] rfl dc ?_;(with_reducible refine (lO.calls ((av bn cy).f0) ((av bn cy).f1.f0) _ _ ((av bn cy).f1.f1) ((av bn cy).f1.f2.f0) ((av bn cy).f1.f2.f1) ((av bn cy).f1.f2.f2) _ _ ((av bn cy).f2) _ _ ((av bn cy).f3) ((av bn cy).f4) true t296 _ ?aX ?bF ?dU ?jt ?ju ?jv A7.out).mono ?_);(case aX=>exact Kd.bG Ez.out uG);(case bF=>exact EA.out);(case dU=>exact Kd.bG EB.out uG);(case jt=>exact EC.out);(case ju=>exact Kd.bG ED.out uG);(case jv=>exact EE.out);rintro e rX ⟨rfl,hb⟩;refine ⟨_,rfl,?_⟩;replace z8:=ah.mk (Kd.aM Qa hb);replace sy:=ah.mk (aC (g:=uq) (o:= .cells #[.int .i64 bB,.slice (some NB) bn.length kE] 40 (0,0)) Qd hb);replace eI:=ah.mk (aC (g:=gp) (o:= .cells #[.int .i64 ((av bn cy).f0),.bool ((av bn cy).f1.f0),.slice nV ((av bn cy).f1.f1).length nW,.string ((av bn cy).f1.f2.f0),.string ((av bn cy).f1.f2.f1),.bool ((av bn cy).f1.f2.f2),.slice rO ((av bn cy).f2).length rP,.slice sV ((av bn cy).f3).length sW,.int .i64 ((av bn cy).f4)] 34 (0,0)) aaZ hb);replace HB:=ah.mk (aA uG hb);(try clear hb);have Dm:rX.cell? ⟨gp,0,none⟩=some (.int .i64 ((av bn cy).f0)):=(af eI.out 0).trans rfl;have Dn:rX.cell? ⟨gp,1,none⟩=some (.bool ((av bn cy).f1.f0)):=(af eI.out 1).trans rfl;have Dp:rX.cell? ⟨gp,2,none⟩=some (.slice nV ((av bn cy).f1.f1).length nW):=(af eI.out 2).trans rfl;have Dq:rX.cell? ⟨gp,3,none⟩=some (.string ((av bn cy).f1.f2.f0)):=(af eI.out 3).trans rfl;have Dr:rX.cell? ⟨gp,4,none⟩=some (.string ((av bn cy).f1.f2.f1)):=(af eI.out 4).trans rfl;have Ds:rX.cell? ⟨gp,5,none⟩=some (.bool ((av bn cy).f1.f2.f2)):=(af eI.out 5).trans rfl;have Lm:rX.cell? ⟨gp,6,none⟩=some (.slice rO ((av bn cy).f2).length rP):=(af eI.out 6).trans rfl;have Lp:rX.cell? ⟨gp,7,none⟩=some (.slice sV ((av bn cy).f3).length sW):=(af eI.out 7).trans rfl;have Lq:rX.cell? ⟨gp,8,none⟩=some (.int .i64 ((av bn cy).f4)):=(af eI.out 8).trans rfl;have Dt:=aa eI.out 0;have Du:=aa eI.out 1;have Dv:=aa eI.out 2;have Dw:=aa eI.out 3;have Dx:=aa eI.out 4;have Dy:=aa eI.out 5;have Lr:=aa eI.out 6;have Ls:=aa eI.out 7;have Lt:=aa eI.out 8)|((with_reducible refine oD (b:= .append) (xs:=#[.tmp 21,.tmp 24]) rfl ?_);at_builtin;refine Kd.uL (Kd.int .i64) (w0:=w) w.heap.size rfl (.tmp 21) (.tmp 24) 25 3 (.int .i64 0) 8 rfl Tryz.underlying25 info3 rfl bE ay u3 Ad ((av bn cy).f0) [.int .i64 ((av bn cy).f0)] (fun _ =>True) (fun _ =>False) rfl rfl ?aP (fun _ hk=>hk.elim) ?aF ?aO ?aB ?aS ?aL ?_;(case aP=>exact rfl);(case aB=>exact aD);(case aF=>exact (fun _ _ =>trivial));(case aO=>exact qj);(case aS=>exact (bL aD));(case aL=>have:=aBB.out;omega);intro aIR uC ho hb hg hat;rw [← ain.out] at ho;replace sy:=ah.mk (gZ (g:=uq) (o:= .cells #[.int .i64 bB,.slice (some NB) bn.length kE] 40 (0,0)) pL hg (Kd.zu z8.out sy.out bE));replace eI:=ah.mk (gZ (g:=gp) (o:= .cells #[.int .i64 ((av bn cy).f0),.bool ((av bn cy).f1.f0),.slice nV ((av bn cy).f1.f1).length nW,.string ((av bn cy).f1.f2.f0),.string ((av bn cy).f1.f2.f1),.bool ((av bn cy).f1.f2.f2),.slice rO ((av bn cy).f2).length rP,.slice sV ((av bn cy).f3).length sW,.int .i64 ((av bn cy).f4)] 34 (0,0)) (by exact eI.out) hg (Kd.zu z8.out eI.out bE));replace HB:=ah.mk (hb);have aip:=ah.mk (ho);clear z8;clear ho hb hg hat))
     go_roundg k1
     case measure=>have:=sw.out;omega
     case rel=>exact ⟨(aim),(wrap64 (cy + 1)),(by rfl),H',⟨lA⟩,⟨by exact aip.out⟩,⟨pL⟩,⟨aD⟩⟩
    ·replace c8:=Bool.eq_false_iff.mpr c8
     subst c8
     rw [if_neg (show ¬ (false=true) by decide)] at H
     have H':=ah.mk H
     clear H
     have JJ: 0≤(cy:Int):=of_decide_eq_true cP
     have JK:cy < (bn.length:Int):=of_decide_eq_true cP
     obtain ⟨NB,nV,nW,rO,rP,sV,sW,adI,tO,tP,tQ,tR,tS,tT,tU,tV,tW,xP,xQ,xR,xS,xU,xV⟩:=uP CE.out cy JJ JK
     cases adI
     replace tO:=(HB.out.cell (World.block_lt_of_cell? w _ tO)).trans tO
     replace tP:=(HB.out.cell (World.block_lt_of_cell? w _ tP)).trans tP
     replace tQ:=(HB.out.cell (World.block_lt_of_cell? w _ tQ)).trans tQ
     replace tR:=(HB.out.cell (World.block_lt_of_cell? w _ tR)).trans tR
     replace tS:=(HB.out.cell (World.block_lt_of_cell? w _ tS)).trans tS
     replace tT:=(HB.out.cell (World.block_lt_of_cell? w _ tT)).trans tT
     replace tU:=(HB.out.cell (World.block_lt_of_cell? w _ tU)).trans tU
     replace tV:=(HB.out.cell (World.block_lt_of_cell? w _ tV)).trans tV
     replace tW:=(HB.out.cell (World.block_lt_of_cell? w _ tW)).trans tW
     have Ez:=ah.mk xQ
     have EA:=ah.mk xP
     clear xQ xP
     have EB:=ah.mk xS
     have EC:=ah.mk xR
     clear xS xR
     have ED:=ah.mk xV
     have EE:=ah.mk xU
     clear xV xU
     replace JJ:=eq_true JJ
     replace JK:=eq_true JK
     go_wp2_with (first|((with_reducible refine bI (N:=5) rfl ?_);refine bR ?hg (N:=5) ?hd (cs:=#[.int .i64 0,.bool false,.slice none 0 0,.string (⟨#[]⟩:ByteArray),.string (⟨#[]⟩:ByteArray),.bool false,.slice none 0 0,.slice none 0 0,.int .i64 0]) (t:=34) ?hr ?_;(case hd=>rfl);(case hg=>rfl);(case hr=>(go_simp;done));intro gp hg sJ b9 hb;replace z8:=ah.mk (Kd.aM qj hb);have eI:=ah.mk (b9);have aio:=ah.mk ((bZ:w.heap.size≤gp));have aa1:=ah.mk ((bZ:w.heap.size≤gp));replace HB:=ah.mk (aA aD hb);have kr:=ah.mk ((by rw [hg];exact Nat.ne_of_lt (fu pL):uq≠gp));have zC:=ah.mk ((by rw [hg];exact Nat.ne_of_gt (fu pL):gp≠uq));replace sy:=ah.mk (aC pL hb);clear hb b9 hg;have abz:=zC.out;have abA:=kr.out;have ya:sJ.cell? ⟨gp,0,none⟩=some (.int .i64 0):=(af eI.out 0).trans rfl;have yc:sJ.cell? ⟨gp,1,none⟩=some (.bool false):=(af eI.out 1).trans rfl;have yf:sJ.cell? ⟨gp,2,none⟩=some (.slice none 0 0):=(af eI.out 2).trans rfl;have yg:sJ.cell? ⟨gp,3,none⟩=some (.string (⟨#[]⟩:ByteArray)):=(af eI.out 3).trans rfl;have yh:sJ.cell? ⟨gp,4,none⟩=some (.string (⟨#[]⟩:ByteArray)):=(af eI.out 4).trans rfl;have AE:sJ.cell? ⟨gp,5,none⟩=some (.bool false):=(af eI.out 5).trans rfl;have ES:sJ.cell? ⟨gp,6,none⟩=some (.slice none 0 0):=(af eI.out 6).trans rfl;have ET:sJ.cell? ⟨gp,7,none⟩=some (.slice none 0 0):=(af eI.out 7).trans rfl;have EU:sJ.cell? ⟨gp,8,none⟩=some (.int .i64 0):=(af eI.out 8).trans rfl;have yj:=aa eI.out 0;have yl:=aa eI.out 1;have ym:=aa eI.out 2;have yq:=aa eI.out 3;have yt:=aa eI.out 4;have AG:=aa eI.out 5;have EW:=aa eI.out 6;have EX:=aa eI.out 7;have EY:=aa eI.out 8)|((with_reducible refine bq (f:=61) rfl ?_);refine cK (some 17) rfl rfl Tryz.func61 aR rfl #[.agg #[.int .i64 ((av bn cy).f0),.bool ((av bn cy).f1.f0),.slice nV ((av bn cy).f1.f1).length nW,.string ((av bn cy).f1.f2.f0),.string ((av bn cy).f1.f2.f1),.bool ((av bn cy).f1.f2.f2),.slice rO ((av bn cy).f2).length rP,.slice sV ((av bn cy).f3).length sW,.int .i64 ((av bn cy).f4)]] rfl dc ?_;(with_reducible refine (lO.calls ((av bn cy).f0) ((av bn cy).f1.f0) _ _ ((av bn cy).f1.f1) ((av bn cy).f1.f2.f0) ((av bn cy).f1.f2.f1) ((av bn cy).f1.f2.f2) _ _ ((av bn cy).f2) _ _ ((av bn cy).f3) ((av bn cy).f4) false t296 _ ?aX ?bF ?dU ?jt ?ju ?jv A7.out).mono ?_);(case aX=>exact Kd.bG Ez.out uG);(case bF=>exact EA.out);(case dU=>exact Kd.bG EB.out uG);(case jt=>exact EC.out);(case ju=>exact Kd.bG ED.out uG);(case jv=>exact EE.out);rintro e w19 ⟨rfl,hb⟩;refine ⟨_,rfl,?_⟩;replace z8:=ah.mk (Kd.aM Qa hb);replace sy:=ah.mk (aC (g:=uq) (o:= .cells #[.int .i64 bB,.slice (some NB) bn.length kE] 40 (0,0)) Qd hb);replace eI:=ah.mk (aC (g:=gp) (o:= .cells #[.int .i64 ((av bn cy).f0),.bool ((av bn cy).f1.f0),.slice nV ((av bn cy).f1.f1).length nW,.string ((av bn cy).f1.f2.f0),.string ((av bn cy).f1.f2.f1),.bool ((av bn cy).f1.f2.f2),.slice rO ((av bn cy).f2).length rP,.slice sV ((av bn cy).f3).length sW,.int .i64 ((av bn cy).f4)] 34 (0,0)) aaZ hb);replace HB:=ah.mk (aA uG hb);(try clear hb)))
     go_roundg k1
     case measure=>have:=sw.out;omega
     case rel=>exact ⟨(Ad),(wrap64 (cy + 1)),(by rfl),H',⟨lA⟩,⟨qj⟩,⟨pL⟩,⟨aD⟩⟩
   ·rw [if_neg c4] at H
    have oU:=decide_eq_false c4
    clear c4
    obtain rfl:=Option.some.inj H
    go_wp2
    go_ret
    exact ⟨_,by rfl,qj,aD⟩
end Go.Proofs.YtbjjaaodfbjkfaaGreatDoor.qb
