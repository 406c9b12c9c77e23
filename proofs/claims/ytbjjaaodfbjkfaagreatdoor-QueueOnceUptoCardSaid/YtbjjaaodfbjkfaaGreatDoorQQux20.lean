import Derived.Test.YtbjjaaodfbjkfaaGreatDoorESlim
import Derived.Test.YtbjjaaodfbjkfaaGreatDoorQQux0
namespace Go.Proofs.YtbjjaaodfbjkfaaGreatDoor.mU
open Go.RowKit Go.Proofs.YtbjjaaodfbjkfaaGreatDoor.yN Go.Proofs.ak.bR Go.Proofs.ak.dz Go.Proofs.ak.cZ
attribute [local go_sem] iR iT jW jX gW gX jh ji
set_option linter.unusedVariables false
set_option linter.unusedSimpArgs false
def cT.l0:Nat→List (pE)→Int→Int→Int→Int→Option (Int)
 | 0,_,_,_,_,_ =>none
 |k + 1,x8,x9,Dn,Ki,Ah=>if Dn < x9 then (if 0≤Dn then (if Dn < (x8.length:Int) then (if ((aj x8 Dn).f0)=Ki then (if Ah < (((aj x8 Dn).f2).length:Int) then (if 0≤Ah then (some (wrap64 ((bM ((aj x8 Dn).f2) Ah).f1))) else (none)) else (cT.l0 k x8 x9 (wrap64 (Dn + 1)) Ki Ah)) else (cT.l0 k x8 x9 (wrap64 (Dn + 1)) Ki Ah)) else (none)) else (none)) else (some (-1))
def cT.f (k:Nat) (bg:Int) (aI:List (pE)) (gz:Int) (gF:Int):Option (Int):=cT.l0 k aI (aI.length:Int) 0 gz gF
set_option maxHeartbeats 8000000 in
set_option maxRecDepth 100000 in
theorem cT.calls (k:Nat) (bg:Int) (jk:Option Addr) (ia:Nat) (aI:List (pE)) (gz:Int) (gF:Int) (r:Int) (w:World) (nX:Kd.C Fw w jk aI.length aI) (nY:aI.length≤ia) (h:cT.f k bg aI gz gF=some r):
 Calls Tryz.prog 26 #[.agg #[.int .i64 bg,.slice jk aI.length ia],.agg #[.int .i64 gz,.int .i64 gF]] w fun e w'=>e= .returned (.int .i64 r)∧Below w.heap.size w w':=by
 have RI:=Tryz.underlying40
 have ak8:=Tryz.underlying63
 have BW:=Tryz.underlying34
 have rI:=ah.mk nX
 have Ea:=ah.mk nY
 clear nX nY
 have HB:=ah.mk (Below.refl w.heap.size w)
 have H:(cT.l0 k aI (aI.length:Int) 0 gz gF)=some r:=h
 clear h
 have H':=ah.mk H
 clear H
 go_enter Tryz.func26,Tryz.ntmps26
 go_wp2_with (first|((with_reducible refine bp (N:=2) rfl ?_);(try (refine bV (by rfl) ?_;dsimp only));refine br ?hg (N:=2) ?hd (cs:=#[.int .i64 bg,.slice jk aI.length ia]) (t:=40) ?hr ?_;(case hd=>rfl);(case hg=>rfl);(case hr=>(go_simp;done));intro tO hg w3 bG hb;have sZ:=ah.mk (bG);have aDg:=ah.mk ((bF:w.heap.size≤tO));have aDh:=ah.mk ((bF:w.heap.size≤tO));replace HB:=ah.mk (ay aJ hb);clear hb bG hg)|((with_reducible refine bp (N:=3) rfl ?_);(try (refine bV (by rfl) ?_;dsimp only));refine br ?hg (N:=3) ?hd (cs:=#[.int .i64 gz,.int .i64 gF]) (t:=63) ?hr ?_;(case hd=>rfl);(case hg=>rfl);(case hr=>(go_simp;done));intro qh hg w4 bG hb;have nU:=ah.mk (bG);have aDi:=ah.mk ((bF:w.heap.size≤qh));have aDj:=ah.mk ((bF:w.heap.size≤qh));replace HB:=ah.mk (ay aJ hb);have xQ:=ah.mk ((Cq:tO≠qh));have xR:=ah.mk ((Cr:qh≠tO));replace sZ:=ah.mk (aA zb hb);clear hb bG hg;have aGl:=xQ.out;have aGm:=xR.out;have acD:w4.cell? ⟨tO,0,none⟩=some (.int .i64 bg):=(af sZ.out 0).trans rfl;have acE:w4.cell? ⟨tO,1,none⟩=some (.slice jk aI.length ia):=(af sZ.out 1).trans rfl;have acF:=aa sZ.out 0;have acG:=aa sZ.out 1))
 go_loopg [10] k (fun kq v10 w'=>∃ (eT:Int),v10= .int .i64 eT∧ah (cT.l0 kq aI (aI.length:Int) eT gz gF=some r)∧ah (kq≤k)∧ah (w'.heap[tO]? =some (.cells #[.int .i64 bg,(.slice jk aI.length ia)] 40 (0,0)))∧ah (w'.heap[qh]? =some (.cells #[.int .i64 gz,.int .i64 gF] 63 (0,0)))∧ah (Below w.heap.size w w'))
 case atStart=>exact ⟨(0),(by rfl),H',⟨Nat.le_refl _⟩,⟨zb⟩,⟨Cu⟩,⟨aJ⟩⟩
 case round=>
  clear H'
  obtain ⟨eT,rfl,HA,qi,sZ,nU,HB⟩:=hrel
  cases gk with
  |zero=>exact absurd HA.out (by simp [cT.l0])
  |succ k1=>
   have H:=HA.out
   clear HA
   simp only [cT.l0] at H
   by_cases c7:eT < (aI.length:Int)
   ·rw [if_pos c7] at H
    have E3:=decide_eq_true c7
    clear c7
    obtain ⟨c8,H⟩:=lO H
    have Ax:=decide_eq_true c8
    clear c8
    obtain ⟨c9,H⟩:=lO H
    have V8:=decide_eq_true c9
    clear c9
    by_cases c10:((aj aI eT).f0)=gz
    ·rw [if_pos c10] at H
     have BG:=beq_iff_eq.mpr c10
     have Ov:=bne_eq_false_iff_eq.mpr c10
     clear c10
     by_cases c11:gF < (((aj aI eT).f2).length:Int)
     ·rw [if_pos c11] at H
      have zI:=decide_eq_true c11
      clear c11
      obtain ⟨c12,H⟩:=lO H
      have Fx:=decide_eq_true c12
      clear c12
      obtain rfl:=Option.some.inj H
      have EL: 0≤(eT:Int):=of_decide_eq_true cj
      have EM:eT < (aI.length:Int):=of_decide_eq_true cj
      obtain ⟨ab2,wD,wE,Vh,wF,wG,wH,Vi,oV,oW,oX,oY,oZ,o7,o8,o9,pg,su,sw,sx,sy,sA,sB⟩:=qw rI.out eT EL EM
      cases Vi
      replace oV:=(HB.out.cell (World.block_lt_of_cell? w _ oV)).trans oV
      replace oW:=(HB.out.cell (World.block_lt_of_cell? w _ oW)).trans oW
      replace oX:=(HB.out.cell (World.block_lt_of_cell? w _ oX)).trans oX
      replace oY:=(HB.out.cell (World.block_lt_of_cell? w _ oY)).trans oY
      replace oZ:=(HB.out.cell (World.block_lt_of_cell? w _ oZ)).trans oZ
      replace o7:=(HB.out.cell (World.block_lt_of_cell? w _ o7)).trans o7
      replace o8:=(HB.out.cell (World.block_lt_of_cell? w _ o8)).trans o8
      replace o9:=(HB.out.cell (World.block_lt_of_cell? w _ o9)).trans o9
      replace pg:=(HB.out.cell (World.block_lt_of_cell? w _ pg)).trans pg
      have Q3:=ah.mk sw
      have Q4:=ah.mk su
      clear sw su
      have Kj:=ah.mk sy
      have Q5:=ah.mk sx
      clear sy sx
      have Q6:=ah.mk sB
      have Q7:=ah.mk sA
      clear sB sA
      replace EL:=eq_true EL
      replace EM:=eq_true EM
      go_wp2_with (((with_reducible refine bp (N:=6) rfl ?_);(try (refine bV (by rfl) ?_;dsimp only));refine br ?hg (N:=6) ?hd (cs:=#[.int .i64 0,.bool false,.slice none 0 0,.string (⟨#[]⟩:ByteArray),.string (⟨#[]⟩:ByteArray),.bool false,.slice none 0 0,.slice none 0 0,.int .i64 0]) (t:=34) ?hr ?_;(case hd=>rfl);(case hg=>rfl);(case hr=>(go_simp;done));intro cR hg kI bG hb;have fT:=ah.mk (bG);have wI:=ah.mk ((bF:w.heap.size≤cR));have Tm:=ah.mk ((bF:w.heap.size≤cR));replace HB:=ah.mk (ay aJ hb);have jD:=ah.mk ((Cq:tO≠cR));have tP:=ah.mk ((Cr:cR≠tO));replace sZ:=ah.mk (aA zb hb);have jE:=ah.mk ((Gx:qh≠cR));have tQ:=ah.mk ((Gy:cR≠qh));replace nU:=ah.mk (aA Cu hb);clear hb bG hg;have abP:=tP.out;have abQ:=jD.out;have aDk:=tQ.out;have aDl:=jE.out;have xz:kI.cell? ⟨cR,0,none⟩=some (.int .i64 0):=(af fT.out 0).trans rfl;have xA:kI.cell? ⟨cR,1,none⟩=some (.bool false):=(af fT.out 1).trans rfl;have xB:kI.cell? ⟨cR,2,none⟩=some (.slice none 0 0):=(af fT.out 2).trans rfl;have xC:kI.cell? ⟨cR,3,none⟩=some (.string (⟨#[]⟩:ByteArray)):=(af fT.out 3).trans rfl;have xD:kI.cell? ⟨cR,4,none⟩=some (.string (⟨#[]⟩:ByteArray)):=(af fT.out 4).trans rfl;have zB:kI.cell? ⟨cR,5,none⟩=some (.bool false):=(af fT.out 5).trans rfl;have CV:kI.cell? ⟨cR,6,none⟩=some (.slice none 0 0):=(af fT.out 6).trans rfl;have CX:kI.cell? ⟨cR,7,none⟩=some (.slice none 0 0):=(af fT.out 7).trans rfl;have CY:kI.cell? ⟨cR,8,none⟩=some (.int .i64 0):=(af fT.out 8).trans rfl;have xE:=aa fT.out 0;have xG:=aa fT.out 1;have xH:=aa fT.out 2;have xI:=aa fT.out 3;have xJ:=aa fT.out 4;have zC:=aa fT.out 5;have CZ:=aa fT.out 6;have C0:=aa fT.out 7;have C2:=aa fT.out 8;have Uy:=xR.out;have Uz:=xQ.out;have zD:kI.cell? ⟨qh,0,none⟩=some (.int .i64 gz):=(af nU.out 0).trans rfl;have zE:kI.cell? ⟨qh,1,none⟩=some (.int .i64 gF):=(af nU.out 1).trans rfl;have zF:=aa nU.out 0;have zG:=aa nU.out 1;have aeA: 0≤(gF:Int):=of_decide_eq_true cj;have aeB:gF < (((aj aI eT).f2).length:Int):=of_decide_eq_true cj;obtain ⟨qZ,azK,jf,jv,jw,jx,jy,jz⟩:=nQ Kj.out gF aeA aeB;cases azK;have NF:qZ.block≠cR:=Nat.ne_of_lt (Nat.lt_of_lt_of_le tY wI.out);have NG:qZ.block≠cR:=Nat.ne_of_lt (Nat.lt_of_lt_of_le tY wI.out);have NH:qZ.block≠cR:=Nat.ne_of_lt (Nat.lt_of_lt_of_le tY wI.out);have NI:qZ.block≠cR:=Nat.ne_of_lt (Nat.lt_of_lt_of_le tY wI.out);have NJ:qZ.block≠cR:=Nat.ne_of_lt (Nat.lt_of_lt_of_le tY wI.out);have NK:qZ.block≠cR:=Nat.ne_of_lt (Nat.lt_of_lt_of_le tY wI.out);have NL:qZ.block≠cR:=Nat.ne_of_lt (Nat.lt_of_lt_of_le tY wI.out);have NM:qZ.block≠cR:=Nat.ne_of_lt (Nat.lt_of_lt_of_le tY wI.out);have NN:qZ.block≠cR:=Nat.ne_of_lt (Nat.lt_of_lt_of_le tY wI.out);replace jf:=(HB.out.cell (World.block_lt_of_cell? w _ jf)).trans jf;replace jv:=(HB.out.cell (World.block_lt_of_cell? w _ jv)).trans jv;replace jw:=(HB.out.cell (World.block_lt_of_cell? w _ jw)).trans jw;replace jx:=(HB.out.cell (World.block_lt_of_cell? w _ jx)).trans jx;replace jy:=(HB.out.cell (World.block_lt_of_cell? w _ jy)).trans jy;replace jz:=(HB.out.cell (World.block_lt_of_cell? w _ jz)).trans jz;replace jf:=(cell_far (p:=⟨cR,0,none⟩) wL (.int .i64 ((aj aI eT).f0))).trans jf;replace jv:=(cell_far (p:=⟨cR,0,none⟩) wL (.int .i64 ((aj aI eT).f0))).trans jv;replace jw:=(cell_far (p:=⟨cR,0,none⟩) wL (.int .i64 ((aj aI eT).f0))).trans jw;replace jx:=(cell_far (p:=⟨cR,0,none⟩) wL (.int .i64 ((aj aI eT).f0))).trans jx;replace jy:=(cell_far (p:=⟨cR,0,none⟩) wL (.int .i64 ((aj aI eT).f0))).trans jy;replace jz:=(cell_far (p:=⟨cR,0,none⟩) wL (.int .i64 ((aj aI eT).f0))).trans jz;replace jf:=(cell_far (p:=⟨cR,1,none⟩) wM (.bool ((aj aI eT).f1.f0))).trans jf;replace jv:=(cell_far (p:=⟨cR,1,none⟩) wM (.bool ((aj aI eT).f1.f0))).trans jv;replace jw:=(cell_far (p:=⟨cR,1,none⟩) wM (.bool ((aj aI eT).f1.f0))).trans jw;replace jx:=(cell_far (p:=⟨cR,1,none⟩) wM (.bool ((aj aI eT).f1.f0))).trans jx;replace jy:=(cell_far (p:=⟨cR,1,none⟩) wM (.bool ((aj aI eT).f1.f0))).trans jy;replace jz:=(cell_far (p:=⟨cR,1,none⟩) wM (.bool ((aj aI eT).f1.f0))).trans jz;replace jf:=(cell_far (p:=⟨cR,2,none⟩) wN (.slice wD ((aj aI eT).f1.f1).length wE)).trans jf;replace jv:=(cell_far (p:=⟨cR,2,none⟩) wN (.slice wD ((aj aI eT).f1.f1).length wE)).trans jv;replace jw:=(cell_far (p:=⟨cR,2,none⟩) wN (.slice wD ((aj aI eT).f1.f1).length wE)).trans jw;replace jx:=(cell_far (p:=⟨cR,2,none⟩) wN (.slice wD ((aj aI eT).f1.f1).length wE)).trans jx;replace jy:=(cell_far (p:=⟨cR,2,none⟩) wN (.slice wD ((aj aI eT).f1.f1).length wE)).trans jy;replace jz:=(cell_far (p:=⟨cR,2,none⟩) wN (.slice wD ((aj aI eT).f1.f1).length wE)).trans jz;replace jf:=(cell_far (p:=⟨cR,3,none⟩) wO (.string ((aj aI eT).f1.f2.f0))).trans jf;replace jv:=(cell_far (p:=⟨cR,3,none⟩) wO (.string ((aj aI eT).f1.f2.f0))).trans jv;replace jw:=(cell_far (p:=⟨cR,3,none⟩) wO (.string ((aj aI eT).f1.f2.f0))).trans jw;replace jx:=(cell_far (p:=⟨cR,3,none⟩) wO (.string ((aj aI eT).f1.f2.f0))).trans jx;replace jy:=(cell_far (p:=⟨cR,3,none⟩) wO (.string ((aj aI eT).f1.f2.f0))).trans jy;replace jz:=(cell_far (p:=⟨cR,3,none⟩) wO (.string ((aj aI eT).f1.f2.f0))).trans jz;replace jf:=(cell_far (p:=⟨cR,4,none⟩) wP (.string ((aj aI eT).f1.f2.f1))).trans jf;replace jv:=(cell_far (p:=⟨cR,4,none⟩) wP (.string ((aj aI eT).f1.f2.f1))).trans jv;replace jw:=(cell_far (p:=⟨cR,4,none⟩) wP (.string ((aj aI eT).f1.f2.f1))).trans jw;replace jx:=(cell_far (p:=⟨cR,4,none⟩) wP (.string ((aj aI eT).f1.f2.f1))).trans jx;replace jy:=(cell_far (p:=⟨cR,4,none⟩) wP (.string ((aj aI eT).f1.f2.f1))).trans jy;replace jz:=(cell_far (p:=⟨cR,4,none⟩) wP (.string ((aj aI eT).f1.f2.f1))).trans jz;replace jf:=(cell_far (p:=⟨cR,5,none⟩) wQ (.bool ((aj aI eT).f1.f2.f2))).trans jf;replace jv:=(cell_far (p:=⟨cR,5,none⟩) wQ (.bool ((aj aI eT).f1.f2.f2))).trans jv;replace jw:=(cell_far (p:=⟨cR,5,none⟩) wQ (.bool ((aj aI eT).f1.f2.f2))).trans jw;replace jx:=(cell_far (p:=⟨cR,5,none⟩) wQ (.bool ((aj aI eT).f1.f2.f2))).trans jx;replace jy:=(cell_far (p:=⟨cR,5,none⟩) wQ (.bool ((aj aI eT).f1.f2.f2))).trans jy;replace jz:=(cell_far (p:=⟨cR,5,none⟩) wQ (.bool ((aj aI eT).f1.f2.f2))).trans jz;replace jf:=(cell_far (p:=⟨cR,6,none⟩) wR (.slice (some qZ) ((aj aI eT).f2).length wF)).trans jf;replace jv:=(cell_far (p:=⟨cR,6,none⟩) wR (.slice (some qZ) ((aj aI eT).f2).length wF)).trans jv;replace jw:=(cell_far (p:=⟨cR,6,none⟩) wR (.slice (some qZ) ((aj aI eT).f2).length wF)).trans jw;replace jx:=(cell_far (p:=⟨cR,6,none⟩) wR (.slice (some qZ) ((aj aI eT).f2).length wF)).trans jx;replace jy:=(cell_far (p:=⟨cR,6,none⟩) wR (.slice (some qZ) ((aj aI eT).f2).length wF)).trans jy;replace jz:=(cell_far (p:=⟨cR,6,none⟩) wR (.slice (some qZ) ((aj aI eT).f2).length wF)).trans jz;replace jf:=(cell_far (p:=⟨cR,7,none⟩) wS (.slice wG ((aj aI eT).f3).length wH)).trans jf;replace jv:=(cell_far (p:=⟨cR,7,none⟩) wS (.slice wG ((aj aI eT).f3).length wH)).trans jv;replace jw:=(cell_far (p:=⟨cR,7,none⟩) wS (.slice wG ((aj aI eT).f3).length wH)).trans jw;replace jx:=(cell_far (p:=⟨cR,7,none⟩) wS (.slice wG ((aj aI eT).f3).length wH)).trans jx;replace jy:=(cell_far (p:=⟨cR,7,none⟩) wS (.slice wG ((aj aI eT).f3).length wH)).trans jy;replace jz:=(cell_far (p:=⟨cR,7,none⟩) wS (.slice wG ((aj aI eT).f3).length wH)).trans jz;replace jf:=(cell_far (p:=⟨cR,8,none⟩) wT (.int .i64 ((aj aI eT).f4))).trans jf;replace jv:=(cell_far (p:=⟨cR,8,none⟩) wT (.int .i64 ((aj aI eT).f4))).trans jv;replace jw:=(cell_far (p:=⟨cR,8,none⟩) wT (.int .i64 ((aj aI eT).f4))).trans jw;replace jx:=(cell_far (p:=⟨cR,8,none⟩) wT (.int .i64 ((aj aI eT).f4))).trans jx;replace jy:=(cell_far (p:=⟨cR,8,none⟩) wT (.int .i64 ((aj aI eT).f4))).trans jy;replace jz:=(cell_far (p:=⟨cR,8,none⟩) wT (.int .i64 ((aj aI eT).f4))).trans jz;clear NF;clear NG;clear NH;clear NI;clear NJ;clear NK;clear NL;clear NM;clear NN;replace aeA:=eq_true aeA;replace aeB:=eq_true aeB))
      go_ret
      exact ⟨by rfl,Gq⟩
     ·rw [if_neg c11] at H
      have zI:=decide_eq_false c11
      clear c11
      have H':=ah.mk H
      clear H
      have EL: 0≤(eT:Int):=of_decide_eq_true cj
      have EM:eT < (aI.length:Int):=of_decide_eq_true cj
      obtain ⟨ab2,wD,wE,Vh,wF,wG,wH,Vi,oV,oW,oX,oY,oZ,o7,o8,o9,pg,su,sw,sx,sy,sA,sB⟩:=qw rI.out eT EL EM
      cases Vi
      replace oV:=(HB.out.cell (World.block_lt_of_cell? w _ oV)).trans oV
      replace oW:=(HB.out.cell (World.block_lt_of_cell? w _ oW)).trans oW
      replace oX:=(HB.out.cell (World.block_lt_of_cell? w _ oX)).trans oX
      replace oY:=(HB.out.cell (World.block_lt_of_cell? w _ oY)).trans oY
      replace oZ:=(HB.out.cell (World.block_lt_of_cell? w _ oZ)).trans oZ
      replace o7:=(HB.out.cell (World.block_lt_of_cell? w _ o7)).trans o7
      replace o8:=(HB.out.cell (World.block_lt_of_cell? w _ o8)).trans o8
      replace o9:=(HB.out.cell (World.block_lt_of_cell? w _ o9)).trans o9
      replace pg:=(HB.out.cell (World.block_lt_of_cell? w _ pg)).trans pg
      have Q3:=ah.mk sw
      have Q4:=ah.mk su
      clear sw su
      have Kj:=ah.mk sy
      have Q5:=ah.mk sx
      clear sy sx
      have Q6:=ah.mk sB
      have Q7:=ah.mk sA
      clear sB sA
      replace EL:=eq_true EL
      replace EM:=eq_true EM
      go_wp2_with (((with_reducible refine bp (N:=6) rfl ?_);(try (refine bV (by rfl) ?_;dsimp only));refine br ?hg (N:=6) ?hd (cs:=#[.int .i64 0,.bool false,.slice none 0 0,.string (⟨#[]⟩:ByteArray),.string (⟨#[]⟩:ByteArray),.bool false,.slice none 0 0,.slice none 0 0,.int .i64 0]) (t:=34) ?hr ?_;(case hd=>rfl);(case hg=>rfl);(case hr=>(go_simp;done));intro cR hg KV bG hb;have fT:=ah.mk (bG);have wI:=ah.mk ((bF:w.heap.size≤cR));have Tm:=ah.mk ((bF:w.heap.size≤cR));replace HB:=ah.mk (ay aJ hb);have jD:=ah.mk ((Cq:tO≠cR));have tP:=ah.mk ((Cr:cR≠tO));replace sZ:=ah.mk (aA zb hb);have jE:=ah.mk ((Gx:qh≠cR));have tQ:=ah.mk ((Gy:cR≠qh));replace nU:=ah.mk (aA Cu hb);clear hb bG hg;have aDm:=tP.out;have aDn:=jD.out;have abT:=tQ.out;have abU:=jE.out;have Hw:KV.cell? ⟨cR,0,none⟩=some (.int .i64 0):=(af fT.out 0).trans rfl;have Hx:KV.cell? ⟨cR,1,none⟩=some (.bool false):=(af fT.out 1).trans rfl;have Hy:KV.cell? ⟨cR,2,none⟩=some (.slice none 0 0):=(af fT.out 2).trans rfl;have Hz:KV.cell? ⟨cR,3,none⟩=some (.string (⟨#[]⟩:ByteArray)):=(af fT.out 3).trans rfl;have HJ:KV.cell? ⟨cR,4,none⟩=some (.string (⟨#[]⟩:ByteArray)):=(af fT.out 4).trans rfl;have H6:KV.cell? ⟨cR,5,none⟩=some (.bool false):=(af fT.out 5).trans rfl;have H7:KV.cell? ⟨cR,6,none⟩=some (.slice none 0 0):=(af fT.out 6).trans rfl;have H9:KV.cell? ⟨cR,7,none⟩=some (.slice none 0 0):=(af fT.out 7).trans rfl;have Ia:KV.cell? ⟨cR,8,none⟩=some (.int .i64 0):=(af fT.out 8).trans rfl;have Ib:=aa fT.out 0;have Ic:=aa fT.out 1;have Ie:=aa fT.out 2;have Ig:=aa fT.out 3;have Ih:=aa fT.out 4;have Ii:=aa fT.out 5;have Ij:=aa fT.out 6;have Ik:=aa fT.out 7;have Il:=aa fT.out 8;have aDo:=xR.out;have aDp:=xQ.out;have axc:KV.cell? ⟨qh,0,none⟩=some (.int .i64 gz):=(af nU.out 0).trans rfl;have axd:KV.cell? ⟨qh,1,none⟩=some (.int .i64 gF):=(af nU.out 1).trans rfl;have axe:=aa nU.out 0;have axf:=aa nU.out 1))
      go_roundg k1
      case measure=>have:=qi.out;omega
      case rel=>exact ⟨(wrap64 (eT + 1)),(by rfl),H',⟨lu⟩,⟨SR⟩,⟨SS⟩,⟨Gq⟩⟩
    ·rw [if_neg c10] at H
     have BG:=beq_eq_false_iff_ne.mpr c10
     have Ov:=bne_iff_ne.mpr c10
     have H':=ah.mk H
     clear H
     have EL: 0≤(eT:Int):=of_decide_eq_true cj
     have EM:eT < (aI.length:Int):=of_decide_eq_true cj
     obtain ⟨ab2,wD,wE,Vh,wF,wG,wH,Vi,oV,oW,oX,oY,oZ,o7,o8,o9,pg,su,sw,sx,sy,sA,sB⟩:=qw rI.out eT EL EM
     cases Vi
     replace oV:=(HB.out.cell (World.block_lt_of_cell? w _ oV)).trans oV
     replace oW:=(HB.out.cell (World.block_lt_of_cell? w _ oW)).trans oW
     replace oX:=(HB.out.cell (World.block_lt_of_cell? w _ oX)).trans oX
     replace oY:=(HB.out.cell (World.block_lt_of_cell? w _ oY)).trans oY
     replace oZ:=(HB.out.cell (World.block_lt_of_cell? w _ oZ)).trans oZ
     replace o7:=(HB.out.cell (World.block_lt_of_cell? w _ o7)).trans o7
     replace o8:=(HB.out.cell (World.block_lt_of_cell? w _ o8)).trans o8
     replace o9:=(HB.out.cell (World.block_lt_of_cell? w _ o9)).trans o9
     replace pg:=(HB.out.cell (World.block_lt_of_cell? w _ pg)).trans pg
     have Q3:=ah.mk sw
     have Q4:=ah.mk su
     clear sw su
     have Kj:=ah.mk sy
     have Q5:=ah.mk sx
     clear sy sx
     have Q6:=ah.mk sB
     have Q7:=ah.mk sA
     clear sB sA
     replace EL:=eq_true EL
     replace EM:=eq_true EM
     go_wp2_with (((with_reducible refine bp (N:=6) rfl ?_);(try (refine bV (by rfl) ?_;dsimp only));refine br ?hg (N:=6) ?hd (cs:=#[.int .i64 0,.bool false,.slice none 0 0,.string (⟨#[]⟩:ByteArray),.string (⟨#[]⟩:ByteArray),.bool false,.slice none 0 0,.slice none 0 0,.int .i64 0]) (t:=34) ?hr ?_;(case hd=>rfl);(case hg=>rfl);(case hr=>(go_simp;done));intro cR hg SF bG hb;have fT:=ah.mk (bG);have wI:=ah.mk ((bF:w.heap.size≤cR));have Tm:=ah.mk ((bF:w.heap.size≤cR));replace HB:=ah.mk (ay aJ hb);have jD:=ah.mk ((Cq:tO≠cR));have tP:=ah.mk ((Cr:cR≠tO));replace sZ:=ah.mk (aA zb hb);have jE:=ah.mk ((Gx:qh≠cR));have tQ:=ah.mk ((Gy:cR≠qh));replace nU:=ah.mk (aA Cu hb);clear hb bG hg;have ale:=tP.out;have alf:=jD.out;have aDq:=tQ.out;have aDr:=jE.out;have Xi:SF.cell? ⟨cR,0,none⟩=some (.int .i64 0):=(af fT.out 0).trans rfl;have Xj:SF.cell? ⟨cR,1,none⟩=some (.bool false):=(af fT.out 1).trans rfl;have Xk:SF.cell? ⟨cR,2,none⟩=some (.slice none 0 0):=(af fT.out 2).trans rfl;have Xl:SF.cell? ⟨cR,3,none⟩=some (.string (⟨#[]⟩:ByteArray)):=(af fT.out 3).trans rfl;have Xm:SF.cell? ⟨cR,4,none⟩=some (.string (⟨#[]⟩:ByteArray)):=(af fT.out 4).trans rfl;have Xn:SF.cell? ⟨cR,5,none⟩=some (.bool false):=(af fT.out 5).trans rfl;have Xo:SF.cell? ⟨cR,6,none⟩=some (.slice none 0 0):=(af fT.out 6).trans rfl;have Xp:SF.cell? ⟨cR,7,none⟩=some (.slice none 0 0):=(af fT.out 7).trans rfl;have Xq:SF.cell? ⟨cR,8,none⟩=some (.int .i64 0):=(af fT.out 8).trans rfl;have Xr:=aa fT.out 0;have Xt:=aa fT.out 1;have Xu:=aa fT.out 2;have Xv:=aa fT.out 3;have Xw:=aa fT.out 4;have Xx:=aa fT.out 5;have Xy:=aa fT.out 6;have Xz:=aa fT.out 7;have XA:=aa fT.out 8;have abR:=xR.out;have abS:=xQ.out;have aaA:SF.cell? ⟨qh,0,none⟩=some (.int .i64 gz):=(af nU.out 0).trans rfl;have aaB:SF.cell? ⟨qh,1,none⟩=some (.int .i64 gF):=(af nU.out 1).trans rfl;have aaC:=aa nU.out 0;have aaD:=aa nU.out 1))
     go_roundg k1
     case measure=>have:=qi.out;omega
     case rel=>exact ⟨(wrap64 (eT + 1)),(by rfl),H',⟨lu⟩,⟨SR⟩,⟨SS⟩,⟨Gq⟩⟩
   ·rw [if_neg c7] at H
    have E3:=decide_eq_false c7
    clear c7
    obtain rfl:=Option.some.inj H
    go_wp2
    go_ret
    exact ⟨by rfl,aJ⟩
end Go.Proofs.YtbjjaaodfbjkfaaGreatDoor.mU
