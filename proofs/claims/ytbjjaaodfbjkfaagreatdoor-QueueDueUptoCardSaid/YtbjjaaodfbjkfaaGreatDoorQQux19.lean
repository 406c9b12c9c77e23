import Derived.Test.YtbjjaaodfbjkfaaGreatDoorQQux17
import Derived.Test.YtbjjaaodfbjkfaaGreatDoorQQux18
namespace Go.Proofs.YtbjjaaodfbjkfaaGreatDoor.ow
open Go.RowKit Go.Proofs.YtbjjaaodfbjkfaaGreatDoor.zi Go.Proofs.ak.bY Go.Proofs.ak.dU Go.Proofs.ak.dJ
attribute [local go_sem] jt ju kH kI iw iy jv jw
set_option linter.unusedVariables false
set_option linter.unusedSimpArgs false
mutual
def aK.l0:Nat→Int→Int→List (NV)→Int→Int→Int→List (pO)→Option (Bool)
 | 0,_,_,_,_,_,_,_ =>none
 |k + 1,x1,x2,O7,x28,ML,jz,iM=>if ML < x28 then (if 0≤ML then (if ML < (O7.length:Int) then ((cz.f k jz iM ((bM O7 ML).f0) ((bM O7 ML).f1) ((bM O7 ML).f2) ((bM O7 ML).f3) ((bM O7 ML).f4.f0) ((bM O7 ML).f4.f1.f0) ((bM O7 ML).f4.f1.f1) ((bM O7 ML).f4.f1.f2.f0) ((bM O7 ML).f4.f1.f2.f1) ((bM O7 ML).f4.f1.f2.f2) ((bM O7 ML).f4.f2) ((bM O7 ML).f4.f3) ((bM O7 ML).f4.f4)).bind fun afh=>(aK.l0 k x1 x2 O7 x28 (wrap64 (ML + 1)) afh.1 afh.2.1)) else (none)) else (none)) else (aK.l1 k x1 x2 ([]:List (sO)) ([]:List Int) iM (iM.length:Int) 0 jz iM)
def aK.l1:Nat→Int→Int→List (sO)→List Int→List (pO)→Int→Int→Int→List (pO)→Option (Bool)
 | 0,_,_,_,_,_,_,_,_,_ =>none
 |k + 1,x1,x2,uK,sw,KV,x42,Gk,jz,iM=>if Gk < x42 then (if 0≤Gk then (if Gk < (KV.length:Int) then (aK.l2 k x1 x2 uK sw 0 KV x42 Gk ((aj KV Gk).f2) (((aj KV Gk).f2).length:Int) 0 jz iM ((aj KV Gk).f0) ((aj KV Gk).f1.f0) ((aj KV Gk).f1.f1) ((aj KV Gk).f1.f2.f0) ((aj KV Gk).f1.f2.f1) ((aj KV Gk).f1.f2.f2) ((aj KV Gk).f2) ((aj KV Gk).f3) ((aj KV Gk).f4)) else (none)) else (none)) else ((cI.f k jz iM x1).bind fun MM=>((cR.f k MM uK).bind fun ahR=>(if ahR=true then ((cM.f k jz iM).bind fun adP=>((dX.f k adP sw).bind fun adQ=>(aK.j3 k x1 x2 uK (!adQ) jz iM))) else (aK.j3 k x1 x2 uK true jz iM))))
def aK.l2:Nat→Int→Int→List (sO)→List Int→Int→List (pO)→Int→Int→List (jN)→Int→Int→Int→List (pO)→Int→Bool→List ByteArray→ByteArray→ByteArray→Bool→List (jN)→List Int→Int→Option (Bool)
 | 0,_,_,_,_,_,_,_,_,_,_,_,_,_,_,_,_,_,_,_,_,_,_ =>none
 |k + 1,x1,x2,uK,sw,x14,KV,x42,Gk,x48,x49,x50,jz,iM,Bd,KW,KX,KY,KZ,K1,K2,K3,K4=>if x50 < x49 then (if 0≤x50 then (if x50 < (x48.length:Int) then (if ((bn x48 x50).f1)=0 then (if ((bn x48 x50).f3)≤x1 then (if uK.length < 8796093022208 then (aK.l2 k x1 x2 (uK ++ [(⟨Bd,x50⟩:sO)]) sw (wrap64 (x14 + 1)) KV x42 Gk x48 x49 (wrap64 (x50 + 1)) jz iM Bd KW KX KY KZ K1 K2 K3 K4) else (none)) else (aK.l2 k x1 x2 uK sw (wrap64 (x14 + 1)) KV x42 Gk x48 x49 (wrap64 (x50 + 1)) jz iM Bd KW KX KY KZ K1 K2 K3 K4)) else (aK.l2 k x1 x2 uK sw x14 KV x42 Gk x48 x49 (wrap64 (x50 + 1)) jz iM Bd KW KX KY KZ K1 K2 K3 K4)) else (none)) else (none)) else (if x14=0 then (if sw.length < 17592186044416 then (aK.l1 k x1 x2 uK (sw ++ [Bd]) KV x42 (wrap64 (Gk + 1)) jz iM) else (none)) else (aK.l1 k x1 x2 uK sw KV x42 (wrap64 (Gk + 1)) jz iM))
def aK.j3:Nat→Int→Int→List (sO)→Bool→Int→List (pO)→Option (Bool)
 | 0,_,_,_,_,_,_ =>none
 |k + 1,x1,x2,uK,x92,jz,iM=>if x92=true then (none) else (aK.l3 k x1 x2 uK uK (uK.length:Int) 0 jz iM)
def aK.l3:Nat→Int→Int→List (sO)→List (sO)→Int→Int→Int→List (pO)→Option (Bool)
 | 0,_,_,_,_,_,_,_,_ =>none
 |k + 1,x1,x2,uK,x93,x94,Zb,jz,iM=>if Zb < x94 then (if 0≤Zb then (if Zb < (x93.length:Int) then ((cz.f k jz iM 2 ((cT x93 Zb).f0) ((cT x93 Zb).f1) (wrap64 (x2)) 0 false ([]:List ByteArray) (⟨#[]⟩:ByteArray) (⟨#[]⟩:ByteArray) false ([]:List (jN)) ([]:List Int) 0).bind fun Yp=>(if Yp.2.2=0 then ((cI.f k Yp.1 Yp.2.1 x1).bind fun Gl=>(if (wrap64 (x2))≤x1 then ((cR.f k Gl uK).bind fun ahS=>(if ahS=true then (if (wrap64 (x2)) > x1 then (if (Gl.length:Int)=(wrap64 ((uK.length:Int) - 1)) then (aK.l3 k x1 x2 uK x93 x94 (wrap64 (Zb + 1)) jz iM) else (none)) else (aK.l3 k x1 x2 uK x93 x94 (wrap64 (Zb + 1)) jz iM)) else (none))) else (if (wrap64 (x2)) > x1 then (if (Gl.length:Int)=(wrap64 ((uK.length:Int) - 1)) then (aK.l3 k x1 x2 uK x93 x94 (wrap64 (Zb + 1)) jz iM) else (none)) else (aK.l3 k x1 x2 uK x93 x94 (wrap64 (Zb + 1)) jz iM)))) else (aK.l3 k x1 x2 uK x93 x94 (wrap64 (Zb + 1)) jz iM))) else (none)) else (none)) else ((eA.f k).bind fun ahT=>(some ahT))
end
def aK.f (k:Nat) (l0:List (NV)) (a1:Int) (a2:Int):Option (Bool):=(iT.f).bind fun MN=>(if 0≤(mn (l0.length:Int) 40) then (if (mn (l0.length:Int) 40)≤(l0.length:Int) then ((some (l0.take ((mn (l0.length:Int) 40):Int).toNat:List (NV))).bind fun dQ=>(aK.l0 k a1 a2 dQ (dQ.length:Int) 0 MN.1 MN.2)) else (none)) else (none))
set_option maxHeartbeats 8000000 in
set_option maxRecDepth 100000 in
theorem aK.calls (k:Nat) (A0:Option Addr) (c0:Nat) (l0:List (NV)) (a1:Int) (a2:Int) (r:Bool) (w:World) (nZ:Kd.C k46 w A0 l0.length l0) (hc0:l0.length≤c0) (hG:bB w) (h:aK.f k l0 a1 a2=some r):
 Calls Tryz.prog 6 #[.slice A0 l0.length c0,.int .i64 a1,.int .u32 a2] w fun e w'=>e= .returned (.bool r)∧Below w.heap.size w w':=by
 have UT:=Tryz.underlying40
 have ag2:=Tryz.underlying46
 have CM:=Tryz.underlying34
 have LX:=Tryz.underlying37
 have ahD:=Tryz.underlying63
 have qN:=ah.mk nZ
 have Eg:=ah.mk hc0
 clear nZ hc0
 have HB:=ah.mk (Below.refl w.heap.size w)
 have HG:=ah.mk hG
 clear hG
 have H:((iT.f).bind fun MN=>(if 0≤(mn (l0.length:Int) 40) then (if (mn (l0.length:Int) 40)≤(l0.length:Int) then ((some (l0.take ((mn (l0.length:Int) 40):Int).toNat:List (NV))).bind fun dQ=>(aK.l0 k a1 a2 dQ (dQ.length:Int) 0 MN.1 MN.2)) else (none)) else (none)))=some r:=h
 clear h
 obtain ⟨⟨O8,K5⟩,A4,H⟩:=bd_ H
 (try dsimp only at H)
 obtain ⟨Zc,adS⟩:∃ j_:Int,(mn (l0.length:Int) 40)=j_ :=⟨_,rfl⟩
 (rw [adS] at H)
 (try (have aIq:Zc≤40:=by (rw [← adS];unfold mn;(repeat' split)<;>omega)))
 (try (have aIr:Zc≤64:=by omega))
 (try (have aIs: 0≤Zc:=by (rw [← adS];unfold mn;(repeat' split)<;>omega)))
 (try (have aIt: 0≤Zc:=by omega))
 have aIu:(if 40 < (l0.length:Int) then 40 else (l0.length:Int))=Zc:=adS
 obtain ⟨c6,H⟩:=lg H
 have xm:=eq_true c6
 have UX:=decide_eq_true c6
 clear c6
 obtain ⟨c7,H⟩:=lg H
 have E1:=eq_true c7
 have aji:=decide_eq_true c7
 clear c7
 obtain ⟨dQ,Yq⟩:∃ y_:List (NV),y_=(l0.take ((Zc):Int).toNat):=⟨_,rfl⟩
 replace H:(aK.l0 k a1 a2 dQ (dQ.length:Int) 0 O8 K5)=some r:=by (have H2_ :=(Option.bind_some _ _).symm.trans H;rw [Yq];with_reducible exact H2_)
 have afk:=ah.mk Yq
 clear Yq
 have H':=ah.mk H
 clear H
 go_enter Tryz.func6,Tryz.ntmps6
 go_wp2_with (first|((with_reducible refine bE (f:=16) rfl ?_);refine dg (some 22) rfl rfl Tryz.func16 au rfl #[] rfl Hy ?_;(with_reducible refine (iT.calls O8 K5 _ A4.out).mono ?_);rintro e w8 ⟨aL7,rfl,ho0,hb⟩;refine ⟨_,rfl,?_⟩;have FH:=ah.mk (Kd.lN ho0 (bV aI));replace HB:=ah.mk (av aI hb);(try clear hb);(try clear ho0))|((with_reducible refine bw (N:=7) rfl ?_);(try (refine bO (by rfl) ?_;dsimp only));refine bA ?hg (N:=7) ?hd (cs:=#[.int .i64 0,.slice none 0 0]) (t:=40) ?hr ?_;(case hd=>rfl);(case hg=>rfl);(case hr=>(go_simp;done));intro eG hg w9 bH hb;replace FH:=ah.mk (Kd.cx (by exact FH.out) hb);have dx:=ah.mk (bH);have aIv:=ah.mk ((bG:w.heap.size≤eG));have aiM:=ah.mk ((bG:w.heap.size≤eG));replace HB:=ah.mk (av aI hb);clear hb bH hg;have Ea:w9.cell? ⟨eG,0,none⟩=some (.int .i64 0):=(af dx.out 0).trans rfl;have Eb:w9.cell? ⟨eG,1,none⟩=some (.slice none 0 0):=(af dx.out 1).trans rfl;have Ec:=aa dx.out 0;have Ed:=aa dx.out 1;obtain ⟨ug,uh,XU⟩:=Kd.gP FH.out;subst XU)|((with_reducible refine NM (t:=40) (p:=7) rfl ?_);refine LK (t:=40) (p:=7) (v:=?aEG) (w1:=((w9.setCell ⟨eG,0,none⟩ (.int .i64 O8)).setCell ⟨eG,1,none⟩ (.slice ug K5.length uh))) ?hg ?ho ?hn ?hr ?_;(case ho=>rfl);(case hg=>rfl);(case hn=>rfl);(case hr=>(go_simp;done));intro BJ hw;have jJ:ah (Kd.S Bz 34 BJ w.heap.size (fun _ =>True) (.slice ug K5.length uh) K5):=⟨(by rw [hw];exact (by exact Kd.dG (Kd.bS (p:=⟨eG,1,none⟩) (Kd.bS (p:=⟨eG,0,none⟩) (Kd.fN FH.out dx.out bC) (fun _ hk=>hk.2) (.int .i64 O8)) (fun _ hk=>hk.2) (.slice ug K5.length uh)) (fun _ hk=>trivial)))⟩;have jK:ah (BJ.heap[eG]? =some (.cells #[.int .i64 O8,.slice ug K5.length uh] 40 (0,0))):=⟨(by rw [hw];exact (by refine aW (cs:=#[.int .i64 O8,.slice none 0 0]) ?_ 1 _ rfl;refine aW (cs:=#[.int .i64 0,.slice none 0 0]) ?_ 0 _ rfl;exact dx.out))⟩;have lV:ah (Below w.heap.size w BJ):=⟨(by rw [hw];exact PY)⟩;clear hw;clear FH;clear dx;clear HB;have FH:=jJ;have dx:=jK;have HB:=lV;clear jJ jK lV;have q13:((Zc):Int)≤((l0.length:Int):Int):=of_decide_eq_true cL;obtain ⟨aL8,afl,_,ao7,_⟩:=info_parts afU;have TZ:l0.length≤c0:=Eg.out;have ao8:Kd.C k46 _ A0 l0.length l0:=qN.out;have ahU:=afF (P:=Tryz.prog) 58 46 .i64 Tryz.underlying58 afl A0 l0.length c0 (Zc) (of_decide_eq_true cL) q13 TZ;have ahV:=Kd.afH (m:=((Zc):Int).toNat) ao8 aA;have ahW:dQ.length=((Zc):Int).toNat:=(by rw [afk.out,List.length_take];omega);rw [← afk.out] at ahV;rw [← ahW] at ahU;have ao9:=ah.mk ahV;have aIw:=ah.mk (show dQ.length≤c0 from by omega);clear ahV ao8 TZ afl ao7;have aL9:=ah.mk ahW;clear ahW;replace q13:=eq_true q13))
 go_loopg [29] k (fun kq v29 w'=>∃ (cA:Int) (cN:Int) (aq:List (pO)) (Be:Value),v29= .int .i64 cA∧ah (aK.l0 kq a1 a2 dQ (dQ.length:Int) cA cN aq=some r)∧ah (kq≤k)∧ah (Kd.S Bz 34 w' w.heap.size (fun _ =>True) Be aq)∧ah (w'.heap[eG]? =some (.cells #[.int .i64 cN,Be] 40 (0,0)))∧ah (Below w.heap.size w w'))
 case atStart=>exact ⟨(0),(O8),(K5),(.slice ug K5.length uh),(by rfl),H',⟨Nat.le_refl _⟩,⟨by exact FH.out⟩,⟨jH⟩,⟨aI⟩⟩
 case round=>
  clear H'
  obtain ⟨cA,cN,aq,Be,rfl,HA,oI,cu,dx,HB⟩:=hrel
  cases gk with
  |zero=>exact absurd HA.out (by simp [aK.l0])
  |succ k1=>
   have H:=HA.out
   clear HA
   simp only [aK.l0] at H
   by_cases c14:cA < (dQ.length:Int)
   ·rw [if_pos c14] at H
    have Mb:=decide_eq_true c14
    clear c14
    obtain ⟨c15,H⟩:=lg H
    have Xh:=decide_eq_true c15
    clear c15
    obtain ⟨c16,H⟩:=lg H
    have ajn:=decide_eq_true c16
    clear c16
    obtain ⟨⟨adT,adU,aEI⟩,Od,H⟩:=bd_ H
    (try dsimp only at H)
    have H':=ah.mk H
    clear H
    have ahX: 0≤(cA:Int):=of_decide_eq_true cL
    have ahY:cA < (dQ.length:Int):=of_decide_eq_true cL
    obtain ⟨aIx,uL,uM,zy,zz,CO,CP,aEJ,K6,K7,K8,K9,La,Lb,Lc,Ld,Le,Lf,FI,FJ,FL,T4,T6,MO,MP,MQ,MS⟩:=afV ao9.out cA ahX ahY
    cases aEJ
    replace K6:=(HB.out.cell (World.block_lt_of_cell? w _ K6)).trans K6
    replace K7:=(HB.out.cell (World.block_lt_of_cell? w _ K7)).trans K7
    replace K8:=(HB.out.cell (World.block_lt_of_cell? w _ K8)).trans K8
    replace K9:=(HB.out.cell (World.block_lt_of_cell? w _ K9)).trans K9
    replace La:=(HB.out.cell (World.block_lt_of_cell? w _ La)).trans La
    replace Lb:=(HB.out.cell (World.block_lt_of_cell? w _ Lb)).trans Lb
    replace Lc:=(HB.out.cell (World.block_lt_of_cell? w _ Lc)).trans Lc
    replace Ld:=(HB.out.cell (World.block_lt_of_cell? w _ Ld)).trans Ld
    replace Le:=(HB.out.cell (World.block_lt_of_cell? w _ Le)).trans Le
    replace Lf:=(HB.out.cell (World.block_lt_of_cell? w _ Lf)).trans Lf
    replace FI:=(HB.out.cell (World.block_lt_of_cell? w _ FI)).trans FI
    replace FJ:=(HB.out.cell (World.block_lt_of_cell? w _ FJ)).trans FJ
    replace FL:=(HB.out.cell (World.block_lt_of_cell? w _ FL)).trans FL
    have adV:=ah.mk T6
    have adW:=ah.mk T4
    clear T6 T4
    have Yr:=ah.mk MP
    have Yt:=ah.mk MO
    clear MP MO
    have Yu:=ah.mk MS
    have Yv:=ah.mk MQ
    clear MS MQ
    replace ahX:=eq_true ahX
    replace ahY:=eq_true ahY
    go_wp2_with (first|((with_reducible refine bw (N:=9) rfl ?_);(try (refine bO (by rfl) ?_;dsimp only));refine bA ?hg (N:=9) ?hd (cs:=#[.int .u8 0,.int .i64 0,.int .i64 0,.int .i64 0,.int .i64 0,.bool false,.slice none 0 0,.string (⟨#[]⟩:ByteArray),.string (⟨#[]⟩:ByteArray),.bool false,.slice none 0 0,.slice none 0 0,.int .i64 0]) (t:=46) ?hr ?_;(case hd=>rfl);(case hg=>rfl);(case hr=>(go_simp;done));intro kT hg sK bH hb;replace cu:=ah.mk (Kd.cx lC hb);have lI:=ah.mk (bH);have aIy:=ah.mk ((bG:w.heap.size≤kT));have aiD:=ah.mk ((bG:w.heap.size≤kT));replace HB:=ah.mk (av aI hb);have j6:=ah.mk ((o9:eG≠kT));have VF:=ah.mk ((pg:kT≠eG));replace dx:=ah.mk (az jH hb);clear hb bH hg;have X6:=VF.out;have X7:=j6.out;have Ae:sK.cell? ⟨kT,0,none⟩=some (.int .u8 0):=(af lI.out 0).trans rfl;have Af:sK.cell? ⟨kT,1,none⟩=some (.int .i64 0):=(af lI.out 1).trans rfl;have Ag:sK.cell? ⟨kT,2,none⟩=some (.int .i64 0):=(af lI.out 2).trans rfl;have DW:sK.cell? ⟨kT,3,none⟩=some (.int .i64 0):=(af lI.out 3).trans rfl;have DX:sK.cell? ⟨kT,4,none⟩=some (.int .i64 0):=(af lI.out 4).trans rfl;have DY:sK.cell? ⟨kT,5,none⟩=some (.bool false):=(af lI.out 5).trans rfl;have Jg:sK.cell? ⟨kT,6,none⟩=some (.slice none 0 0):=(af lI.out 6).trans rfl;have Jh:sK.cell? ⟨kT,7,none⟩=some (.string (⟨#[]⟩:ByteArray)):=(af lI.out 7).trans rfl;have Ji:sK.cell? ⟨kT,8,none⟩=some (.string (⟨#[]⟩:ByteArray)):=(af lI.out 8).trans rfl;have aBA:sK.cell? ⟨kT,9,none⟩=some (.bool false):=(af lI.out 9).trans rfl;have apa:sK.cell? ⟨kT,10,none⟩=some (.slice none 0 0):=(af lI.out 10).trans rfl;have apb:sK.cell? ⟨kT,11,none⟩=some (.slice none 0 0):=(af lI.out 11).trans rfl;have apc:sK.cell? ⟨kT,12,none⟩=some (.int .i64 0):=(af lI.out 12).trans rfl;have Ah:=aa lI.out 0;have Ai:=aa lI.out 1;have Aj:=aa lI.out 2;have DZ:=aa lI.out 3;have D2:=aa lI.out 4;have D3:=aa lI.out 5;have Jj:=aa lI.out 6;have Jk:=aa lI.out 7;have Jl:=aa lI.out 8;have aBB:=aa lI.out 9;have apd:=aa lI.out 10;have ape:=aa lI.out 11;have apf:=aa lI.out 12;have Rl:sK.cell? ⟨eG,0,none⟩=some (.int .i64 cN):=(af dx.out 0).trans rfl;have Rm:sK.cell? ⟨eG,1,none⟩=some (Be):=(af dx.out 1).trans rfl;have Rn:=aa dx.out 0;have Ro:=aa dx.out 1;obtain ⟨Yw,VG,aEK⟩:=Kd.gP cu.out;subst aEK)|((with_reducible refine bE (f:=15) rfl ?_);refine dg (some 36) rfl rfl Tryz.func15 au rfl #[.agg #[.int .i64 cN,.slice Yw aq.length VG],.agg #[.int .u8 ((bM dQ cA).f0),.int .i64 ((bM dQ cA).f1),.int .i64 ((bM dQ cA).f2),.int .i64 ((bM dQ cA).f3),.int .i64 ((bM dQ cA).f4.f0),.bool ((bM dQ cA).f4.f1.f0),.slice uL ((bM dQ cA).f4.f1.f1).length uM,.string ((bM dQ cA).f4.f1.f2.f0),.string ((bM dQ cA).f4.f1.f2.f1),.bool ((bM dQ cA).f4.f1.f2.f2),.slice zy ((bM dQ cA).f4.f2).length zz,.slice CO ((bM dQ cA).f4.f3).length CP,.int .i64 ((bM dQ cA).f4.f4)]] rfl dM ?_;(with_reducible refine (cz.calls k1 cN _ _ aq ((bM dQ cA).f0) ((bM dQ cA).f1) ((bM dQ cA).f2) ((bM dQ cA).f3) ((bM dQ cA).f4.f0) ((bM dQ cA).f4.f1.f0) _ _ ((bM dQ cA).f4.f1.f1) ((bM dQ cA).f4.f1.f2.f0) ((bM dQ cA).f4.f1.f2.f1) ((bM dQ cA).f4.f1.f2.f2) _ _ ((bM dQ cA).f4.f2) _ _ ((bM dQ cA).f4.f3) ((bM dQ cA).f4.f4) adT adU aEI _ ?bk ?bI ?cO ?ey ?gz ?gA ?ko ?nA ?nB Od.out).mono ?_);(case bk=>refine (Kd.dN (e:=34) (base:=w.heap.size) (ok:=fun k_ =>True) (n:=aq.length) (c:=VG) ?_).2.2;exact Nt);(case bI=>exact (Kd.dN cu.out).2.1);(case cO=>exact Kd.bU adV.out Bp);(case ey=>exact adW.out);(case gz=>exact Kd.bU Yr.out Bp);(case gA=>exact Yt.out);(case ko=>exact Kd.bU Yu.out Bp);(case nA=>exact Yv.out);(case nB=>exact bB.below HG.out Bp);rintro e sI ⟨aMa,rfl,ho0,hb⟩;refine ⟨_,rfl,?_⟩;have afm:=ah.mk (Kd.lN (Kd.fo ho0 (Kd.p9 Nt)) (bV Bp));replace cu:=ah.mk (Kd.fR Nt (Kd.jI ho0) hb);replace dx:=ah.mk (az (g:=eG) (o:= .cells #[.int .i64 cN,.slice Yw aq.length VG] 40 (0,0)) (by refine aR ?_ j6.out _;refine aR ?_ j6.out _;refine aR ?_ j6.out _;refine aR ?_ j6.out _;refine aR ?_ j6.out _;refine aR ?_ j6.out _;refine aR ?_ j6.out _;refine aR ?_ j6.out _;refine aR ?_ j6.out _;refine aR ?_ j6.out _;refine aR ?_ j6.out _;refine aR ?_ j6.out _;refine aR ?_ j6.out _;exact dx.out) hb);replace lI:=ah.mk (az (g:=kT) (o:= .cells #[.int .u8 ((bM dQ cA).f0),.int .i64 ((bM dQ cA).f1),.int .i64 ((bM dQ cA).f2),.int .i64 ((bM dQ cA).f3),.int .i64 ((bM dQ cA).f4.f0),.bool ((bM dQ cA).f4.f1.f0),.slice uL ((bM dQ cA).f4.f1.f1).length uM,.string ((bM dQ cA).f4.f1.f2.f0),.string ((bM dQ cA).f4.f1.f2.f1),.bool ((bM dQ cA).f4.f1.f2.f2),.slice zy ((bM dQ cA).f4.f2).length zz,.slice CO ((bM dQ cA).f4.f3).length CP,.int .i64 ((bM dQ cA).f4.f4)] 46 (0,0)) (by refine aW (cs:=#[.int .u8 ((bM dQ cA).f0),.int .i64 ((bM dQ cA).f1),.int .i64 ((bM dQ cA).f2),.int .i64 ((bM dQ cA).f3),.int .i64 ((bM dQ cA).f4.f0),.bool ((bM dQ cA).f4.f1.f0),.slice uL ((bM dQ cA).f4.f1.f1).length uM,.string ((bM dQ cA).f4.f1.f2.f0),.string ((bM dQ cA).f4.f1.f2.f1),.bool ((bM dQ cA).f4.f1.f2.f2),.slice zy ((bM dQ cA).f4.f2).length zz,.slice CO ((bM dQ cA).f4.f3).length CP,.int .i64 0]) ?_ 12 _ rfl;refine aW (cs:=#[.int .u8 ((bM dQ cA).f0),.int .i64 ((bM dQ cA).f1),.int .i64 ((bM dQ cA).f2),.int .i64 ((bM dQ cA).f3),.int .i64 ((bM dQ cA).f4.f0),.bool ((bM dQ cA).f4.f1.f0),.slice uL ((bM dQ cA).f4.f1.f1).length uM,.string ((bM dQ cA).f4.f1.f2.f0),.string ((bM dQ cA).f4.f1.f2.f1),.bool ((bM dQ cA).f4.f1.f2.f2),.slice zy ((bM dQ cA).f4.f2).length zz,.slice none 0 0,.int .i64 0]) ?_ 11 _ rfl;refine aW (cs:=#[.int .u8 ((bM dQ cA).f0),.int .i64 ((bM dQ cA).f1),.int .i64 ((bM dQ cA).f2),.int .i64 ((bM dQ cA).f3),.int .i64 ((bM dQ cA).f4.f0),.bool ((bM dQ cA).f4.f1.f0),.slice uL ((bM dQ cA).f4.f1.f1).length uM,.string ((bM dQ cA).f4.f1.f2.f0),.string ((bM dQ cA).f4.f1.f2.f1),.bool ((bM dQ cA).f4.f1.f2.f2),.slice none 0 0,.slice none 0 0,.int .i64 0]) ?_ 10 _ rfl;refine aW (cs:=#[.int .u8 ((bM dQ cA).f0),.int .i64 ((bM dQ cA).f1),.int .i64 ((bM dQ cA).f2),.int .i64 ((bM dQ cA).f3),.int .i64 ((bM dQ cA).f4.f0),.bool ((bM dQ cA).f4.f1.f0),.slice uL ((bM dQ cA).f4.f1.f1).length uM,.string ((bM dQ cA).f4.f1.f2.f0),.string ((bM dQ cA).f4.f1.f2.f1),.bool false,.slice none 0 0,.slice none 0 0,.int .i64 0]) ?_ 9 _ rfl;refine aW (cs:=#[.int .u8 ((bM dQ cA).f0),.int .i64 ((bM dQ cA).f1),.int .i64 ((bM dQ cA).f2),.int .i64 ((bM dQ cA).f3),.int .i64 ((bM dQ cA).f4.f0),.bool ((bM dQ cA).f4.f1.f0),.slice uL ((bM dQ cA).f4.f1.f1).length uM,.string ((bM dQ cA).f4.f1.f2.f0),.string (⟨#[]⟩:ByteArray),.bool false,.slice none 0 0,.slice none 0 0,.int .i64 0]) ?_ 8 _ rfl;refine aW (cs:=#[.int .u8 ((bM dQ cA).f0),.int .i64 ((bM dQ cA).f1),.int .i64 ((bM dQ cA).f2),.int .i64 ((bM dQ cA).f3),.int .i64 ((bM dQ cA).f4.f0),.bool ((bM dQ cA).f4.f1.f0),.slice uL ((bM dQ cA).f4.f1.f1).length uM,.string (⟨#[]⟩:ByteArray),.string (⟨#[]⟩:ByteArray),.bool false,.slice none 0 0,.slice none 0 0,.int .i64 0]) ?_ 7 _ rfl;refine aW (cs:=#[.int .u8 ((bM dQ cA).f0),.int .i64 ((bM dQ cA).f1),.int .i64 ((bM dQ cA).f2),.int .i64 ((bM dQ cA).f3),.int .i64 ((bM dQ cA).f4.f0),.bool ((bM dQ cA).f4.f1.f0),.slice none 0 0,.string (⟨#[]⟩:ByteArray),.string (⟨#[]⟩:ByteArray),.bool false,.slice none 0 0,.slice none 0 0,.int .i64 0]) ?_ 6 _ rfl;refine aW (cs:=#[.int .u8 ((bM dQ cA).f0),.int .i64 ((bM dQ cA).f1),.int .i64 ((bM dQ cA).f2),.int .i64 ((bM dQ cA).f3),.int .i64 ((bM dQ cA).f4.f0),.bool false,.slice none 0 0,.string (⟨#[]⟩:ByteArray),.string (⟨#[]⟩:ByteArray),.bool false,.slice none 0 0,.slice none 0 0,.int .i64 0]) ?_ 5 _ rfl;refine aW (cs:=#[.int .u8 ((bM dQ cA).f0),.int .i64 ((bM dQ cA).f1),.int .i64 ((bM dQ cA).f2),.int .i64 ((bM dQ cA).f3),.int .i64 0,.bool false,.slice none 0 0,.string (⟨#[]⟩:ByteArray),.string (⟨#[]⟩:ByteArray),.bool false,.slice none 0 0,.slice none 0 0,.int .i64 0]) ?_ 4 _ rfl;refine aW (cs:=#[.int .u8 ((bM dQ cA).f0),.int .i64 ((bM dQ cA).f1),.int .i64 ((bM dQ cA).f2),.int .i64 0,.int .i64 0,.bool false,.slice none 0 0,.string (⟨#[]⟩:ByteArray),.string (⟨#[]⟩:ByteArray),.bool false,.slice none 0 0,.slice none 0 0,.int .i64 0]) ?_ 3 _ rfl;refine aW (cs:=#[.int .u8 ((bM dQ cA).f0),.int .i64 ((bM dQ cA).f1),.int .i64 0,.int .i64 0,.int .i64 0,.bool false,.slice none 0 0,.string (⟨#[]⟩:ByteArray),.string (⟨#[]⟩:ByteArray),.bool false,.slice none 0 0,.slice none 0 0,.int .i64 0]) ?_ 2 _ rfl;refine aW (cs:=#[.int .u8 ((bM dQ cA).f0),.int .i64 0,.int .i64 0,.int .i64 0,.int .i64 0,.bool false,.slice none 0 0,.string (⟨#[]⟩:ByteArray),.string (⟨#[]⟩:ByteArray),.bool false,.slice none 0 0,.slice none 0 0,.int .i64 0]) ?_ 1 _ rfl;refine aW (cs:=#[.int .u8 0,.int .i64 0,.int .i64 0,.int .i64 0,.int .i64 0,.bool false,.slice none 0 0,.string (⟨#[]⟩:ByteArray),.string (⟨#[]⟩:ByteArray),.bool false,.slice none 0 0,.slice none 0 0,.int .i64 0]) ?_ 0 _ rfl;exact lI.out) hb);replace HB:=ah.mk (av Bp hb);(try clear hb);(try clear ho0);have aBC:sI.cell? ⟨eG,0,none⟩=some (.int .i64 cN):=(af dx.out 0).trans rfl;have aBD:sI.cell? ⟨eG,1,none⟩=some (.slice Yw aq.length VG):=(af dx.out 1).trans rfl;have aBE:=aa dx.out 0;have aBF:=aa dx.out 1;obtain ⟨U4,U5,XH⟩:=Kd.gP afm.out;subst XH))
    go_roundg k1
    case measure=>have:=oI.out;omega
    case rel=>exact ⟨(wrap64 (cA + 1)),(adT),(adU),(.slice U4 adU.length U5),(by rfl),H',⟨lS⟩,⟨by exact Kd.dG (Kd.bS (p:=⟨eG,1,none⟩) (Kd.bS (p:=⟨eG,0,none⟩) (Kd.fN afm.out dx.out bC) (fun _ hk=>hk.2) (.int .i64 adT)) (fun _ hk=>hk.2) (.slice U4 adU.length U5)) (fun _ hk=>trivial)⟩,⟨by refine aW (cs:=#[.int .i64 adT,.slice Yw aq.length VG]) ?_ 1 _ rfl;refine aW (cs:=#[.int .i64 cN,.slice Yw aq.length VG]) ?_ 0 _ rfl;exact dx.out⟩,⟨PY⟩⟩
   ·rw [if_neg c14] at H
    have Mb:=decide_eq_false c14
    clear c14
    have H':=ah.mk H
    clear H
    have RO:wr.cell? ⟨eG,0,none⟩=some (.int .i64 cN):=(af dx.out 0).trans rfl
    have RP:wr.cell? ⟨eG,1,none⟩=some (Be):=(af dx.out 1).trans rfl
    have RQ:=aa dx.out 0
    have RR:=aa dx.out 1
    obtain ⟨nC,kS,ahu⟩:=Kd.gP cu.out
    subst ahu
    go_wp2
    go_loopg [10,11,43] k1 (fun kq v10 v11 v43 w'=>∃ (eH:List (sO)) (yQ:List Int) (bD:Int),v43= .int .i64 bD∧ah (aK.l1 kq a1 a2 eH yQ aq (aq.length:Int) bD cN aq=some r)∧ah (kq≤k1)∧ah (Kd.R NW 63 w' w.heap.size (fun _ =>True) v10 eH)∧ah (Kd.R (Kd.int .i64) 3 w' w.heap.size (fun _ =>True) v11 yQ)∧ah (Kd.S Bz 34 w' w.heap.size (fun _ =>True) (.slice nC aq.length kS) aq)∧ah (Kd.S Bz 34 w' w.heap.size (fun _ =>True) (.slice nC aq.length kS) aq)∧ah (w'.heap[eG]? =some (.cells #[.int .i64 cN,(.slice nC aq.length kS)] 40 (0,0)))∧ah (Below w.heap.size w w'))
    case atStart=>exact ⟨(([]:List (sO))),(([]:List Int)),(0),(by rfl),H',⟨Nat.le_refl _⟩,⟨qH⟩,⟨qH⟩,⟨lC⟩,⟨lC⟩,⟨jH⟩,⟨aI⟩⟩
    case round=>
     clear H'
     obtain ⟨eH,yQ,bD,rfl,HA,Gv,fW,nu,nr,cu,dx,HB⟩:=hrel
     cases gk with
     |zero=>exact absurd HA.out (by simp [aK.l1])
     |succ k2=>
      have H:=HA.out
      clear HA
      simp only [aK.l1] at H
      by_cases c28:bD < (aq.length:Int)
      ·rw [if_pos c28] at H
       have Xb:=decide_eq_true c28
       clear c28
       obtain ⟨Nn,H⟩:=lg H
       have XI:=decide_eq_true Nn
       clear Nn
       obtain ⟨c30,H⟩:=lg H
       have ae1:=decide_eq_true c30
       clear c30
       have H':=ah.mk H
       clear H
       have adX: 0≤(bD:Int):=of_decide_eq_true cL
       have adY:bD < (aq.length:Int):=of_decide_eq_true cL
       obtain ⟨MT,oM,oN,sD,qF,sF,sG,aEL,aBG,aBH,adZ,aBI,aBJ,aBK,ad0,ad1,aBL,T7,Ua,Ub,Uc,Ud,Ue⟩:=tX (Kd.dN nr.out).2.2 bD adX adY
       cases aEL
       obtain ⟨aIz,ahZ,ah0,Lg⟩:=Kd.aiS nr.out z34 bD adX (by exact adY)
       obtain ⟨aBM,aBN,aBO,rfl,Lh,Li,Lj⟩:=GK ah0
       have Bf:=Lg 2 _ rfl
       rw [iH _ _ 2 aA] at Bf
       replace Bf:=Option.some.inj (Bf.symm.trans adZ)
       rw [Bf] at Lh
       have Uf:=ah.mk (show Kd.R Kd.string 9 _ _ _ _ ((aj aq bD).f1.f1) from Lh)
       clear Bf Lh
       have Bg:=Lg 6 _ rfl
       rw [iH _ _ 6 aA] at Bg
       replace Bg:=Option.some.inj (Bg.symm.trans ad0)
       rw [Bg] at Li
       have jV:=ah.mk (show Kd.R sN 37 _ _ _ _ ((aj aq bD).f2) from Li)
       clear Bg Li
       have Bh:=Lg 7 _ rfl
       rw [iH _ _ 7 aA] at Bh
       replace Bh:=Option.some.inj (Bh.symm.trans ad1)
       rw [Bh] at Lj
       have Ug:=ah.mk (show Kd.R (Kd.int .u8) 5 _ _ _ _ ((aj aq bD).f3) from Lj)
       clear Bh Lj
       clear Lg ahZ
       have Uh:=ah.mk Ua
       have aBP:=ah.mk T7
       clear Ua T7
       have Ui:=ah.mk Uc
       have aBQ:=ah.mk Ub
       clear Uc Ub
       have Uj:=ah.mk Ue
       have aBR:=ah.mk Ud
       clear Ue Ud
       replace adX:=eq_true adX
       replace adY:=eq_true adY
       go_wp2_with (((with_reducible refine bw (N:=13) rfl ?_);(try (refine bO (by rfl) ?_;dsimp only));refine bA ?hg (N:=13) ?hd (cs:=#[.int .i64 0,.bool false,.slice none 0 0,.string (⟨#[]⟩:ByteArray),.string (⟨#[]⟩:ByteArray),.bool false,.slice none 0 0,.slice none 0 0,.int .i64 0]) (t:=34) ?hr ?_;(case hd=>rfl);(case hg=>rfl);(case hr=>(go_simp;done));intro dR hg Xt bH hb;replace fW:=ah.mk (Kd.bq ku hb);replace nu:=ah.mk (Kd.bq ou hb);replace nr:=ah.mk (Kd.cx (Kd.qa vo dR (Nat.le_of_eq hg.symm)) hb);replace cu:=ah.mk (Kd.cx (Kd.qa lC dR (Nat.le_of_eq hg.symm)) hb);replace Uf:=ah.mk (Kd.bq (by exact Uf.out) hb);replace jV:=ah.mk (Kd.bq (Kd.lM zM dR (Nat.le_of_eq hg.symm)) hb);replace Ug:=ah.mk (Kd.bq (by exact Ug.out) hb);replace Uh:=ah.mk (Kd.bU (by repeat ((with_reducible exact Uh.out))) hb);replace Ui:=ah.mk (Kd.bU (by repeat ((with_reducible exact Ui.out))) hb);replace Uj:=ah.mk (Kd.bU (by repeat ((with_reducible exact Uj.out))) hb);have fk:=ah.mk (bH);have aIA:=ah.mk ((bG:w.heap.size≤dR));have apg:=ah.mk ((bG:w.heap.size≤dR));replace HB:=ah.mk (av aI hb);have lH:=ah.mk ((o9:eG≠dR));have Co:=ah.mk ((pg:dR≠eG));replace dx:=ah.mk (az jH hb);clear hb bH hg;have aIB:=Co.out;have aIC:=lH.out;have RS:Xt.cell? ⟨dR,0,none⟩=some (.int .i64 0):=(af fk.out 0).trans rfl;have RT:Xt.cell? ⟨dR,1,none⟩=some (.bool false):=(af fk.out 1).trans rfl;have RU:Xt.cell? ⟨dR,2,none⟩=some (.slice none 0 0):=(af fk.out 2).trans rfl;have RV:Xt.cell? ⟨dR,3,none⟩=some (.string (⟨#[]⟩:ByteArray)):=(af fk.out 3).trans rfl;have RX:Xt.cell? ⟨dR,4,none⟩=some (.string (⟨#[]⟩:ByteArray)):=(af fk.out 4).trans rfl;have RY:Xt.cell? ⟨dR,5,none⟩=some (.bool false):=(af fk.out 5).trans rfl;have RZ:Xt.cell? ⟨dR,6,none⟩=some (.slice none 0 0):=(af fk.out 6).trans rfl;have R3:Xt.cell? ⟨dR,7,none⟩=some (.slice none 0 0):=(af fk.out 7).trans rfl;have R4:Xt.cell? ⟨dR,8,none⟩=some (.int .i64 0):=(af fk.out 8).trans rfl;have R5:=aa fk.out 0;have R6:=aa fk.out 1;have R7:=aa fk.out 2;have R8:=aa fk.out 3;have R9:=aa fk.out 4;have Sa:=aa fk.out 5;have Sb:=aa fk.out 6;have Sc:=aa fk.out 7;have Sd:=aa fk.out 8))
       go_loopg [10,14,50] k2 (fun kq v10 v14 v50 w'=>∃ (yR:List (sO)) (CE:Int) (dB:Int),v14= .int .i64 CE∧v50= .int .i64 dB∧ah (aK.l2 kq a1 a2 yR yQ CE aq (aq.length:Int) bD ((aj aq bD).f2) (((aj aq bD).f2).length:Int) dB cN aq ((aj aq bD).f0) ((aj aq bD).f1.f0) ((aj aq bD).f1.f1) ((aj aq bD).f1.f2.f0) ((aj aq bD).f1.f2.f1) ((aj aq bD).f1.f2.f2) ((aj aq bD).f2) ((aj aq bD).f3) ((aj aq bD).f4)=some r)∧ah (kq≤k2)∧ah (Kd.R NW 63 w' w.heap.size (fun _ =>True) v10 yR)∧ah (Kd.R (Kd.int .i64) 3 w' w.heap.size (fun _ =>True) u11 yQ)∧ah (Kd.S Bz 34 w' w.heap.size (fun k_ =>k_≠dR) (.slice (some MT) aq.length kS) aq)∧ah (Kd.S Bz 34 w' w.heap.size (fun k_ =>k_≠dR) (.slice (some MT) aq.length kS) aq)∧ah (Kd.R sN 37 w' w.heap.size (fun k_ =>k_≠dR) (.slice sD ((aj aq bD).f2).length qF) ((aj aq bD).f2))∧ah (w'.heap[eG]? =some (.cells #[.int .i64 cN,(.slice (some MT) aq.length kS)] 40 (0,0)))∧ah (w'.heap[dR]? =some (.cells #[.int .i64 ((aj aq bD).f0),.bool ((aj aq bD).f1.f0),(.slice oM ((aj aq bD).f1.f1).length oN),.string ((aj aq bD).f1.f2.f0),.string ((aj aq bD).f1.f2.f1),.bool ((aj aq bD).f1.f2.f2),(.slice sD ((aj aq bD).f2).length qF),(.slice sF ((aj aq bD).f3).length sG),.int .i64 ((aj aq bD).f4)] 34 (0,0)))∧ah (Below w.heap.size w w'))
       case atStart=>exact ⟨(eH),(0),(0),(by rfl),(by rfl),H',⟨Nat.le_refl _⟩,⟨by exact Kd.cB (Kd.bf (p:=⟨dR,8,none⟩) (Kd.bf (p:=⟨dR,7,none⟩) (Kd.bf (p:=⟨dR,6,none⟩) (Kd.bf (p:=⟨dR,5,none⟩) (Kd.bf (p:=⟨dR,4,none⟩) (Kd.bf (p:=⟨dR,3,none⟩) (Kd.bf (p:=⟨dR,2,none⟩) (Kd.bf (p:=⟨dR,1,none⟩) (Kd.bf (p:=⟨dR,0,none⟩) (Kd.cS fW.out fk.out bC) (fun _ hk=>hk.2) (.int .i64 ((aj aq bD).f0))) (fun _ hk=>hk.2) (.bool ((aj aq bD).f1.f0))) (fun _ hk=>hk.2) (.slice oM ((aj aq bD).f1.f1).length oN)) (fun _ hk=>hk.2) (.string ((aj aq bD).f1.f2.f0))) (fun _ hk=>hk.2) (.string ((aj aq bD).f1.f2.f1))) (fun _ hk=>hk.2) (.bool ((aj aq bD).f1.f2.f2))) (fun _ hk=>hk.2) (.slice sD ((aj aq bD).f2).length qF)) (fun _ hk=>hk.2) (.slice sF ((aj aq bD).f3).length sG)) (fun _ hk=>hk.2) (.int .i64 ((aj aq bD).f4))) (fun _ hk=>trivial)⟩,⟨by exact Kd.cB (Kd.bf (p:=⟨dR,8,none⟩) (Kd.bf (p:=⟨dR,7,none⟩) (Kd.bf (p:=⟨dR,6,none⟩) (Kd.bf (p:=⟨dR,5,none⟩) (Kd.bf (p:=⟨dR,4,none⟩) (Kd.bf (p:=⟨dR,3,none⟩) (Kd.bf (p:=⟨dR,2,none⟩) (Kd.bf (p:=⟨dR,1,none⟩) (Kd.bf (p:=⟨dR,0,none⟩) (Kd.cS nu.out fk.out bC) (fun _ hk=>hk.2) (.int .i64 ((aj aq bD).f0))) (fun _ hk=>hk.2) (.bool ((aj aq bD).f1.f0))) (fun _ hk=>hk.2) (.slice oM ((aj aq bD).f1.f1).length oN)) (fun _ hk=>hk.2) (.string ((aj aq bD).f1.f2.f0))) (fun _ hk=>hk.2) (.string ((aj aq bD).f1.f2.f1))) (fun _ hk=>hk.2) (.bool ((aj aq bD).f1.f2.f2))) (fun _ hk=>hk.2) (.slice sD ((aj aq bD).f2).length qF)) (fun _ hk=>hk.2) (.slice sF ((aj aq bD).f3).length sG)) (fun _ hk=>hk.2) (.int .i64 ((aj aq bD).f4))) (fun _ hk=>trivial)⟩,⟨by exact Kd.dG (Kd.bS (p:=⟨dR,8,none⟩) (Kd.bS (p:=⟨dR,7,none⟩) (Kd.bS (p:=⟨dR,6,none⟩) (Kd.bS (p:=⟨dR,5,none⟩) (Kd.bS (p:=⟨dR,4,none⟩) (Kd.bS (p:=⟨dR,3,none⟩) (Kd.bS (p:=⟨dR,2,none⟩) (Kd.bS (p:=⟨dR,1,none⟩) (Kd.bS (p:=⟨dR,0,none⟩) (Kd.dG nr.out (fun k_ hk=>(⟨hk,hk.2⟩:_∧k_≠dR))) (fun _ hk=>hk.2) (.int .i64 ((aj aq bD).f0))) (fun _ hk=>hk.2) (.bool ((aj aq bD).f1.f0))) (fun _ hk=>hk.2) (.slice oM ((aj aq bD).f1.f1).length oN)) (fun _ hk=>hk.2) (.string ((aj aq bD).f1.f2.f0))) (fun _ hk=>hk.2) (.string ((aj aq bD).f1.f2.f1))) (fun _ hk=>hk.2) (.bool ((aj aq bD).f1.f2.f2))) (fun _ hk=>hk.2) (.slice sD ((aj aq bD).f2).length qF)) (fun _ hk=>hk.2) (.slice sF ((aj aq bD).f3).length sG)) (fun _ hk=>hk.2) (.int .i64 ((aj aq bD).f4))) (fun _ hk=>hk.1.2)⟩,⟨by exact Kd.dG (Kd.bS (p:=⟨dR,8,none⟩) (Kd.bS (p:=⟨dR,7,none⟩) (Kd.bS (p:=⟨dR,6,none⟩) (Kd.bS (p:=⟨dR,5,none⟩) (Kd.bS (p:=⟨dR,4,none⟩) (Kd.bS (p:=⟨dR,3,none⟩) (Kd.bS (p:=⟨dR,2,none⟩) (Kd.bS (p:=⟨dR,1,none⟩) (Kd.bS (p:=⟨dR,0,none⟩) (Kd.dG cu.out (fun k_ hk=>(⟨hk,hk.2⟩:_∧k_≠dR))) (fun _ hk=>hk.2) (.int .i64 ((aj aq bD).f0))) (fun _ hk=>hk.2) (.bool ((aj aq bD).f1.f0))) (fun _ hk=>hk.2) (.slice oM ((aj aq bD).f1.f1).length oN)) (fun _ hk=>hk.2) (.string ((aj aq bD).f1.f2.f0))) (fun _ hk=>hk.2) (.string ((aj aq bD).f1.f2.f1))) (fun _ hk=>hk.2) (.bool ((aj aq bD).f1.f2.f2))) (fun _ hk=>hk.2) (.slice sD ((aj aq bD).f2).length qF)) (fun _ hk=>hk.2) (.slice sF ((aj aq bD).f3).length sG)) (fun _ hk=>hk.2) (.int .i64 ((aj aq bD).f4))) (fun _ hk=>hk.1.2)⟩,⟨by exact Kd.cB (Kd.bf (p:=⟨dR,8,none⟩) (Kd.bf (p:=⟨dR,7,none⟩) (Kd.bf (p:=⟨dR,6,none⟩) (Kd.bf (p:=⟨dR,5,none⟩) (Kd.bf (p:=⟨dR,4,none⟩) (Kd.bf (p:=⟨dR,3,none⟩) (Kd.bf (p:=⟨dR,2,none⟩) (Kd.bf (p:=⟨dR,1,none⟩) (Kd.bf (p:=⟨dR,0,none⟩) (Kd.cB jV.out (fun k_ hk=>(⟨hk,hk.2⟩:_∧k_≠dR))) (fun _ hk=>hk.2) (.int .i64 ((aj aq bD).f0))) (fun _ hk=>hk.2) (.bool ((aj aq bD).f1.f0))) (fun _ hk=>hk.2) (.slice oM ((aj aq bD).f1.f1).length oN)) (fun _ hk=>hk.2) (.string ((aj aq bD).f1.f2.f0))) (fun _ hk=>hk.2) (.string ((aj aq bD).f1.f2.f1))) (fun _ hk=>hk.2) (.bool ((aj aq bD).f1.f2.f2))) (fun _ hk=>hk.2) (.slice sD ((aj aq bD).f2).length qF)) (fun _ hk=>hk.2) (.slice sF ((aj aq bD).f3).length sG)) (fun _ hk=>hk.2) (.int .i64 ((aj aq bD).f4))) (fun _ hk=>hk.2)⟩,⟨by refine aR ?_ lH.out _;refine aR ?_ lH.out _;refine aR ?_ lH.out _;refine aR ?_ lH.out _;refine aR ?_ lH.out _;refine aR ?_ lH.out _;refine aR ?_ lH.out _;refine aR ?_ lH.out _;refine aR ?_ lH.out _;exact dx.out⟩,⟨by refine aW (cs:=#[.int .i64 ((aj aq bD).f0),.bool ((aj aq bD).f1.f0),.slice oM ((aj aq bD).f1.f1).length oN,.string ((aj aq bD).f1.f2.f0),.string ((aj aq bD).f1.f2.f1),.bool ((aj aq bD).f1.f2.f2),.slice sD ((aj aq bD).f2).length qF,.slice sF ((aj aq bD).f3).length sG,.int .i64 0]) ?_ 8 _ rfl;refine aW (cs:=#[.int .i64 ((aj aq bD).f0),.bool ((aj aq bD).f1.f0),.slice oM ((aj aq bD).f1.f1).length oN,.string ((aj aq bD).f1.f2.f0),.string ((aj aq bD).f1.f2.f1),.bool ((aj aq bD).f1.f2.f2),.slice sD ((aj aq bD).f2).length qF,.slice none 0 0,.int .i64 0]) ?_ 7 _ rfl;refine aW (cs:=#[.int .i64 ((aj aq bD).f0),.bool ((aj aq bD).f1.f0),.slice oM ((aj aq bD).f1.f1).length oN,.string ((aj aq bD).f1.f2.f0),.string ((aj aq bD).f1.f2.f1),.bool ((aj aq bD).f1.f2.f2),.slice none 0 0,.slice none 0 0,.int .i64 0]) ?_ 6 _ rfl;refine aW (cs:=#[.int .i64 ((aj aq bD).f0),.bool ((aj aq bD).f1.f0),.slice oM ((aj aq bD).f1.f1).length oN,.string ((aj aq bD).f1.f2.f0),.string ((aj aq bD).f1.f2.f1),.bool false,.slice none 0 0,.slice none 0 0,.int .i64 0]) ?_ 5 _ rfl;refine aW (cs:=#[.int .i64 ((aj aq bD).f0),.bool ((aj aq bD).f1.f0),.slice oM ((aj aq bD).f1.f1).length oN,.string ((aj aq bD).f1.f2.f0),.string (⟨#[]⟩:ByteArray),.bool false,.slice none 0 0,.slice none 0 0,.int .i64 0]) ?_ 4 _ rfl;refine aW (cs:=#[.int .i64 ((aj aq bD).f0),.bool ((aj aq bD).f1.f0),.slice oM ((aj aq bD).f1.f1).length oN,.string (⟨#[]⟩:ByteArray),.string (⟨#[]⟩:ByteArray),.bool false,.slice none 0 0,.slice none 0 0,.int .i64 0]) ?_ 3 _ rfl;refine aW (cs:=#[.int .i64 ((aj aq bD).f0),.bool ((aj aq bD).f1.f0),.slice none 0 0,.string (⟨#[]⟩:ByteArray),.string (⟨#[]⟩:ByteArray),.bool false,.slice none 0 0,.slice none 0 0,.int .i64 0]) ?_ 2 _ rfl;refine aW (cs:=#[.int .i64 ((aj aq bD).f0),.bool false,.slice none 0 0,.string (⟨#[]⟩:ByteArray),.string (⟨#[]⟩:ByteArray),.bool false,.slice none 0 0,.slice none 0 0,.int .i64 0]) ?_ 1 _ rfl;refine aW (cs:=#[.int .i64 0,.bool false,.slice none 0 0,.string (⟨#[]⟩:ByteArray),.string (⟨#[]⟩:ByteArray),.bool false,.slice none 0 0,.slice none 0 0,.int .i64 0]) ?_ 0 _ rfl;exact fk.out⟩,⟨by repeat ((with_reducible first|exact HB.out|refine cC ?_ apg.out))⟩⟩
       case round=>
        clear H'
        obtain ⟨yR,CE,dB,rfl,rfl,HA,HK3,fW,nu,nr,cu,jV,dx,fk,HB⟩:=hrel
        cases gk with
        |zero=>exact absurd HA.out (by simp [aK.l2])
        |succ k3=>
         have H:=HA.out
         clear HA
         simp only [aK.l2] at H
         by_cases c34:dB < (((aj aq bD).f2).length:Int)
         ·rw [if_pos c34] at H
          have aph:=decide_eq_true c34
          clear c34
          obtain ⟨c35,H⟩:=lg H
          have aIE:=decide_eq_true c35
          clear c35
          obtain ⟨c36,H⟩:=lg H
          have aIG:=decide_eq_true c36
          clear c36
          by_cases c37:((bn ((aj aq bD).f2) dB).f1)=0
          ·rw [if_pos c37] at H
           have api:=beq_iff_eq.mpr c37
           have apj:=bne_eq_false_iff_eq.mpr c37
           clear c37
           by_cases c38:((bn ((aj aq bD).f2) dB).f3)≤a1
           ·rw [if_pos c38] at H
            have apk:=decide_eq_true c38
            clear c38
            obtain ⟨c39,H⟩:=lg H
            have apl:=ah.mk c39
            clear c39
            obtain ⟨apm,Yx⟩:∃ y_:List (sO),y_=(yR ++ [(⟨((aj aq bD).f0),dB⟩:sO)]):=⟨_,rfl⟩
            replace H:(aK.l2 k3 a1 a2 apm yQ (wrap64 (CE + 1)) aq (aq.length:Int) bD ((aj aq bD).f2) (((aj aq bD).f2).length:Int) (wrap64 (dB + 1)) cN aq ((aj aq bD).f0) ((aj aq bD).f1.f0) ((aj aq bD).f1.f1) ((aj aq bD).f1.f2.f0) ((aj aq bD).f1.f2.f1) ((aj aq bD).f1.f2.f2) ((aj aq bD).f2) ((aj aq bD).f3) ((aj aq bD).f4))=some r:=by (rw [Yx];with_reducible exact H)
            have apn:=ah.mk Yx
            clear Yx
            have H':=ah.mk H
            clear H
            have FM: 0≤(dB:Int):=of_decide_eq_true cL
            have FN:dB < (((aj aq bD).f2).length:Int):=of_decide_eq_true cL
            obtain ⟨Uk,Yy,Ul,Um,Un,Uo,Uq,Ur⟩:=pz (Kd.bW jV.out).2.2 dB FM FN
            cases Yy
            replace FM:=eq_true FM
            replace FN:=eq_true FN
            go_wp2_with (first|((with_reducible refine bw (N:=16) rfl ?_);(try (refine bO (by rfl) ?_;dsimp only));refine bA ?hg (N:=16) ?hd (cs:=#[.string (⟨#[]⟩:ByteArray),.string (⟨#[]⟩:ByteArray),.bool false,.int .u8 0,.int .i64 0,.int .i64 0]) (t:=37) ?hr ?_;(case hd=>rfl);(case hg=>rfl);(case hr=>(go_simp;done));intro cZ hg Gi bH hb;have jJ:=ah.mk (Kd.bq ku hb);have jK:=ah.mk (Kd.bq ou hb);have lV:=ah.mk (Kd.cx (Kd.qa vo cZ (Nat.le_of_eq hg.symm)) hb);have wW:=ah.mk (Kd.cx (Kd.qa lC cZ (Nat.le_of_eq hg.symm)) hb);have yD:=ah.mk (az jH hb);have zw:=ah.mk (az zK hb);have Mx:=ah.mk (av aI hb);have TF:=ah.mk (bH);have Yc:=ah.mk ((bG:w.heap.size≤cZ));have n9_ :=ah.mk ((bG:w.heap.size≤cZ));have MU:=ah.mk ((o9:eG≠cZ));have MV:=ah.mk ((pg:cZ≠eG));have MW:=ah.mk ((Ib:dR≠cZ));have MX:=ah.mk ((Ic:cZ≠dR));have Us:=ah.mk (Kd.bq (Kd.lM zM cZ (Nat.le_of_eq hg.symm)) hb);clear jV;have jV:=Us;clear Us;clear fW;clear nu;clear nr;clear cu;clear dx;clear fk;clear HB;have fW:=jJ;have nu:=jK;have nr:=lV;have cu:=wW;have dx:=yD;have fk:=zw;have HB:=Mx;have ij:=TF;have afo:=Yc;have Wx:=n9_;have mz:=MU;have uH:=MV;have mA:=MW;have uI:=MX;clear jJ jK lV wW yD zw Mx TF Yc n9_ MU MV MW MX;clear hb bH hg;have aII:=uH.out;have aIJ:=mz.out;have aIK:=uI.out;have aIL:=mA.out;have aBS:Gi.cell? ⟨cZ,0,none⟩=some (.string (⟨#[]⟩:ByteArray)):=(af ij.out 0).trans rfl;have aBT:Gi.cell? ⟨cZ,1,none⟩=some (.string (⟨#[]⟩:ByteArray)):=(af ij.out 1).trans rfl;have aBU:Gi.cell? ⟨cZ,2,none⟩=some (.bool false):=(af ij.out 2).trans rfl;have aBV:Gi.cell? ⟨cZ,3,none⟩=some (.int .u8 0):=(af ij.out 3).trans rfl;have aBW:Gi.cell? ⟨cZ,4,none⟩=some (.int .i64 0):=(af ij.out 4).trans rfl;have aBX:Gi.cell? ⟨cZ,5,none⟩=some (.int .i64 0):=(af ij.out 5).trans rfl;have aBY:=aa ij.out 0;have aBZ:=aa ij.out 1;have aB0:=aa ij.out 2;have aB1:=aa ij.out 3;have aB2:=aa ij.out 4;have aB3:=aa ij.out 5;have anT:=Co.out;have anU:=lH.out;have ac4:Gi.cell? ⟨dR,0,none⟩=some (.int .i64 ((aj aq bD).f0)):=(af fk.out 0).trans rfl;have ac5:Gi.cell? ⟨dR,1,none⟩=some (.bool ((aj aq bD).f1.f0)):=(af fk.out 1).trans rfl;have ac6:Gi.cell? ⟨dR,2,none⟩=some (.slice oM ((aj aq bD).f1.f1).length oN):=(af fk.out 2).trans rfl;have ac7:Gi.cell? ⟨dR,3,none⟩=some (.string ((aj aq bD).f1.f2.f0)):=(af fk.out 3).trans rfl;have ac8:Gi.cell? ⟨dR,4,none⟩=some (.string ((aj aq bD).f1.f2.f1)):=(af fk.out 4).trans rfl;have ac9:Gi.cell? ⟨dR,5,none⟩=some (.bool ((aj aq bD).f1.f2.f2)):=(af fk.out 5).trans rfl;have ada:Gi.cell? ⟨dR,6,none⟩=some (.slice (some Uk) ((aj aq bD).f2).length qF):=(af fk.out 6).trans rfl;have adb:Gi.cell? ⟨dR,7,none⟩=some (.slice sF ((aj aq bD).f3).length sG):=(af fk.out 7).trans rfl;have ade:Gi.cell? ⟨dR,8,none⟩=some (.int .i64 ((aj aq bD).f4)):=(af fk.out 8).trans rfl;have adf:=aa fk.out 0;have adg:=aa fk.out 1;have adh:=aa fk.out 2;have adi:=aa fk.out 3;have adj:=aa fk.out 4;have adk:=aa fk.out 5;have adl:=aa fk.out 6;have adm:=aa fk.out 7;have adn:=aa fk.out 8)|((with_reducible refine mZ (b:= .append) (xs:=#[.tmp 64,.tmp 69]) rfl ?_);(try (refine bO (by rfl) ?_;dsimp only));at_builtin;refine Kd.su NW (w0:=w) w.heap.size rfl (.tmp 64) (.tmp 69) 65 63 (.agg #[(.int .i64 0),(.int .i64 0)]) 16 rfl Tryz.underlying65 WT rfl bC aA u10 yR (⟨((aj aq bD).f0),dB⟩:sO) [.int .i64 ((aj aq bD).f0),.int .i64 dB] (fun _ =>True) (fun _ =>False) rfl (by (go_simp;done)) ?aP (fun _ hk=>hk.elim) ?aF ?aO ?aB ?aS ?aL ?_;(case aP=>exact Qg _ _ _ (⟨((aj aq bD).f0),dB⟩:sO));(case aB=>exact C3);(case aF=>exact (fun _ _ =>trivial));(case aO=>exact Nu);(case aS=>exact (bV C3));(case aL=>have:=apl.out;omega);intro aMd w46 ho hb hg hat;rw [← apn.out] at ho;have jJ:=ah.mk (Kd.zQ (by exact (Kd.cB (Kd.bf (p:=⟨cZ,5,none⟩) (Kd.bf (p:=⟨cZ,4,none⟩) (Kd.bf (p:=⟨cZ,3,none⟩) (Kd.bf (p:=⟨cZ,2,none⟩) (Kd.bf (p:=⟨cZ,1,none⟩) (Kd.bf (p:=⟨cZ,0,none⟩) (Kd.cS nu.out ij.out bC) (fun _ hk=>hk.2) (.string ((bn ((aj aq bD).f2) dB).f0.f0))) (fun _ hk=>hk.2) (.string ((bn ((aj aq bD).f2) dB).f0.f1))) (fun _ hk=>hk.2) (.bool ((bn ((aj aq bD).f2) dB).f0.f2))) (fun _ hk=>hk.2) (.int .u8 ((bn ((aj aq bD).f2) dB).f1))) (fun _ hk=>hk.2) (.int .i64 ((bn ((aj aq bD).f2) dB).f2))) (fun _ hk=>hk.2) (.int .i64 ((bn ((aj aq bD).f2) dB).f3))) (fun _ h_ =>h_.1))) (Kd.rP Ho) bC hg);have jK:=ah.mk (Kd.Dj (by exact (Kd.dG (Kd.bS (p:=⟨cZ,5,none⟩) (Kd.bS (p:=⟨cZ,4,none⟩) (Kd.bS (p:=⟨cZ,3,none⟩) (Kd.bS (p:=⟨cZ,2,none⟩) (Kd.bS (p:=⟨cZ,1,none⟩) (Kd.bS (p:=⟨cZ,0,none⟩) (Kd.dG nr.out (fun k_ hk=>(⟨hk,hk.2⟩:_∧k_≠cZ))) (fun _ hk=>hk.2) (.string ((bn ((aj aq bD).f2) dB).f0.f0))) (fun _ hk=>hk.2) (.string ((bn ((aj aq bD).f2) dB).f0.f1))) (fun _ hk=>hk.2) (.bool ((bn ((aj aq bD).f2) dB).f0.f2))) (fun _ hk=>hk.2) (.int .u8 ((bn ((aj aq bD).f2) dB).f1))) (fun _ hk=>hk.2) (.int .i64 ((bn ((aj aq bD).f2) dB).f2))) (fun _ hk=>hk.2) (.int .i64 ((bn ((aj aq bD).f2) dB).f3))) (fun _ h_ =>h_.1))) (Kd.rP Ho) bC hg);have lV:=ah.mk (Kd.Dj (by exact (Kd.dG (Kd.bS (p:=⟨cZ,5,none⟩) (Kd.bS (p:=⟨cZ,4,none⟩) (Kd.bS (p:=⟨cZ,3,none⟩) (Kd.bS (p:=⟨cZ,2,none⟩) (Kd.bS (p:=⟨cZ,1,none⟩) (Kd.bS (p:=⟨cZ,0,none⟩) (Kd.dG cu.out (fun k_ hk=>(⟨hk,hk.2⟩:_∧k_≠cZ))) (fun _ hk=>hk.2) (.string ((bn ((aj aq bD).f2) dB).f0.f0))) (fun _ hk=>hk.2) (.string ((bn ((aj aq bD).f2) dB).f0.f1))) (fun _ hk=>hk.2) (.bool ((bn ((aj aq bD).f2) dB).f0.f2))) (fun _ hk=>hk.2) (.int .u8 ((bn ((aj aq bD).f2) dB).f1))) (fun _ hk=>hk.2) (.int .i64 ((bn ((aj aq bD).f2) dB).f2))) (fun _ hk=>hk.2) (.int .i64 ((bn ((aj aq bD).f2) dB).f3))) (fun _ h_ =>h_.1))) (Kd.rP Ho) bC hg);have wW:=ah.mk (fU (g:=eG) (o:= .cells #[.int .i64 cN,.slice (some MT) aq.length kS] 40 (0,0)) NC hg (Kd.vq fW.out dx.out bC));have yD:=ah.mk (fU (g:=dR) (o:= .cells #[.int .i64 ((aj aq bD).f0),.bool ((aj aq bD).f1.f0),.slice oM ((aj aq bD).f1.f1).length oN,.string ((aj aq bD).f1.f2.f0),.string ((aj aq bD).f1.f2.f1),.bool ((aj aq bD).f1.f2.f2),.slice (some Uk) ((aj aq bD).f2).length qF,.slice sF ((aj aq bD).f3).length sG,.int .i64 ((aj aq bD).f4)] 34 (0,0)) ND hg (Kd.vq fW.out fk.out bC));have zw:=ah.mk (fU (g:=cZ) (o:= .cells #[.string ((bn ((aj aq bD).f2) dB).f0.f0),.string ((bn ((aj aq bD).f2) dB).f0.f1),.bool ((bn ((aj aq bD).f2) dB).f0.f2),.int .u8 ((bn ((aj aq bD).f2) dB).f1),.int .i64 ((bn ((aj aq bD).f2) dB).f2),.int .i64 ((bn ((aj aq bD).f2) dB).f3)] 37 (0,0)) (by refine aW (cs:=#[.string ((bn ((aj aq bD).f2) dB).f0.f0),.string ((bn ((aj aq bD).f2) dB).f0.f1),.bool ((bn ((aj aq bD).f2) dB).f0.f2),.int .u8 ((bn ((aj aq bD).f2) dB).f1),.int .i64 ((bn ((aj aq bD).f2) dB).f2),.int .i64 0]) ?_ 5 _ rfl;refine aW (cs:=#[.string ((bn ((aj aq bD).f2) dB).f0.f0),.string ((bn ((aj aq bD).f2) dB).f0.f1),.bool ((bn ((aj aq bD).f2) dB).f0.f2),.int .u8 ((bn ((aj aq bD).f2) dB).f1),.int .i64 0,.int .i64 0]) ?_ 4 _ rfl;refine aW (cs:=#[.string ((bn ((aj aq bD).f2) dB).f0.f0),.string ((bn ((aj aq bD).f2) dB).f0.f1),.bool ((bn ((aj aq bD).f2) dB).f0.f2),.int .u8 0,.int .i64 0,.int .i64 0]) ?_ 3 _ rfl;refine aW (cs:=#[.string ((bn ((aj aq bD).f2) dB).f0.f0),.string ((bn ((aj aq bD).f2) dB).f0.f1),.bool false,.int .u8 0,.int .i64 0,.int .i64 0]) ?_ 2 _ rfl;refine aW (cs:=#[.string ((bn ((aj aq bD).f2) dB).f0.f0),.string (⟨#[]⟩:ByteArray),.bool false,.int .u8 0,.int .i64 0,.int .i64 0]) ?_ 1 _ rfl;refine aW (cs:=#[.string (⟨#[]⟩:ByteArray),.string (⟨#[]⟩:ByteArray),.bool false,.int .u8 0,.int .i64 0,.int .i64 0]) ?_ 0 _ rfl;exact ij.out) hg (Kd.vq fW.out ij.out bC));have Mx:=ah.mk (hb);have TF:=ah.mk (ho);have Us:=ah.mk (Kd.zQ (by exact (Kd.cB (Kd.bf (p:=⟨cZ,5,none⟩) (Kd.bf (p:=⟨cZ,4,none⟩) (Kd.bf (p:=⟨cZ,3,none⟩) (Kd.bf (p:=⟨cZ,2,none⟩) (Kd.bf (p:=⟨cZ,1,none⟩) (Kd.bf (p:=⟨cZ,0,none⟩) (Kd.cB jV.out (fun k_ hk=>(⟨hk,hk.2⟩:_∧k_≠cZ))) (fun _ hk=>hk.2) (.string ((bn ((aj aq bD).f2) dB).f0.f0))) (fun _ hk=>hk.2) (.string ((bn ((aj aq bD).f2) dB).f0.f1))) (fun _ hk=>hk.2) (.bool ((bn ((aj aq bD).f2) dB).f0.f2))) (fun _ hk=>hk.2) (.int .u8 ((bn ((aj aq bD).f2) dB).f1))) (fun _ hk=>hk.2) (.int .i64 ((bn ((aj aq bD).f2) dB).f2))) (fun _ hk=>hk.2) (.int .i64 ((bn ((aj aq bD).f2) dB).f3))) (fun _ h_ =>h_.1))) (Kd.rP Ho) bC hg);clear jV;have jV:=Us;clear Us;clear nu;clear nr;clear cu;clear dx;clear fk;clear ij;clear HB;clear fW;have nu:=jJ;have nr:=jK;have cu:=lV;have dx:=wW;have fk:=yD;have ij:=zw;have HB:=Mx;have apo:=TF;clear jJ jK lV wW yD zw Mx TF;clear ho hb hg hat))
            go_roundg k3
            case measure=>have:=oI.out;have:=Gv.out;have:=HK3.out;omega
            case rel=>exact ⟨(apm),(wrap64 (CE + 1)),(wrap64 (dB + 1)),(by rfl),(by rfl),H',⟨zG⟩,⟨by exact apo.out⟩,⟨ou⟩,⟨by exact Kd.dG nr.out (fun _ hk=>hk.1)⟩,⟨by exact Kd.dG cu.out (fun _ hk=>hk.1)⟩,⟨by exact Kd.cB jV.out (fun _ hk=>hk.1)⟩,⟨jH⟩,⟨zK⟩,⟨aI⟩⟩
           ·rw [if_neg c38] at H
            have apk:=decide_eq_false c38
            clear c38
            have H':=ah.mk H
            clear H
            have FM: 0≤(dB:Int):=of_decide_eq_true cL
            have FN:dB < (((aj aq bD).f2).length:Int):=of_decide_eq_true cL
            obtain ⟨Uk,Yy,Ul,Um,Un,Uo,Uq,Ur⟩:=pz (Kd.bW jV.out).2.2 dB FM FN
            cases Yy
            replace FM:=eq_true FM
            replace FN:=eq_true FN
            go_wp2_with (((with_reducible refine bw (N:=16) rfl ?_);(try (refine bO (by rfl) ?_;dsimp only));refine bA ?hg (N:=16) ?hd (cs:=#[.string (⟨#[]⟩:ByteArray),.string (⟨#[]⟩:ByteArray),.bool false,.int .u8 0,.int .i64 0,.int .i64 0]) (t:=37) ?hr ?_;(case hd=>rfl);(case hg=>rfl);(case hr=>(go_simp;done));intro cZ hg Nr bH hb;have jJ:=ah.mk (Kd.bq ku hb);have jK:=ah.mk (Kd.bq ou hb);have lV:=ah.mk (Kd.cx (Kd.qa vo cZ (Nat.le_of_eq hg.symm)) hb);have wW:=ah.mk (Kd.cx (Kd.qa lC cZ (Nat.le_of_eq hg.symm)) hb);have yD:=ah.mk (az jH hb);have zw:=ah.mk (az zK hb);have Mx:=ah.mk (av aI hb);have TF:=ah.mk (bH);have Yc:=ah.mk ((bG:w.heap.size≤cZ));have n9_ :=ah.mk ((bG:w.heap.size≤cZ));have MU:=ah.mk ((o9:eG≠cZ));have MV:=ah.mk ((pg:cZ≠eG));have MW:=ah.mk ((Ib:dR≠cZ));have MX:=ah.mk ((Ic:cZ≠dR));have Us:=ah.mk (Kd.bq (Kd.lM zM cZ (Nat.le_of_eq hg.symm)) hb);clear jV;have jV:=Us;clear Us;clear fW;clear nu;clear nr;clear cu;clear dx;clear fk;clear HB;have fW:=jJ;have nu:=jK;have nr:=lV;have cu:=wW;have dx:=yD;have fk:=zw;have HB:=Mx;have ij:=TF;have afo:=Yc;have Wx:=n9_;have mz:=MU;have uH:=MV;have mA:=MW;have uI:=MX;clear jJ jK lV wW yD zw Mx TF Yc n9_ MU MV MW MX;clear hb bH hg;have aIM:=uH.out;have aIN:=mz.out;have aIO:=uI.out;have aIP:=mA.out;have SC:Nr.cell? ⟨cZ,0,none⟩=some (.string (⟨#[]⟩:ByteArray)):=(af ij.out 0).trans rfl;have SD:Nr.cell? ⟨cZ,1,none⟩=some (.string (⟨#[]⟩:ByteArray)):=(af ij.out 1).trans rfl;have SE:Nr.cell? ⟨cZ,2,none⟩=some (.bool false):=(af ij.out 2).trans rfl;have SF:Nr.cell? ⟨cZ,3,none⟩=some (.int .u8 0):=(af ij.out 3).trans rfl;have SG:Nr.cell? ⟨cZ,4,none⟩=some (.int .i64 0):=(af ij.out 4).trans rfl;have SH:Nr.cell? ⟨cZ,5,none⟩=some (.int .i64 0):=(af ij.out 5).trans rfl;have SI:=aa ij.out 0;have SJ:=aa ij.out 1;have SK:=aa ij.out 2;have SL:=aa ij.out 3;have SM:=aa ij.out 4;have SN:=aa ij.out 5))
            go_roundg k3
            case measure=>have:=oI.out;have:=Gv.out;have:=HK3.out;omega
            case rel=>exact ⟨(yR),(wrap64 (CE + 1)),(wrap64 (dB + 1)),(by rfl),(by rfl),H',⟨zG⟩,⟨Nu⟩,⟨V9⟩,⟨V8⟩,⟨V6⟩,⟨V7⟩,⟨NC⟩,⟨ND⟩,⟨C3⟩⟩
          ·rw [if_neg c37] at H
           have api:=beq_eq_false_iff_ne.mpr c37
           have apj:=bne_iff_ne.mpr c37
           have H':=ah.mk H
           clear H
           have FM: 0≤(dB:Int):=of_decide_eq_true cL
           have FN:dB < (((aj aq bD).f2).length:Int):=of_decide_eq_true cL
           obtain ⟨Uk,Yy,Ul,Um,Un,Uo,Uq,Ur⟩:=pz (Kd.bW jV.out).2.2 dB FM FN
           cases Yy
           replace FM:=eq_true FM
           replace FN:=eq_true FN
           go_wp2_with (((with_reducible refine bw (N:=16) rfl ?_);(try (refine bO (by rfl) ?_;dsimp only));refine bA ?hg (N:=16) ?hd (cs:=#[.string (⟨#[]⟩:ByteArray),.string (⟨#[]⟩:ByteArray),.bool false,.int .u8 0,.int .i64 0,.int .i64 0]) (t:=37) ?hr ?_;(case hd=>rfl);(case hg=>rfl);(case hr=>(go_simp;done));intro cZ hg xy bH hb;have jJ:=ah.mk (Kd.bq ku hb);have jK:=ah.mk (Kd.bq ou hb);have lV:=ah.mk (Kd.cx (Kd.qa vo cZ (Nat.le_of_eq hg.symm)) hb);have wW:=ah.mk (Kd.cx (Kd.qa lC cZ (Nat.le_of_eq hg.symm)) hb);have yD:=ah.mk (az jH hb);have zw:=ah.mk (az zK hb);have Mx:=ah.mk (av aI hb);have TF:=ah.mk (bH);have Yc:=ah.mk ((bG:w.heap.size≤cZ));have n9_ :=ah.mk ((bG:w.heap.size≤cZ));have MU:=ah.mk ((o9:eG≠cZ));have MV:=ah.mk ((pg:cZ≠eG));have MW:=ah.mk ((Ib:dR≠cZ));have MX:=ah.mk ((Ic:cZ≠dR));have Us:=ah.mk (Kd.bq (Kd.lM zM cZ (Nat.le_of_eq hg.symm)) hb);clear jV;have jV:=Us;clear Us;clear fW;clear nu;clear nr;clear cu;clear dx;clear fk;clear HB;have fW:=jJ;have nu:=jK;have nr:=lV;have cu:=wW;have dx:=yD;have fk:=zw;have HB:=Mx;have ij:=TF;have afo:=Yc;have Wx:=n9_;have mz:=MU;have uH:=MV;have mA:=MW;have uI:=MX;clear jJ jK lV wW yD zw Mx TF Yc n9_ MU MV MW MX;clear hb bH hg;have aoN:=uH.out;have aoO:=mz.out;have aoP:=uI.out;have aoQ:=mA.out;have JP:xy.cell? ⟨cZ,0,none⟩=some (.string (⟨#[]⟩:ByteArray)):=(af ij.out 0).trans rfl;have JQ:xy.cell? ⟨cZ,1,none⟩=some (.string (⟨#[]⟩:ByteArray)):=(af ij.out 1).trans rfl;have SP:xy.cell? ⟨cZ,2,none⟩=some (.bool false):=(af ij.out 2).trans rfl;have SQ:xy.cell? ⟨cZ,3,none⟩=some (.int .u8 0):=(af ij.out 3).trans rfl;have SR:xy.cell? ⟨cZ,4,none⟩=some (.int .i64 0):=(af ij.out 4).trans rfl;have SS:xy.cell? ⟨cZ,5,none⟩=some (.int .i64 0):=(af ij.out 5).trans rfl;have JR:=aa ij.out 0;have JS:=aa ij.out 1;have SU:=aa ij.out 2;have SV:=aa ij.out 3;have SX:=aa ij.out 4;have SY:=aa ij.out 5))
           go_roundg k3
           case measure=>have:=oI.out;have:=Gv.out;have:=HK3.out;omega
           case rel=>exact ⟨(yR),(CE),(wrap64 (dB + 1)),(by rfl),(by rfl),H',⟨zG⟩,⟨Nu⟩,⟨V9⟩,⟨V8⟩,⟨V6⟩,⟨V7⟩,⟨NC⟩,⟨ND⟩,⟨C3⟩⟩
         ·rw [if_neg c34] at H
          have aph:=decide_eq_false c34
          clear c34
          by_cases c55:CE=0
          ·rw [if_pos c55] at H
           have apq:=beq_iff_eq.mpr c55
           have apr:=bne_eq_false_iff_eq.mpr c55
           clear c55
           obtain ⟨c56,H⟩:=lg H
           have aps:=ah.mk c56
           clear c56
           obtain ⟨apt,Yz⟩:∃ y_:List Int,y_=(yQ ++ [((aj aq bD).f0)]):=⟨_,rfl⟩
           replace H:(aK.l1 k3 a1 a2 yR apt aq (aq.length:Int) (wrap64 (bD + 1)) cN aq)=some r:=by (rw [Yz];with_reducible exact H)
           have apu:=ah.mk Yz
           clear Yz
           have H':=ah.mk H
           clear H
           have aIR:=Co.out
           have aIS:=lH.out
           have acj:wr.cell? ⟨dR,0,none⟩=some (.int .i64 ((aj aq bD).f0)):=(af fk.out 0).trans rfl
           have ack:wr.cell? ⟨dR,1,none⟩=some (.bool ((aj aq bD).f1.f0)):=(af fk.out 1).trans rfl
           have acm:wr.cell? ⟨dR,2,none⟩=some (.slice oM ((aj aq bD).f1.f1).length oN):=(af fk.out 2).trans rfl
           have acn:wr.cell? ⟨dR,3,none⟩=some (.string ((aj aq bD).f1.f2.f0)):=(af fk.out 3).trans rfl
           have aco:wr.cell? ⟨dR,4,none⟩=some (.string ((aj aq bD).f1.f2.f1)):=(af fk.out 4).trans rfl
           have acp:wr.cell? ⟨dR,5,none⟩=some (.bool ((aj aq bD).f1.f2.f2)):=(af fk.out 5).trans rfl
           have acq:wr.cell? ⟨dR,6,none⟩=some (.slice sD ((aj aq bD).f2).length qF):=(af fk.out 6).trans rfl
           have acr:wr.cell? ⟨dR,7,none⟩=some (.slice sF ((aj aq bD).f3).length sG):=(af fk.out 7).trans rfl
           have acs:wr.cell? ⟨dR,8,none⟩=some (.int .i64 ((aj aq bD).f4)):=(af fk.out 8).trans rfl
           have acu:=aa fk.out 0
           have acv:=aa fk.out 1
           have acw:=aa fk.out 2
           have acy:=aa fk.out 3
           have acz:=aa fk.out 4
           have acA:=aa fk.out 5
           have acB:=aa fk.out 6
           have acC:=aa fk.out 7
           have acD:=aa fk.out 8
           go_wp2_with (((with_reducible refine mZ (b:= .append) (xs:=#[.tmp 74,.tmp 77]) rfl ?_);(try (refine bO (by rfl) ?_;dsimp only));at_builtin;refine Kd.su (Kd.int .i64) (w0:=w) w.heap.size rfl (.tmp 74) (.tmp 77) 25 3 (.int .i64 0) 8 rfl Tryz.underlying25 info3 rfl bC aA u11 yQ ((aj aq bD).f0) [.int .i64 ((aj aq bD).f0)] (fun _ =>True) (fun _ =>False) rfl rfl ?aP (fun _ hk=>hk.elim) ?aF ?aO ?aB ?aS ?aL ?_;(case aP=>exact rfl);(case aB=>exact aI);(case aF=>exact (fun _ _ =>trivial));(case aO=>exact ou);(case aS=>exact (bV aI));(case aL=>have:=aps.out;omega);intro aMe Tu ho hb hg hat;rw [← apu.out] at ho;have jJ:=ah.mk (Kd.zQ ku (Kd.rP ou) bC hg);have jK:=ah.mk (Kd.Dj vo (Kd.rP ou) bC hg);have lV:=ah.mk (Kd.Dj lC (Kd.rP ou) bC hg);have wW:=ah.mk (fU (g:=eG) (o:= .cells #[.int .i64 cN,.slice (some MT) aq.length kS] 40 (0,0)) jH hg (Kd.vq nu.out dx.out bC));have yD:=ah.mk (fU (g:=dR) (o:= .cells #[.int .i64 ((aj aq bD).f0),.bool ((aj aq bD).f1.f0),.slice oM ((aj aq bD).f1.f1).length oN,.string ((aj aq bD).f1.f2.f0),.string ((aj aq bD).f1.f2.f1),.bool ((aj aq bD).f1.f2.f2),.slice sD ((aj aq bD).f2).length qF,.slice sF ((aj aq bD).f3).length sG,.int .i64 ((aj aq bD).f4)] 34 (0,0)) zK hg (Kd.vq nu.out fk.out bC));have zw:=ah.mk (hb);have Mx:=ah.mk (ho);have Us:=ah.mk (Kd.zQ zM (Kd.rP ou) bC hg);clear jV;have jV:=Us;clear Us;clear fW;clear nr;clear cu;clear dx;clear fk;clear HB;clear nu;have fW:=jJ;have nr:=jK;have cu:=lV;have dx:=wW;have fk:=yD;have HB:=zw;have apv:=Mx;clear jJ jK lV wW yD zw Mx;clear ho hb hg hat))
           go_roundg k3
           case measure=>have:=oI.out;have:=Gv.out;have:=HK3.out;omega
           case rel=>exact ⟨(yR),(apt),(wrap64 (bD + 1)),(by rfl),H',⟨zG⟩,⟨ku⟩,⟨by exact apv.out⟩,⟨by exact Kd.dG nr.out (fun _ hk=>trivial)⟩,⟨De⟩,⟨jH⟩,⟨aI⟩⟩
          ·rw [if_neg c55] at H
           have apq:=beq_eq_false_iff_ne.mpr c55
           have apr:=bne_iff_ne.mpr c55
           have H':=ah.mk H
           clear H
           go_wp2
           go_roundg k3
           case measure=>have:=oI.out;have:=Gv.out;have:=HK3.out;omega
           case rel=>exact ⟨(yR),(yQ),(wrap64 (bD + 1)),(by rfl),H',⟨zG⟩,⟨ku⟩,⟨ou⟩,⟨by exact Kd.dG nr.out (fun _ hk=>trivial)⟩,⟨De⟩,⟨jH⟩,⟨aI⟩⟩
      ·rw [if_neg c28] at H
       have Xb:=decide_eq_false c28
       clear c28
       have ah2:=ah.mk H
       clear H
       go_upto_region 24 with (fail)
       go_cut [92] (fun v92 wc=>∃ (kq:Nat) (Ll:Bool),v92= .bool Ll∧ah (aK.j3 kq a1 a2 eH Ll cN aq=some r)∧ah (kq≤k2)∧ah (Kd.R NW 63 wc w.heap.size (fun _ =>True) u10 eH)∧ah (Kd.S Bz 34 wc w.heap.size (fun _ =>True) (.slice nC aq.length kS) aq)∧ah (wc.heap[eG]? =some (.cells #[.int .i64 cN,(.slice nC aq.length kS)] 40 (0,0)))∧ah (Below w.heap.size w wc))
       case first=>
        have H:=ah2.out
        clear ah2
        obtain ⟨MM,A61,H⟩:=bd_ H
        obtain ⟨ahR,A62,H⟩:=bd_ H
        by_cases VX:ahR=true
        ·subst VX
         rw [if_pos rfl] at H
         obtain ⟨adP,A64,H⟩:=bd_ H
         obtain ⟨adQ,A65,H⟩:=bd_ H
         have H':=ah.mk H
         clear H
         have aB4:wr.cell? ⟨eG,0,none⟩=some (.int .i64 cN):=(af dx.out 0).trans rfl
         have aB5:wr.cell? ⟨eG,1,none⟩=some (.slice nC aq.length kS):=(af dx.out 1).trans rfl
         have aB6:=aa dx.out 0
         have aB7:=aa dx.out 1
         go_wp2_with (first|((with_reducible refine bE (f:=28) rfl ?_);refine dg (some 82) rfl rfl Tryz.func28 au rfl #[.agg #[.int .i64 cN,.slice nC aq.length kS],.int .i64 a1] rfl dM ?_;(with_reducible refine (cI.calls k2 cN _ _ aq a1 MM _ ?bk ?bI A61.out).mono ?_);(case bk=>repeat (exact (Kd.dN cu.out).2.2));(case bI=>exact (Kd.dN cu.out).2.1);rintro e VW ⟨aEM,rfl,ho0,hb⟩;refine ⟨_,rfl,?_⟩;replace nu:=ah.mk (Kd.bq ou hb);replace nr:=ah.mk (Kd.cx vo hb);replace cu:=ah.mk (Kd.cx lC hb);have Bi:=ah.mk (Kd.dY (Kd.mX ho0 (Kd.kW ku)) (bV aI));replace fW:=ah.mk (Kd.jr ku (Kd.fQ ho0) hb);replace dx:=ah.mk (az jH hb);replace HB:=ah.mk (av aI hb);(try clear hb);(try clear ho0);obtain ⟨aEN,aEO,aEP⟩:=Kd.dF Bi.out;subst aEP;obtain ⟨aEQ,aER,aES⟩:=Kd.dF fW.out;subst aES)|((with_reducible refine bE (f:=27) rfl ?_);refine dg (some 84) rfl rfl Tryz.func27 au rfl #[.slice aEN MM.length aEO,.slice aEQ eH.length aER] rfl dM ?_;(with_reducible refine (cR.calls k2 _ _ MM _ _ eH true _ ?bk ?bI ?cO ?ey A62.out).mono ?_);(case bk=>repeat (exact (Kd.bW Bi.out).2.2));(case bI=>exact (Kd.bW Bi.out).2.1);(case cO=>repeat (exact (Kd.bW fW.out).2.2));(case ey=>exact (Kd.bW fW.out).2.1);rintro e w' ⟨rfl,⟨nd,rfl⟩⟩;refine ⟨_,rfl,?_⟩;have adB:VW.cell? ⟨eG,0,none⟩=some (.int .i64 cN):=(af dx.out 0).trans rfl;have adC:VW.cell? ⟨eG,1,none⟩=some (.slice nC aq.length kS):=(af dx.out 1).trans rfl;have adD:=aa dx.out 0;have adE:=aa dx.out 1)|(go_at_call 19;(with_reducible refine (cM.calls k2 cN _ _ aq adP _ ?bk ?bI A64.out).mono ?_);(case bk=>repeat (exact (Kd.dN cu.out).2.2));(case bI=>exact (Kd.dN cu.out).2.1);rintro e w71 ⟨aMi,rfl,ho0,hb⟩;replace fW:=ah.mk (Kd.bq (by (with_reducible repeat (apply Kd.sS));exact fW.out) hb);replace nr:=ah.mk (Kd.cx (by (with_reducible repeat (apply Kd.HJ));exact nr.out) hb);replace cu:=ah.mk (Kd.cx Hz hb);replace Bi:=ah.mk (Kd.bq (by (with_reducible repeat (apply Kd.sS));exact Bi.out) hb);have YA:=ah.mk (Kd.dY (Kd.mX ho0 (Kd.kW (by (with_reducible repeat (apply Kd.sS));exact nu.out))) (bV eB));replace nu:=ah.mk (Kd.jr (by (with_reducible repeat (apply Kd.sS));exact nu.out) (Kd.fQ ho0) hb);replace dx:=ah.mk (az jH hb);replace HB:=ah.mk (av eB hb);(try clear hb);(try clear ho0);obtain ⟨aMj,aMk,aET⟩:=Kd.dF YA.out;subst aET;obtain ⟨ahG,ahH,ahI⟩:=Kd.dF nu.out;subst ahI)|(go_at_call 29;(with_reducible refine (dX.calls k2 _ _ adP _ _ yQ adQ _ ?bk ?bI ?cO ?ey A65.out).mono ?_);(case bk=>repeat (exact (Kd.bW YA.out).2.2));(case bI=>exact (Kd.bW YA.out).2.1);(case cO=>repeat (exact (Kd.bW nu.out).2.2));(case ey=>exact (Kd.bW nu.out).2.1);rintro e w' ⟨rfl,⟨nd,rfl⟩⟩))
         go_meet
         case rel=>exact ⟨_,(!adQ),(by rfl),H',⟨xK⟩,⟨Hr⟩,⟨Hz⟩,⟨C7⟩,⟨eB⟩⟩
        ·replace VX:=Bool.eq_false_iff.mpr VX
         subst VX
         rw [if_neg (show ¬ (false=true) by decide)] at H
         have H':=ah.mk H
         clear H
         have abX:wr.cell? ⟨eG,0,none⟩=some (.int .i64 cN):=(af dx.out 0).trans rfl
         have abY:wr.cell? ⟨eG,1,none⟩=some (.slice nC aq.length kS):=(af dx.out 1).trans rfl
         have abZ:=aa dx.out 0
         have ab0:=aa dx.out 1
         go_wp2_with (first|((with_reducible refine bE (f:=28) rfl ?_);refine dg (some 82) rfl rfl Tryz.func28 au rfl #[.agg #[.int .i64 cN,.slice nC aq.length kS],.int .i64 a1] rfl dM ?_;(with_reducible refine (cI.calls k2 cN _ _ aq a1 MM _ ?bk ?bI A61.out).mono ?_);(case bk=>repeat (exact (Kd.dN cu.out).2.2));(case bI=>exact (Kd.dN cu.out).2.1);rintro e Ns ⟨aEM,rfl,ho0,hb⟩;refine ⟨_,rfl,?_⟩;replace nu:=ah.mk (Kd.bq ou hb);replace nr:=ah.mk (Kd.cx vo hb);replace cu:=ah.mk (Kd.cx lC hb);have Bi:=ah.mk (Kd.dY (Kd.mX ho0 (Kd.kW ku)) (bV aI));replace fW:=ah.mk (Kd.jr ku (Kd.fQ ho0) hb);replace dx:=ah.mk (az jH hb);replace HB:=ah.mk (av aI hb);(try clear hb);(try clear ho0);obtain ⟨aEU,aEV,aEW⟩:=Kd.dF Bi.out;subst aEW;obtain ⟨aEX,aEY,aEZ⟩:=Kd.dF fW.out;subst aEZ)|((with_reducible refine bE (f:=27) rfl ?_);refine dg (some 84) rfl rfl Tryz.func27 au rfl #[.slice aEU MM.length aEV,.slice aEX eH.length aEY] rfl dM ?_;(with_reducible refine (cR.calls k2 _ _ MM _ _ eH false _ ?bk ?bI ?cO ?ey A62.out).mono ?_);(case bk=>repeat (exact (Kd.bW Bi.out).2.2));(case bI=>exact (Kd.bW Bi.out).2.1);(case cO=>repeat (exact (Kd.bW fW.out).2.2));(case ey=>exact (Kd.bW fW.out).2.1);rintro e w' ⟨rfl,⟨nd,rfl⟩⟩;refine ⟨_,rfl,?_⟩))
         go_meet
         case rel=>exact ⟨_,(true),(by rfl),H',⟨xK⟩,⟨Hr⟩,⟨Hz⟩,⟨C7⟩,⟨eB⟩⟩
       case rest=>
        clear ah2
        obtain ⟨kq,Ll,rfl,HA,UC,fW,cu,dx,HB⟩:=hcut
        cases kq with
        |zero=>exact absurd HA.out (by simp [aK.j3])
        |succ apw=>
         have H:=HA.out
         clear HA
         simp only [aK.j3] at H
         by_cases c78:Ll=true
         ·subst c78
          rw [if_pos rfl] at H
          exact absurd H dz
         ·replace c78:=Bool.eq_false_iff.mpr c78
          subst c78
          rw [if_neg (show ¬ (false=true) by decide)] at H
          have H':=ah.mk H
          clear H
          obtain ⟨apx,apy,aE0⟩:=Kd.dF fW.out
          subst aE0
          go_wp2
          go_loopg [95] apw (fun kq v95 w'=>∃ (eT:Int),v95= .int .i64 eT∧ah (aK.l3 kq a1 a2 eH eH (eH.length:Int) eT cN aq=some r)∧ah (kq≤apw)∧ah (Kd.R NW 63 w' w.heap.size (fun _ =>True) (.slice apx eH.length apy) eH)∧ah (Kd.R NW 63 w' w.heap.size (fun _ =>True) (.slice apx eH.length apy) eH)∧ah (Kd.S Bz 34 w' w.heap.size (fun _ =>True) (.slice nC aq.length kS) aq)∧ah (w'.heap[eG]? =some (.cells #[.int .i64 cN,(.slice nC aq.length kS)] 40 (0,0)))∧ah (Below w.heap.size w w'))
          case atStart=>exact ⟨(0),(by rfl),H',⟨Nat.le_refl _⟩,⟨ku⟩,⟨ku⟩,⟨lC⟩,⟨jH⟩,⟨aI⟩⟩
          case round=>
           clear H'
           obtain ⟨eT,rfl,HA,HK4,fW,jS,cu,dx,HB⟩:=hrel
           cases gk with
           |zero=>exact absurd HA.out (by simp [aK.l3])
           |succ k4=>
            have H:=HA.out
            clear HA
            simp only [aK.l3] at H
            by_cases c80:eT < (eH.length:Int)
            ·rw [if_pos c80] at H
             have apz:=decide_eq_true c80
             clear c80
             obtain ⟨c81,H⟩:=lg H
             have aIW:=decide_eq_true c81
             clear c81
             obtain ⟨c82,H⟩:=lg H
             have aIY:=decide_eq_true c82
             clear c82
             obtain ⟨⟨nS,mP,VH⟩,A83,H⟩:=bd_ H
             (try dsimp only at H)
             by_cases c84:VH=0
             ·rw [if_pos c84] at H
              have apB:=beq_iff_eq.mpr c84
              have apC:=bne_eq_false_iff_eq.mpr c84
              clear c84
              obtain ⟨Gl,A85,H⟩:=bd_ H
              by_cases c86:(wrap64 (a2))≤a1
              ·rw [if_pos c86] at H
               have apD:=decide_eq_true c86
               clear c86
               obtain ⟨ahS,A87,H⟩:=bd_ H
               by_cases c88:ahS=true
               ·subst c88
                rw [if_pos rfl] at H
                by_cases c89:(wrap64 (a2)) > a1
                ·rw [if_pos c89] at H
                 have apE:decide (a1 < (wrap64 (a2)))=true:=decide_eq_true c89
                 clear c89
                 obtain ⟨c90,H⟩:=lg H
                 have aI0:=beq_iff_eq.mpr c90
                 have aI1:=bne_eq_false_iff_eq.mpr c90
                 clear c90
                 have H':=ah.mk H
                 clear H
                 have wJ: 0≤(eT:Int):=of_decide_eq_true cL
                 have wK:eT < (eH.length:Int):=of_decide_eq_true cL
                 obtain ⟨Ut,Lm,El,Em⟩:=tY (Kd.bW jS.out).2.2 eT wJ wK
                 cases Lm
                 replace wJ:=eq_true wJ
                 replace wK:=eq_true wK
                 go_wp2_with (first|((with_reducible refine bw (N:=18) rfl ?_);(try (refine bO (by rfl) ?_;dsimp only));refine bA ?hg (N:=18) ?hd (cs:=#[.int .i64 0,.int .i64 0]) (t:=63) ?hr ?_;(case hd=>rfl);(case hg=>rfl);(case hr=>(go_simp;done));intro eV hg w91 bH hb;replace fW:=ah.mk (Kd.bq (Kd.lM ku eV (Nat.le_of_eq hg.symm)) hb);replace jS:=ah.mk (Kd.bq (Kd.lM pY eV (Nat.le_of_eq hg.symm)) hb);replace cu:=ah.mk (Kd.cx lC hb);have iF:=ah.mk (bH);have Uu:=ah.mk ((bG:w.heap.size≤eV));have LB:=ah.mk ((bG:w.heap.size≤eV));replace HB:=ah.mk (av aI hb);have mB:=ah.mk ((o9:eG≠eV));have oz:=ah.mk ((pg:eV≠eG));replace dx:=ah.mk (az jH hb);clear hb bH hg;have aI2:=oz.out;have aI3:=mB.out;have adF:w91.cell? ⟨eV,0,none⟩=some (.int .i64 0):=(af iF.out 0).trans rfl;have adG:w91.cell? ⟨eV,1,none⟩=some (.int .i64 0):=(af iF.out 1).trans rfl;have adH:=aa iF.out 0;have adI:=aa iF.out 1;have ab8:w91.cell? ⟨eG,0,none⟩=some (.int .i64 cN):=(af dx.out 0).trans rfl;have ab9:w91.cell? ⟨eG,1,none⟩=some (.slice nC aq.length kS):=(af dx.out 1).trans rfl;have acd:=aa dx.out 0;have ace:=aa dx.out 1)|((with_reducible refine bE (f:=15) rfl ?_);refine dg (some 108) rfl rfl Tryz.func15 au rfl #[.agg #[.int .i64 cN,.slice nC aq.length kS],.agg #[.int .u8 2,.int .i64 ((cT eH eT).f0),.int .i64 ((cT eH eT).f1),.int .i64 (wrap64 (a2)),.int .i64 0,.bool false,.slice none 0 0,.string (⟨#[]⟩:ByteArray),.string (⟨#[]⟩:ByteArray),.bool false,.slice none 0 0,.slice none 0 0,.int .i64 0]] rfl dM ?_;(refine (cz.calls k4 cN _ _ aq 2 ((cT eH eT).f0) ((cT eH eT).f1) (wrap64 (a2)) 0 false _ _ ([]:List ByteArray) (⟨#[]⟩:ByteArray) (⟨#[]⟩:ByteArray) false _ _ ([]:List (jN)) _ _ ([]:List Int) 0 nS mP VH _ ?bk ?bI ?cO ?ey ?gz ?gA ?ko ?nA ?nB A83.out).mono ?_);(case bk=>refine (Kd.dN (e:=34) (base:=w.heap.size) (ok:=fun k_ =>True) (n:=aq.length) (c:=kS) ?_).2.2;exact rX);(case bI=>exact (Kd.dN cu.out).2.1);(case cO=>exact Kd.jq _ _);(case ey=>exact Nat.le_refl _);(case gz=>exact Kd.jq _ _);(case gA=>exact Nat.le_refl _);(case ko=>exact Kd.jq _ _);(case nA=>exact Nat.le_refl _);(case nB=>exact bB.below HG.out o8);rintro e Y7 ⟨ad2,rfl,ho0,hb⟩;refine ⟨_,rfl,?_⟩;replace fW:=ah.mk (Kd.bq Et hb);replace jS:=ah.mk (Kd.bq Eu hb);have kV:=ah.mk (Kd.lN (Kd.fo ho0 (Kd.p9 rX)) (bV o8));replace cu:=ah.mk (Kd.fR rX (Kd.jI ho0) hb);replace dx:=ah.mk (az (g:=eG) (o:= .cells #[.int .i64 cN,.slice nC aq.length kS] 40 (0,0)) Ex hb);replace iF:=ah.mk (az (g:=eV) (o:= .cells #[.int .i64 ((cT eH eT).f0),.int .i64 ((cT eH eT).f1)] 63 (0,0)) Ew hb);replace HB:=ah.mk (av o8 hb);(try clear hb);(try clear ho0))|((with_reducible refine bw (N:=19) rfl ?_);(try (refine bO (by rfl) ?_;dsimp only));refine bA ?hg (N:=19) ?hd (cs:=#[.int .i64 0,.slice none 0 0]) (t:=40) ?hr ?_;(case hd=>rfl);(case hg=>rfl);(case hr=>(go_simp;done));intro eu hg w96 bH hb;replace fW:=ah.mk (Kd.bq ku hb);replace jS:=ah.mk (Kd.bq pY hb);replace cu:=ah.mk (Kd.cx lC hb);replace kV:=ah.mk (Kd.cx (by exact kV.out) hb);have gV:=ah.mk (bH);have Uv:=ah.mk ((bG:w.heap.size≤eu));have LC:=ah.mk ((bG:w.heap.size≤eu));replace HB:=ah.mk (av aI hb);have mC:=ah.mk ((o9:eG≠eu));have oC:=ah.mk ((pg:eu≠eG));replace dx:=ah.mk (az jH hb);have mh:=ah.mk ((zE:eV≠eu));have oD:=ah.mk ((zF:eu≠eV));replace iF:=ah.mk (az zH hb);clear hb bH hg;have aI5:=oC.out;have aI6:=mC.out;have aI7:=oD.out;have aI8:=mh.out;have aCc:w96.cell? ⟨eu,0,none⟩=some (.int .i64 0):=(af gV.out 0).trans rfl;have aCd:w96.cell? ⟨eu,1,none⟩=some (.slice none 0 0):=(af gV.out 1).trans rfl;have aCe:=aa gV.out 0;have aCf:=aa gV.out 1;obtain ⟨Gw,EA,apF⟩:=Kd.gP kV.out;subst apF)|((with_reducible refine bE (f:=28) rfl ?_);refine dg (some 115) rfl rfl Tryz.func28 au rfl #[.agg #[.int .i64 nS,.slice Gw mP.length EA],.int .i64 a1] rfl dM ?_;(with_reducible refine (cI.calls k4 nS _ _ mP a1 Gl _ ?bk ?bI A85.out).mono ?_);(case bk=>refine (Kd.dN (e:=34) (base:=w.heap.size) (ok:=fun k_ =>(True∧some k_≠(.slice nC aq.length kS:Value).ownBlock)) (n:=mP.length) (c:=EA) ?_).2.2;exact We);(case bI=>exact (Kd.dN kV.out).2.1);rintro e Gj ⟨ah4,rfl,ho0,hb⟩;refine ⟨_,rfl,?_⟩;replace cu:=ah.mk (Kd.cx (by exact (Kd.dG (Kd.bS (p:=⟨eu,1,none⟩) (Kd.bS (p:=⟨eu,0,none⟩) (Kd.fN cu.out gV.out bC) (fun _ hk=>hk.2) (.int .i64 nS)) (fun _ hk=>hk.2) (.slice Gw mP.length EA)) (fun _ h_ =>h_.1))) hb);replace kV:=ah.mk (Kd.cx We hb);have yS:=ah.mk (Kd.dY (Kd.Ir (Kd.mX (Kd.mX ho0 (Kd.kW Wf)) (Kd.kW Wh)) (g:=eV) (o:= .cells #[.int .i64 ((cT eH eT).f0),.int .i64 ((cT eH eT).f1)] 63 (0,0)) wX) (bV uU));replace fW:=ah.mk (Kd.jr Wf (Kd.fQ ho0) hb);replace jS:=ah.mk (Kd.jr Wh (Kd.fQ ho0) hb);replace dx:=ah.mk (az (g:=eG) (o:= .cells #[.int .i64 cN,.slice nC aq.length kS] 40 (0,0)) Ey hb);replace iF:=ah.mk (az (g:=eV) (o:= .cells #[.int .i64 ((cT eH eT).f0),.int .i64 ((cT eH eT).f1)] 63 (0,0)) wX hb);replace gV:=ah.mk (az (g:=eu) (o:= .cells #[.int .i64 nS,.slice Gw mP.length EA] 40 (0,0)) Hp hb);replace HB:=ah.mk (av uU hb);(try clear hb);(try clear ho0);obtain ⟨aI9,aJa,apG⟩:=Kd.dF yS.out;subst apG)|(go_at_call 27;(with_reducible refine (cR.calls k4 _ _ Gl _ _ eH true _ ?bk ?bI ?cO ?ey A87.out).mono ?_);(case bk=>repeat (exact (Kd.bW yS.out).2.2));(case bI=>exact (Kd.bW yS.out).2.1);(case cO=>repeat (exact (Kd.bW fW.out).2.2));(case ey=>exact (Kd.bW fW.out).2.1);rintro e w' ⟨rfl,⟨nd,rfl⟩⟩))
                 go_roundg k4
                 case measure=>have:=oI.out;have:=Gv.out;have:=UC.out;have:=HK4.out;omega
                 case rel=>exact ⟨(wrap64 (eT + 1)),(by rfl),H',⟨Ez⟩,⟨Hr⟩,⟨PO⟩,⟨PN⟩,⟨C7⟩,⟨eB⟩⟩
                ·rw [if_neg c89] at H
                 have apE:decide (a1 < (wrap64 (a2)))=false:=decide_eq_false c89
                 clear c89
                 have H':=ah.mk H
                 clear H
                 have wJ: 0≤(eT:Int):=of_decide_eq_true cL
                 have wK:eT < (eH.length:Int):=of_decide_eq_true cL
                 obtain ⟨Ut,Lm,El,Em⟩:=tY (Kd.bW jS.out).2.2 eT wJ wK
                 cases Lm
                 replace wJ:=eq_true wJ
                 replace wK:=eq_true wK
                 go_wp2_with (first|((with_reducible refine bw (N:=18) rfl ?_);(try (refine bO (by rfl) ?_;dsimp only));refine bA ?hg (N:=18) ?hd (cs:=#[.int .i64 0,.int .i64 0]) (t:=63) ?hr ?_;(case hd=>rfl);(case hg=>rfl);(case hr=>(go_simp;done));intro eV hg AA bH hb;replace fW:=ah.mk (Kd.bq (Kd.lM ku eV (Nat.le_of_eq hg.symm)) hb);replace jS:=ah.mk (Kd.bq (Kd.lM pY eV (Nat.le_of_eq hg.symm)) hb);replace cu:=ah.mk (Kd.cx lC hb);have iF:=ah.mk (bH);have Uu:=ah.mk ((bG:w.heap.size≤eV));have LB:=ah.mk ((bG:w.heap.size≤eV));replace HB:=ah.mk (av aI hb);have mB:=ah.mk ((o9:eG≠eV));have oz:=ah.mk ((pg:eV≠eG));replace dx:=ah.mk (az jH hb);clear hb bH hg;have aE2:=oz.out;have aE3:=mB.out;have apH:AA.cell? ⟨eV,0,none⟩=some (.int .i64 0):=(af iF.out 0).trans rfl;have apI:AA.cell? ⟨eV,1,none⟩=some (.int .i64 0):=(af iF.out 1).trans rfl;have apJ:=aa iF.out 0;have apK:=aa iF.out 1;have apL:AA.cell? ⟨eG,0,none⟩=some (.int .i64 cN):=(af dx.out 0).trans rfl;have apM:AA.cell? ⟨eG,1,none⟩=some (.slice nC aq.length kS):=(af dx.out 1).trans rfl;have apN:=aa dx.out 0;have apO:=aa dx.out 1)|((with_reducible refine bE (f:=15) rfl ?_);refine dg (some 108) rfl rfl Tryz.func15 au rfl #[.agg #[.int .i64 cN,.slice nC aq.length kS],.agg #[.int .u8 2,.int .i64 ((cT eH eT).f0),.int .i64 ((cT eH eT).f1),.int .i64 (wrap64 (a2)),.int .i64 0,.bool false,.slice none 0 0,.string (⟨#[]⟩:ByteArray),.string (⟨#[]⟩:ByteArray),.bool false,.slice none 0 0,.slice none 0 0,.int .i64 0]] rfl dM ?_;(refine (cz.calls k4 cN _ _ aq 2 ((cT eH eT).f0) ((cT eH eT).f1) (wrap64 (a2)) 0 false _ _ ([]:List ByteArray) (⟨#[]⟩:ByteArray) (⟨#[]⟩:ByteArray) false _ _ ([]:List (jN)) _ _ ([]:List Int) 0 nS mP VH _ ?bk ?bI ?cO ?ey ?gz ?gA ?ko ?nA ?nB A83.out).mono ?_);(case bk=>refine (Kd.dN (e:=34) (base:=w.heap.size) (ok:=fun k_ =>True) (n:=aq.length) (c:=kS) ?_).2.2;exact rX);(case bI=>exact (Kd.dN cu.out).2.1);(case cO=>exact Kd.jq _ _);(case ey=>exact Nat.le_refl _);(case gz=>exact Kd.jq _ _);(case gA=>exact Nat.le_refl _);(case ko=>exact Kd.jq _ _);(case nA=>exact Nat.le_refl _);(case nB=>exact bB.below HG.out o8);rintro e aMm ⟨ad2,rfl,ho0,hb⟩;refine ⟨_,rfl,?_⟩;replace fW:=ah.mk (Kd.bq Et hb);replace jS:=ah.mk (Kd.bq Eu hb);have kV:=ah.mk (Kd.lN (Kd.fo ho0 (Kd.p9 rX)) (bV o8));replace cu:=ah.mk (Kd.fR rX (Kd.jI ho0) hb);replace dx:=ah.mk (az (g:=eG) (o:= .cells #[.int .i64 cN,.slice nC aq.length kS] 40 (0,0)) Ex hb);replace iF:=ah.mk (az (g:=eV) (o:= .cells #[.int .i64 ((cT eH eT).f0),.int .i64 ((cT eH eT).f1)] 63 (0,0)) Ew hb);replace HB:=ah.mk (av o8 hb);(try clear hb);(try clear ho0))|((with_reducible refine bw (N:=19) rfl ?_);(try (refine bO (by rfl) ?_;dsimp only));refine bA ?hg (N:=19) ?hd (cs:=#[.int .i64 0,.slice none 0 0]) (t:=40) ?hr ?_;(case hd=>rfl);(case hg=>rfl);(case hr=>(go_simp;done));intro eu hg apP bH hb;replace fW:=ah.mk (Kd.bq ku hb);replace jS:=ah.mk (Kd.bq pY hb);replace cu:=ah.mk (Kd.cx lC hb);replace kV:=ah.mk (Kd.cx (by exact kV.out) hb);have gV:=ah.mk (bH);have Uv:=ah.mk ((bG:w.heap.size≤eu));have LC:=ah.mk ((bG:w.heap.size≤eu));replace HB:=ah.mk (av aI hb);have mC:=ah.mk ((o9:eG≠eu));have oC:=ah.mk ((pg:eu≠eG));replace dx:=ah.mk (az jH hb);have mh:=ah.mk ((zE:eV≠eu));have oD:=ah.mk ((zF:eu≠eV));replace iF:=ah.mk (az zH hb);clear hb bH hg;have aE4:=oC.out;have aE5:=mC.out;have aE6:=oD.out;have aE7:=mh.out;have XL:apP.cell? ⟨eu,0,none⟩=some (.int .i64 0):=(af gV.out 0).trans rfl;have XM:apP.cell? ⟨eu,1,none⟩=some (.slice none 0 0):=(af gV.out 1).trans rfl;have XN:=aa gV.out 0;have XO:=aa gV.out 1;obtain ⟨Gx,EB,apQ⟩:=Kd.gP kV.out;subst apQ)|((with_reducible refine bE (f:=28) rfl ?_);refine dg (some 115) rfl rfl Tryz.func28 au rfl #[.agg #[.int .i64 nS,.slice Gx mP.length EB],.int .i64 a1] rfl dM ?_;(with_reducible refine (cI.calls k4 nS _ _ mP a1 Gl _ ?bk ?bI A85.out).mono ?_);(case bk=>refine (Kd.dN (e:=34) (base:=w.heap.size) (ok:=fun k_ =>(True∧some k_≠(.slice nC aq.length kS:Value).ownBlock)) (n:=mP.length) (c:=EB) ?_).2.2;exact Wi);(case bI=>exact (Kd.dN kV.out).2.1);rintro e aMn ⟨ah4,rfl,ho0,hb⟩;refine ⟨_,rfl,?_⟩;replace cu:=ah.mk (Kd.cx (by exact (Kd.dG (Kd.bS (p:=⟨eu,1,none⟩) (Kd.bS (p:=⟨eu,0,none⟩) (Kd.fN cu.out gV.out bC) (fun _ hk=>hk.2) (.int .i64 nS)) (fun _ hk=>hk.2) (.slice Gx mP.length EB)) (fun _ h_ =>h_.1))) hb);replace kV:=ah.mk (Kd.cx Wi hb);have yS:=ah.mk (Kd.dY (Kd.Ir (Kd.mX (Kd.mX ho0 (Kd.kW Wj)) (Kd.kW Wk)) (g:=eV) (o:= .cells #[.int .i64 ((cT eH eT).f0),.int .i64 ((cT eH eT).f1)] 63 (0,0)) wX) (bV uU));replace fW:=ah.mk (Kd.jr Wj (Kd.fQ ho0) hb);replace jS:=ah.mk (Kd.jr Wk (Kd.fQ ho0) hb);replace dx:=ah.mk (az (g:=eG) (o:= .cells #[.int .i64 cN,.slice nC aq.length kS] 40 (0,0)) Ey hb);replace iF:=ah.mk (az (g:=eV) (o:= .cells #[.int .i64 ((cT eH eT).f0),.int .i64 ((cT eH eT).f1)] 63 (0,0)) wX hb);replace gV:=ah.mk (az (g:=eu) (o:= .cells #[.int .i64 nS,.slice Gx mP.length EB] 40 (0,0)) Hp hb);replace HB:=ah.mk (av uU hb);(try clear hb);(try clear ho0);obtain ⟨alf,alg,XQ⟩:=Kd.dF yS.out;subst XQ)|(go_at_call 27;(with_reducible refine (cR.calls k4 _ _ Gl _ _ eH true _ ?bk ?bI ?cO ?ey A87.out).mono ?_);(case bk=>repeat (exact (Kd.bW yS.out).2.2));(case bI=>exact (Kd.bW yS.out).2.1);(case cO=>repeat (exact (Kd.bW fW.out).2.2));(case ey=>exact (Kd.bW fW.out).2.1);rintro e w' ⟨rfl,⟨nd,rfl⟩⟩))
                 go_roundg k4
                 case measure=>have:=oI.out;have:=Gv.out;have:=UC.out;have:=HK4.out;omega
                 case rel=>exact ⟨(wrap64 (eT + 1)),(by rfl),H',⟨Ez⟩,⟨Hr⟩,⟨PO⟩,⟨PN⟩,⟨C7⟩,⟨eB⟩⟩
               ·replace c88:=Bool.eq_false_iff.mpr c88
                subst c88
                rw [if_neg (show ¬ (false=true) by decide)] at H
                exact absurd H dz
              ·rw [if_neg c86] at H
               have apD:=decide_eq_false c86
               clear c86
               by_cases VI:(wrap64 (a2)) > a1
               ·rw [if_pos VI] at H
                have ah5:decide (a1 < (wrap64 (a2)))=true:=decide_eq_true VI
                clear VI
                obtain ⟨c116,H⟩:=lg H
                have aE8:=beq_iff_eq.mpr c116
                have aE9:=bne_eq_false_iff_eq.mpr c116
                clear c116
                have H':=ah.mk H
                clear H
                have wJ: 0≤(eT:Int):=of_decide_eq_true cL
                have wK:eT < (eH.length:Int):=of_decide_eq_true cL
                obtain ⟨Ut,Lm,El,Em⟩:=tY (Kd.bW jS.out).2.2 eT wJ wK
                cases Lm
                replace wJ:=eq_true wJ
                replace wK:=eq_true wK
                go_wp2_with (first|((with_reducible refine bw (N:=18) rfl ?_);(try (refine bO (by rfl) ?_;dsimp only));refine bA ?hg (N:=18) ?hd (cs:=#[.int .i64 0,.int .i64 0]) (t:=63) ?hr ?_;(case hd=>rfl);(case hg=>rfl);(case hr=>(go_simp;done));intro eV hg ad3 bH hb;replace fW:=ah.mk (Kd.bq (Kd.lM ku eV (Nat.le_of_eq hg.symm)) hb);replace jS:=ah.mk (Kd.bq (Kd.lM pY eV (Nat.le_of_eq hg.symm)) hb);replace cu:=ah.mk (Kd.cx lC hb);have iF:=ah.mk (bH);have Uu:=ah.mk ((bG:w.heap.size≤eV));have LB:=ah.mk ((bG:w.heap.size≤eV));replace HB:=ah.mk (av aI hb);have mB:=ah.mk ((o9:eG≠eV));have oz:=ah.mk ((pg:eV≠eG));replace dx:=ah.mk (az jH hb);clear hb bH hg;have aFa:=oz.out;have aFb:=mB.out;have apR:ad3.cell? ⟨eV,0,none⟩=some (.int .i64 0):=(af iF.out 0).trans rfl;have apS:ad3.cell? ⟨eV,1,none⟩=some (.int .i64 0):=(af iF.out 1).trans rfl;have apT:=aa iF.out 0;have apU:=aa iF.out 1;have apV:ad3.cell? ⟨eG,0,none⟩=some (.int .i64 cN):=(af dx.out 0).trans rfl;have apW:ad3.cell? ⟨eG,1,none⟩=some (.slice nC aq.length kS):=(af dx.out 1).trans rfl;have apX:=aa dx.out 0;have apY:=aa dx.out 1)|((with_reducible refine bE (f:=15) rfl ?_);refine dg (some 108) rfl rfl Tryz.func15 au rfl #[.agg #[.int .i64 cN,.slice nC aq.length kS],.agg #[.int .u8 2,.int .i64 ((cT eH eT).f0),.int .i64 ((cT eH eT).f1),.int .i64 (wrap64 (a2)),.int .i64 0,.bool false,.slice none 0 0,.string (⟨#[]⟩:ByteArray),.string (⟨#[]⟩:ByteArray),.bool false,.slice none 0 0,.slice none 0 0,.int .i64 0]] rfl dM ?_;(refine (cz.calls k4 cN _ _ aq 2 ((cT eH eT).f0) ((cT eH eT).f1) (wrap64 (a2)) 0 false _ _ ([]:List ByteArray) (⟨#[]⟩:ByteArray) (⟨#[]⟩:ByteArray) false _ _ ([]:List (jN)) _ _ ([]:List Int) 0 nS mP VH _ ?bk ?bI ?cO ?ey ?gz ?gA ?ko ?nA ?nB A83.out).mono ?_);(case bk=>refine (Kd.dN (e:=34) (base:=w.heap.size) (ok:=fun k_ =>True) (n:=aq.length) (c:=kS) ?_).2.2;exact rX);(case bI=>exact (Kd.dN cu.out).2.1);(case cO=>exact Kd.jq _ _);(case ey=>exact Nat.le_refl _);(case gz=>exact Kd.jq _ _);(case gA=>exact Nat.le_refl _);(case ko=>exact Kd.jq _ _);(case nA=>exact Nat.le_refl _);(case nB=>exact bB.below HG.out o8);rintro e aMo ⟨ad2,rfl,ho0,hb⟩;refine ⟨_,rfl,?_⟩;replace fW:=ah.mk (Kd.bq Et hb);replace jS:=ah.mk (Kd.bq Eu hb);have kV:=ah.mk (Kd.lN (Kd.fo ho0 (Kd.p9 rX)) (bV o8));replace cu:=ah.mk (Kd.fR rX (Kd.jI ho0) hb);replace dx:=ah.mk (az (g:=eG) (o:= .cells #[.int .i64 cN,.slice nC aq.length kS] 40 (0,0)) Ex hb);replace iF:=ah.mk (az (g:=eV) (o:= .cells #[.int .i64 ((cT eH eT).f0),.int .i64 ((cT eH eT).f1)] 63 (0,0)) Ew hb);replace HB:=ah.mk (av o8 hb);(try clear hb);(try clear ho0))|((with_reducible refine bw (N:=19) rfl ?_);(try (refine bO (by rfl) ?_;dsimp only));refine bA ?hg (N:=19) ?hd (cs:=#[.int .i64 0,.slice none 0 0]) (t:=40) ?hr ?_;(case hd=>rfl);(case hg=>rfl);(case hr=>(go_simp;done));intro eu hg apZ bH hb;replace fW:=ah.mk (Kd.bq ku hb);replace jS:=ah.mk (Kd.bq pY hb);replace cu:=ah.mk (Kd.cx lC hb);replace kV:=ah.mk (Kd.cx (by exact kV.out) hb);have gV:=ah.mk (bH);have Uv:=ah.mk ((bG:w.heap.size≤eu));have LC:=ah.mk ((bG:w.heap.size≤eu));replace HB:=ah.mk (av aI hb);have mC:=ah.mk ((o9:eG≠eu));have oC:=ah.mk ((pg:eu≠eG));replace dx:=ah.mk (az jH hb);have mh:=ah.mk ((zE:eV≠eu));have oD:=ah.mk ((zF:eu≠eV));replace iF:=ah.mk (az zH hb);clear hb bH hg;have aFc:=oC.out;have aFd:=mC.out;have aFe:=oD.out;have aFf:=mh.out;have ap0:apZ.cell? ⟨eu,0,none⟩=some (.int .i64 0):=(af gV.out 0).trans rfl;have ap1:apZ.cell? ⟨eu,1,none⟩=some (.slice none 0 0):=(af gV.out 1).trans rfl;have ap2:=aa gV.out 0;have ap3:=aa gV.out 1;obtain ⟨Gy,EC,ap4⟩:=Kd.gP kV.out;subst ap4)|((with_reducible refine bE (f:=28) rfl ?_);refine dg (some 115) rfl rfl Tryz.func28 au rfl #[.agg #[.int .i64 nS,.slice Gy mP.length EC],.int .i64 a1] rfl dM ?_;(with_reducible refine (cI.calls k4 nS _ _ mP a1 Gl _ ?bk ?bI A85.out).mono ?_);(case bk=>refine (Kd.dN (e:=34) (base:=w.heap.size) (ok:=fun k_ =>(True∧some k_≠(.slice nC aq.length kS:Value).ownBlock)) (n:=mP.length) (c:=EC) ?_).2.2;exact Wl);(case bI=>exact (Kd.dN kV.out).2.1);rintro e aMp ⟨ah4,rfl,ho0,hb⟩;refine ⟨_,rfl,?_⟩;replace cu:=ah.mk (Kd.cx (by exact (Kd.dG (Kd.bS (p:=⟨eu,1,none⟩) (Kd.bS (p:=⟨eu,0,none⟩) (Kd.fN cu.out gV.out bC) (fun _ hk=>hk.2) (.int .i64 nS)) (fun _ hk=>hk.2) (.slice Gy mP.length EC)) (fun _ h_ =>h_.1))) hb);replace kV:=ah.mk (Kd.cx Wl hb);have yS:=ah.mk (Kd.dY (Kd.Ir (Kd.mX (Kd.mX ho0 (Kd.kW Wm)) (Kd.kW Wn)) (g:=eV) (o:= .cells #[.int .i64 ((cT eH eT).f0),.int .i64 ((cT eH eT).f1)] 63 (0,0)) wX) (bV uU));replace fW:=ah.mk (Kd.jr Wm (Kd.fQ ho0) hb);replace jS:=ah.mk (Kd.jr Wn (Kd.fQ ho0) hb);replace dx:=ah.mk (az (g:=eG) (o:= .cells #[.int .i64 cN,.slice nC aq.length kS] 40 (0,0)) Ey hb);replace iF:=ah.mk (az (g:=eV) (o:= .cells #[.int .i64 ((cT eH eT).f0),.int .i64 ((cT eH eT).f1)] 63 (0,0)) wX hb);replace gV:=ah.mk (az (g:=eu) (o:= .cells #[.int .i64 nS,.slice Gy mP.length EC] 40 (0,0)) Hp hb);replace HB:=ah.mk (av uU hb);(try clear hb);(try clear ho0);obtain ⟨aJb,aJc,ap5⟩:=Kd.dF yS.out;subst ap5))
                go_roundg k4
                case measure=>have:=oI.out;have:=Gv.out;have:=UC.out;have:=HK4.out;omega
                case rel=>exact ⟨(wrap64 (eT + 1)),(by rfl),H',⟨Ez⟩,⟨by exact Kd.cB fW.out (fun _ hk=>trivial)⟩,⟨by exact Kd.cB jS.out (fun _ hk=>trivial)⟩,⟨De⟩,⟨jH⟩,⟨aI⟩⟩
               ·rw [if_neg VI] at H
                have ah5:decide (a1 < (wrap64 (a2)))=false:=decide_eq_false VI
                clear VI
                have H':=ah.mk H
                clear H
                have wJ: 0≤(eT:Int):=of_decide_eq_true cL
                have wK:eT < (eH.length:Int):=of_decide_eq_true cL
                obtain ⟨Ut,Lm,El,Em⟩:=tY (Kd.bW jS.out).2.2 eT wJ wK
                cases Lm
                replace wJ:=eq_true wJ
                replace wK:=eq_true wK
                go_wp2_with (first|((with_reducible refine bw (N:=18) rfl ?_);(try (refine bO (by rfl) ?_;dsimp only));refine bA ?hg (N:=18) ?hd (cs:=#[.int .i64 0,.int .i64 0]) (t:=63) ?hr ?_;(case hd=>rfl);(case hg=>rfl);(case hr=>(go_simp;done));intro eV hg ad4 bH hb;replace fW:=ah.mk (Kd.bq (Kd.lM ku eV (Nat.le_of_eq hg.symm)) hb);replace jS:=ah.mk (Kd.bq (Kd.lM pY eV (Nat.le_of_eq hg.symm)) hb);replace cu:=ah.mk (Kd.cx lC hb);have iF:=ah.mk (bH);have Uu:=ah.mk ((bG:w.heap.size≤eV));have LB:=ah.mk ((bG:w.heap.size≤eV));replace HB:=ah.mk (av aI hb);have mB:=ah.mk ((o9:eG≠eV));have oz:=ah.mk ((pg:eV≠eG));replace dx:=ah.mk (az jH hb);clear hb bH hg;have aFg:=oz.out;have aFh:=mB.out;have ap6:ad4.cell? ⟨eV,0,none⟩=some (.int .i64 0):=(af iF.out 0).trans rfl;have ap7:ad4.cell? ⟨eV,1,none⟩=some (.int .i64 0):=(af iF.out 1).trans rfl;have ap8:=aa iF.out 0;have ap9:=aa iF.out 1;have aqa:ad4.cell? ⟨eG,0,none⟩=some (.int .i64 cN):=(af dx.out 0).trans rfl;have aqb:ad4.cell? ⟨eG,1,none⟩=some (.slice nC aq.length kS):=(af dx.out 1).trans rfl;have aqc:=aa dx.out 0;have aqd:=aa dx.out 1)|((with_reducible refine bE (f:=15) rfl ?_);refine dg (some 108) rfl rfl Tryz.func15 au rfl #[.agg #[.int .i64 cN,.slice nC aq.length kS],.agg #[.int .u8 2,.int .i64 ((cT eH eT).f0),.int .i64 ((cT eH eT).f1),.int .i64 (wrap64 (a2)),.int .i64 0,.bool false,.slice none 0 0,.string (⟨#[]⟩:ByteArray),.string (⟨#[]⟩:ByteArray),.bool false,.slice none 0 0,.slice none 0 0,.int .i64 0]] rfl dM ?_;(refine (cz.calls k4 cN _ _ aq 2 ((cT eH eT).f0) ((cT eH eT).f1) (wrap64 (a2)) 0 false _ _ ([]:List ByteArray) (⟨#[]⟩:ByteArray) (⟨#[]⟩:ByteArray) false _ _ ([]:List (jN)) _ _ ([]:List Int) 0 nS mP VH _ ?bk ?bI ?cO ?ey ?gz ?gA ?ko ?nA ?nB A83.out).mono ?_);(case bk=>refine (Kd.dN (e:=34) (base:=w.heap.size) (ok:=fun k_ =>True) (n:=aq.length) (c:=kS) ?_).2.2;exact rX);(case bI=>exact (Kd.dN cu.out).2.1);(case cO=>exact Kd.jq _ _);(case ey=>exact Nat.le_refl _);(case gz=>exact Kd.jq _ _);(case gA=>exact Nat.le_refl _);(case ko=>exact Kd.jq _ _);(case nA=>exact Nat.le_refl _);(case nB=>exact bB.below HG.out o8);rintro e aMq ⟨ad2,rfl,ho0,hb⟩;refine ⟨_,rfl,?_⟩;replace fW:=ah.mk (Kd.bq Et hb);replace jS:=ah.mk (Kd.bq Eu hb);have kV:=ah.mk (Kd.lN (Kd.fo ho0 (Kd.p9 rX)) (bV o8));replace cu:=ah.mk (Kd.fR rX (Kd.jI ho0) hb);replace dx:=ah.mk (az (g:=eG) (o:= .cells #[.int .i64 cN,.slice nC aq.length kS] 40 (0,0)) Ex hb);replace iF:=ah.mk (az (g:=eV) (o:= .cells #[.int .i64 ((cT eH eT).f0),.int .i64 ((cT eH eT).f1)] 63 (0,0)) Ew hb);replace HB:=ah.mk (av o8 hb);(try clear hb);(try clear ho0))|((with_reducible refine bw (N:=19) rfl ?_);(try (refine bO (by rfl) ?_;dsimp only));refine bA ?hg (N:=19) ?hd (cs:=#[.int .i64 0,.slice none 0 0]) (t:=40) ?hr ?_;(case hd=>rfl);(case hg=>rfl);(case hr=>(go_simp;done));intro eu hg aqe bH hb;replace fW:=ah.mk (Kd.bq ku hb);replace jS:=ah.mk (Kd.bq pY hb);replace cu:=ah.mk (Kd.cx lC hb);replace kV:=ah.mk (Kd.cx (by exact kV.out) hb);have gV:=ah.mk (bH);have Uv:=ah.mk ((bG:w.heap.size≤eu));have LC:=ah.mk ((bG:w.heap.size≤eu));replace HB:=ah.mk (av aI hb);have mC:=ah.mk ((o9:eG≠eu));have oC:=ah.mk ((pg:eu≠eG));replace dx:=ah.mk (az jH hb);have mh:=ah.mk ((zE:eV≠eu));have oD:=ah.mk ((zF:eu≠eV));replace iF:=ah.mk (az zH hb);clear hb bH hg;have aFi:=oC.out;have aFj:=mC.out;have aFk:=oD.out;have aFl:=mh.out;have aqf:aqe.cell? ⟨eu,0,none⟩=some (.int .i64 0):=(af gV.out 0).trans rfl;have aqg:aqe.cell? ⟨eu,1,none⟩=some (.slice none 0 0):=(af gV.out 1).trans rfl;have aqh:=aa gV.out 0;have aqi:=aa gV.out 1;obtain ⟨Gz,ED,aqj⟩:=Kd.gP kV.out;subst aqj)|((with_reducible refine bE (f:=28) rfl ?_);refine dg (some 115) rfl rfl Tryz.func28 au rfl #[.agg #[.int .i64 nS,.slice Gz mP.length ED],.int .i64 a1] rfl dM ?_;(with_reducible refine (cI.calls k4 nS _ _ mP a1 Gl _ ?bk ?bI A85.out).mono ?_);(case bk=>refine (Kd.dN (e:=34) (base:=w.heap.size) (ok:=fun k_ =>(True∧some k_≠(.slice nC aq.length kS:Value).ownBlock)) (n:=mP.length) (c:=ED) ?_).2.2;exact Wo);(case bI=>exact (Kd.dN kV.out).2.1);rintro e aMr ⟨ah4,rfl,ho0,hb⟩;refine ⟨_,rfl,?_⟩;replace cu:=ah.mk (Kd.cx (by exact (Kd.dG (Kd.bS (p:=⟨eu,1,none⟩) (Kd.bS (p:=⟨eu,0,none⟩) (Kd.fN cu.out gV.out bC) (fun _ hk=>hk.2) (.int .i64 nS)) (fun _ hk=>hk.2) (.slice Gz mP.length ED)) (fun _ h_ =>h_.1))) hb);replace kV:=ah.mk (Kd.cx Wo hb);have yS:=ah.mk (Kd.dY (Kd.Ir (Kd.mX (Kd.mX ho0 (Kd.kW Wp)) (Kd.kW Wq)) (g:=eV) (o:= .cells #[.int .i64 ((cT eH eT).f0),.int .i64 ((cT eH eT).f1)] 63 (0,0)) wX) (bV uU));replace fW:=ah.mk (Kd.jr Wp (Kd.fQ ho0) hb);replace jS:=ah.mk (Kd.jr Wq (Kd.fQ ho0) hb);replace dx:=ah.mk (az (g:=eG) (o:= .cells #[.int .i64 cN,.slice nC aq.length kS] 40 (0,0)) Ey hb);replace iF:=ah.mk (az (g:=eV) (o:= .cells #[.int .i64 ((cT eH eT).f0),.int .i64 ((cT eH eT).f1)] 63 (0,0)) wX hb);replace gV:=ah.mk (az (g:=eu) (o:= .cells #[.int .i64 nS,.slice Gz mP.length ED] 40 (0,0)) Hp hb);replace HB:=ah.mk (av uU hb);(try clear hb);(try clear ho0)))
                go_roundg k4
                case measure=>have:=oI.out;have:=Gv.out;have:=UC.out;have:=HK4.out;omega
                case rel=>exact ⟨(wrap64 (eT + 1)),(by rfl),H',⟨Ez⟩,⟨by exact Kd.cB fW.out (fun _ hk=>trivial)⟩,⟨by exact Kd.cB jS.out (fun _ hk=>trivial)⟩,⟨De⟩,⟨jH⟩,⟨aI⟩⟩
             ·rw [if_neg c84] at H
              have apB:=beq_eq_false_iff_ne.mpr c84
              have apC:=bne_iff_ne.mpr c84
              have H':=ah.mk H
              clear H
              have wJ: 0≤(eT:Int):=of_decide_eq_true cL
              have wK:eT < (eH.length:Int):=of_decide_eq_true cL
              obtain ⟨Ut,Lm,El,Em⟩:=tY (Kd.bW jS.out).2.2 eT wJ wK
              cases Lm
              replace wJ:=eq_true wJ
              replace wK:=eq_true wK
              go_wp2_with (first|((with_reducible refine bw (N:=18) rfl ?_);(try (refine bO (by rfl) ?_;dsimp only));refine bA ?hg (N:=18) ?hd (cs:=#[.int .i64 0,.int .i64 0]) (t:=63) ?hr ?_;(case hd=>rfl);(case hg=>rfl);(case hr=>(go_simp;done));intro eV hg ad5 bH hb;replace fW:=ah.mk (Kd.bq (Kd.lM ku eV (Nat.le_of_eq hg.symm)) hb);replace jS:=ah.mk (Kd.bq (Kd.lM pY eV (Nat.le_of_eq hg.symm)) hb);replace cu:=ah.mk (Kd.cx lC hb);have iF:=ah.mk (bH);have Uu:=ah.mk ((bG:w.heap.size≤eV));have LB:=ah.mk ((bG:w.heap.size≤eV));replace HB:=ah.mk (av aI hb);have mB:=ah.mk ((o9:eG≠eV));have oz:=ah.mk ((pg:eV≠eG));replace dx:=ah.mk (az jH hb);clear hb bH hg;have aFm:=oz.out;have aFn:=mB.out;have aqk:ad5.cell? ⟨eV,0,none⟩=some (.int .i64 0):=(af iF.out 0).trans rfl;have aql:ad5.cell? ⟨eV,1,none⟩=some (.int .i64 0):=(af iF.out 1).trans rfl;have aqm:=aa iF.out 0;have aqn:=aa iF.out 1;have aqo:ad5.cell? ⟨eG,0,none⟩=some (.int .i64 cN):=(af dx.out 0).trans rfl;have aqp:ad5.cell? ⟨eG,1,none⟩=some (.slice nC aq.length kS):=(af dx.out 1).trans rfl;have aqq:=aa dx.out 0;have aqr:=aa dx.out 1)|((with_reducible refine bE (f:=15) rfl ?_);refine dg (some 108) rfl rfl Tryz.func15 au rfl #[.agg #[.int .i64 cN,.slice nC aq.length kS],.agg #[.int .u8 2,.int .i64 ((cT eH eT).f0),.int .i64 ((cT eH eT).f1),.int .i64 (wrap64 (a2)),.int .i64 0,.bool false,.slice none 0 0,.string (⟨#[]⟩:ByteArray),.string (⟨#[]⟩:ByteArray),.bool false,.slice none 0 0,.slice none 0 0,.int .i64 0]] rfl dM ?_;(refine (cz.calls k4 cN _ _ aq 2 ((cT eH eT).f0) ((cT eH eT).f1) (wrap64 (a2)) 0 false _ _ ([]:List ByteArray) (⟨#[]⟩:ByteArray) (⟨#[]⟩:ByteArray) false _ _ ([]:List (jN)) _ _ ([]:List Int) 0 nS mP VH _ ?bk ?bI ?cO ?ey ?gz ?gA ?ko ?nA ?nB A83.out).mono ?_);(case bk=>refine (Kd.dN (e:=34) (base:=w.heap.size) (ok:=fun k_ =>True) (n:=aq.length) (c:=kS) ?_).2.2;exact rX);(case bI=>exact (Kd.dN cu.out).2.1);(case cO=>exact Kd.jq _ _);(case ey=>exact Nat.le_refl _);(case gz=>exact Kd.jq _ _);(case gA=>exact Nat.le_refl _);(case ko=>exact Kd.jq _ _);(case nA=>exact Nat.le_refl _);(case nB=>exact bB.below HG.out o8);rintro e aMs ⟨ad2,rfl,ho0,hb⟩;refine ⟨_,rfl,?_⟩;replace fW:=ah.mk (Kd.bq Et hb);replace jS:=ah.mk (Kd.bq Eu hb);have kV:=ah.mk (Kd.lN (Kd.fo ho0 (Kd.p9 rX)) (bV o8));replace cu:=ah.mk (Kd.fR rX (Kd.jI ho0) hb);replace dx:=ah.mk (az (g:=eG) (o:= .cells #[.int .i64 cN,.slice nC aq.length kS] 40 (0,0)) Ex hb);replace iF:=ah.mk (az (g:=eV) (o:= .cells #[.int .i64 ((cT eH eT).f0),.int .i64 ((cT eH eT).f1)] 63 (0,0)) Ew hb);replace HB:=ah.mk (av o8 hb);(try clear hb);(try clear ho0))|((with_reducible refine bw (N:=19) rfl ?_);(try (refine bO (by rfl) ?_;dsimp only));refine bA ?hg (N:=19) ?hd (cs:=#[.int .i64 0,.slice none 0 0]) (t:=40) ?hr ?_;(case hd=>rfl);(case hg=>rfl);(case hr=>(go_simp;done));intro eu hg aqs bH hb;replace fW:=ah.mk (Kd.bq ku hb);replace jS:=ah.mk (Kd.bq pY hb);replace cu:=ah.mk (Kd.cx lC hb);replace kV:=ah.mk (Kd.cx (by exact kV.out) hb);have gV:=ah.mk (bH);have Uv:=ah.mk ((bG:w.heap.size≤eu));have LC:=ah.mk ((bG:w.heap.size≤eu));replace HB:=ah.mk (av aI hb);have mC:=ah.mk ((o9:eG≠eu));have oC:=ah.mk ((pg:eu≠eG));replace dx:=ah.mk (az jH hb);have mh:=ah.mk ((zE:eV≠eu));have oD:=ah.mk ((zF:eu≠eV));replace iF:=ah.mk (az zH hb);clear hb bH hg;have aFo:=oC.out;have aFp:=mC.out;have aFq:=oD.out;have aFr:=mh.out;have aqt:aqs.cell? ⟨eu,0,none⟩=some (.int .i64 0):=(af gV.out 0).trans rfl;have aqu:aqs.cell? ⟨eu,1,none⟩=some (.slice none 0 0):=(af gV.out 1).trans rfl;have aqv:=aa gV.out 0;have aqw:=aa gV.out 1;obtain ⟨YB,YC,aqx⟩:=Kd.gP kV.out;subst aqx))
              go_roundg k4
              case measure=>have:=oI.out;have:=Gv.out;have:=UC.out;have:=HK4.out;omega
              case rel=>exact ⟨(wrap64 (eT + 1)),(by rfl),H',⟨Ez⟩,⟨by exact Kd.cB (Kd.bf (p:=⟨eu,1,none⟩) (Kd.bf (p:=⟨eu,0,none⟩) (Kd.cS fW.out gV.out bC) (fun _ hk=>hk.2) (.int .i64 nS)) (fun _ hk=>hk.2) (.slice YB mP.length YC)) (fun _ hk=>trivial)⟩,⟨by exact Kd.cB (Kd.bf (p:=⟨eu,1,none⟩) (Kd.bf (p:=⟨eu,0,none⟩) (Kd.cS jS.out gV.out bC) (fun _ hk=>hk.2) (.int .i64 nS)) (fun _ hk=>hk.2) (.slice YB mP.length YC)) (fun _ hk=>trivial)⟩,⟨by exact Kd.dG (Kd.bS (p:=⟨eu,1,none⟩) (Kd.bS (p:=⟨eu,0,none⟩) (Kd.fN cu.out gV.out bC) (fun _ hk=>hk.2) (.int .i64 nS)) (fun _ hk=>hk.2) (.slice YB mP.length YC)) (fun _ hk=>trivial)⟩,⟨Ey⟩,⟨uU⟩⟩
            ·rw [if_neg c80] at H
             have apz:=decide_eq_false c80
             clear c80
             obtain ⟨ahT,aFs,H⟩:=bd_ H
             obtain rfl:=Option.some.inj H
             go_wp2_with (((with_reducible refine bE (f:=22) rfl ?_);refine dg (some 141) rfl rfl Tryz.func22 au rfl #[] rfl Hy ?_;(with_reducible refine (eA.calls k4 ahT _ ?bk aFs.out).mono ?_);(case bk=>exact bB.below HG.out aI);rintro e aMt ⟨rfl,hb⟩;refine ⟨_,rfl,?_⟩;replace fW:=ah.mk (Kd.bq ku hb);replace jS:=ah.mk (Kd.bq pY hb);replace cu:=ah.mk (Kd.cx lC hb);replace dx:=ah.mk (az jH hb);replace HB:=ah.mk (av aI hb);(try clear hb)))
             go_ret
             exact ⟨by rfl,aI⟩
end Go.Proofs.YtbjjaaodfbjkfaaGreatDoor.ow
