import Derived.Test.YtbjjaaodfbjkfaaGreatDoorESlim
import Derived.Test.YtbjjaaodfbjkfaaGreatDoorESettled
set_option maxHeartbeats 8000000
set_option maxRecDepth 100000
namespace Go.Proofs.YtbjjaaodfbjkfaaGreatDoor.mU
open Go.RowKit Go.Proofs.YtbjjaaodfbjkfaaGreatDoor.yN Go.Proofs.ak.bR Go.Proofs.ak.dz Go.Proofs.ak.cZ
attribute [local go_sem] iR iT jW jX gW gX jh ji
set_option linter.unusedVariables false
set_option linter.unusedSimpArgs false
def bX.l0:Nat→List ByteArray→Int→Int→Int→Bool→ByteArray→ByteArray→Bool→List (jM)→Int→Option (Int×Bool×List ByteArray×ByteArray×ByteArray×Bool×(List (jM))×List Int×Int)
 | 0,_,_,_,_,_,_,_,_,_,_ =>none
 |k + 1,x19,SG,x21,Qt,Qu,Qv,Qw,Qx,Jx,Qy=>if x21 < SG then (if 0≤x21 then (if x21 < (x19.length:Int) then (if Jx.length < 2199023255552 then (bX.l0 k x19 SG (wrap64 (x21 + 1)) Qt Qu Qv Qw Qx (Jx ++ [(⟨(⟨nu ByteArray.empty x19 x21,(⟨#[99]⟩:ByteArray),false⟩:Fu),0,0,0⟩:jM)]) Qy) else (none)) else (none)) else (none)) else (some (Qt,Qu,([]:List ByteArray),Qv,Qw,Qx,Jx,([]:List Int),Qy))
def bX.f (k:Nat) (a0:Int) (a1:ByteArray) (l2:List ByteArray):Option (Int×Bool×List ByteArray×ByteArray×ByteArray×Bool×(List (jM))×List Int×Int):=if a1.toList=([]:List UInt8) then (bX.l0 k l2 (l2.length:Int) 0 a0 true (⟨#[]⟩:ByteArray) (⟨#[]⟩:ByteArray) false ([]:List (jM)) 0) else (bX.l0 k l2 (l2.length:Int) 0 a0 false a1 (⟨#[98]⟩:ByteArray) false ([]:List (jM)) 0)
theorem bX.ey:∀ k,(∀ y0 y1 y2 y3 y4 y5 y6 y7 y8 y9,eZ (bX.l0 k y0 y1 y2 y3 y4 y5 y6 y7 y8 y9) (bX.l0 (k + 1) y0 y1 y2 y3 y4 y5 y6 y7 y8 y9))
 | 0=>fun _ _ _ _ _ _ _ _ _ _ r h=>by simp [bX.l0] at h
 |k + 1=>by
  have mH:=bX.ey k
  ·intro y0 y1 y2 y3 y4 y5 y6 y7 y8 y9
   unfold bX.l0
   repeat' (with_reducible first|exact mH _ _ _ _ _ _ _ _ _ _|exact eZ.refl _|refine eZ.ite ?_ ?_)
theorem bX.mono:∀ a0 a1 a2 k,eZ (bX.f k a0 a1 a2) (bX.f (k + 1) a0 a1 a2):=by
 intro a0 a1 a2 k
 have mH:=bX.ey k
 unfold bX.f
 repeat' (with_reducible first|exact mH _ _ _ _ _ _ _ _ _ _|refine eZ.ite ?_ ?_)
theorem bX.calls (k:Nat) (a0:Int) (a1:ByteArray) (A2:Option Addr) (c2:Nat) (l2:List ByteArray) (r1:Int) (r2:Bool) (r3:List ByteArray) (r4:ByteArray) (r5:ByteArray) (r6:Bool) (r7:List (jM)) (r8:List Int) (r9:Int) (w:World) (hr2:Kd.C Kd.string w A2 l2.length l2) (hc2:l2.length≤c2) (h:bX.f k a0 a1 l2=some (r1,r2,r3,r4,r5,r6,r7,r8,r9)):
 Calls Tryz.prog 14 #[.int .i64 a0,.string a1,.slice A2 l2.length c2] w fun e w'=>∃ Zk RH v7_:Value,e= .returned (.agg #[.int .i64 r1,.bool r2,Zk,.string r4,.string r5,.bool r6,RH,v7_,.int .i64 r9])∧Kd.R Kd.string 9 w' w.heap.size (fun _ =>True) Zk r3∧Kd.R sM 37 w' w.heap.size (fun _ =>True) RH r7∧Kd.R (Kd.int .u8) 5 w' w.heap.size (fun _ =>True) v7_ r8∧Below w.heap.size w w':=by
 have BW:=Tryz.underlying34
 have KD:=Tryz.underlying29
 have Wy:=Tryz.underlying31
 have ME:=Tryz.underlying37
 have HR2:=ah.mk hr2
 have HC2:=ah.mk hc2
 clear hr2 hc2
 have HB:=ah.mk (Below.refl w.heap.size w)
 have H:(if a1.toList=([]:List UInt8) then (bX.l0 k l2 (l2.length:Int) 0 a0 true (⟨#[]⟩:ByteArray) (⟨#[]⟩:ByteArray) false ([]:List (jM)) 0) else (bX.l0 k l2 (l2.length:Int) 0 a0 false a1 (⟨#[98]⟩:ByteArray) false ([]:List (jM)) 0))=some (r1,r2,r3,r4,r5,r6,r7,r8,r9):=h
 clear h
 by_cases c4:a1.toList=([]:List UInt8)
 ·rw [if_pos c4] at H
  have mQ:=beq_iff_eq.mpr c4
  have AE:=bne_eq_false_iff_eq.mpr c4
  clear c4
  have H':=ah.mk H
  clear H
  go_enter Tryz.func14,Tryz.ntmps14
  go_wp2_with (first|((with_reducible refine bp (N:=6) rfl ?_);refine br ?hg (N:=6) ?hd (cs:=#[.int .i64 0,.bool false,.slice none 0 0,.string (⟨#[]⟩:ByteArray),.string (⟨#[]⟩:ByteArray),.bool false,.slice none 0 0,.slice none 0 0,.int .i64 0]) (t:=34) ?hr ?_;(case hd=>rfl);(case hg=>rfl);(case hr=>(go_simp;done));intro gj hg w5 bG hb;have fW:=ah.mk (bG);have akd:=ah.mk ((bF:w.heap.size≤gj));have aa9:=ah.mk ((bF:w.heap.size≤gj));replace HB:=ah.mk (ay aJ hb);clear hb bG hg)|((with_reducible refine bp (N:=7) rfl ?_);refine br ?hg (N:=7) ?hd (cs:=#[.int .i64 0,.bool false,.slice none 0 0,.string (⟨#[]⟩:ByteArray),.string (⟨#[]⟩:ByteArray),.bool false,.slice none 0 0,.slice none 0 0,.int .i64 0]) (t:=34) ?hr ?_;(case hd=>rfl);(case hg=>rfl);(case hr=>(go_simp;done));intro dI hg w6 bG hb;have bZ:=ah.mk (bG);have ake:=ah.mk ((bF:w.heap.size≤dI));have aa8:=ah.mk ((bF:w.heap.size≤dI));replace HB:=ah.mk (ay aJ hb);have eo:=ah.mk ((by rw [hg];exact Nat.ne_of_lt (dQ rE):gj≠dI));have pO:=ah.mk ((by rw [hg];exact Nat.ne_of_gt (dQ rE):dI≠gj));replace fW:=ah.mk (aA rE hb);clear hb bG hg;have ahG:=pO.out;have ahH:=eo.out;have DV:w6.cell? ⟨dI,0,none⟩=some (.int .i64 0):=(af bZ.out 0).trans rfl;have DW:w6.cell? ⟨dI,1,none⟩=some (.bool false):=(af bZ.out 1).trans rfl;have Ua:w6.cell? ⟨dI,2,none⟩=some (.slice none 0 0):=(af bZ.out 2).trans rfl;have adN:w6.cell? ⟨dI,3,none⟩=some (.string (⟨#[]⟩:ByteArray)):=(af bZ.out 3).trans rfl;have adO:w6.cell? ⟨dI,4,none⟩=some (.string (⟨#[]⟩:ByteArray)):=(af bZ.out 4).trans rfl;have adP:w6.cell? ⟨dI,5,none⟩=some (.bool false):=(af bZ.out 5).trans rfl;have adQ:w6.cell? ⟨dI,6,none⟩=some (.slice none 0 0):=(af bZ.out 6).trans rfl;have adR:w6.cell? ⟨dI,7,none⟩=some (.slice none 0 0):=(af bZ.out 7).trans rfl;have adS:w6.cell? ⟨dI,8,none⟩=some (.int .i64 0):=(af bZ.out 8).trans rfl;have DX:=aa bZ.out 0;have DY:=aa bZ.out 1;have Ub:=aa bZ.out 2;have adT:=aa bZ.out 3;have adU:=aa bZ.out 4;have adV:=aa bZ.out 5;have adW:=aa bZ.out 6;have adX:=aa bZ.out 7;have adY:=aa bZ.out 8))
  go_loopg [21] k (fun kq v21 w'=>∃ (lM:Int) (gP:List (jM)) (j3:Value),v21= .int .i64 lM∧ah (bX.l0 kq l2 (l2.length:Int) lM a0 true (⟨#[]⟩:ByteArray) (⟨#[]⟩:ByteArray) false gP 0=some (r1,r2,r3,r4,r5,r6,r7,r8,r9))∧ah (kq≤k)∧ah (Kd.R sM 37 w' w.heap.size (fun _ =>True) j3 gP)∧ah (w'.heap[gj]? =some (.cells #[.int .i64 0,.bool false,(.slice none 0 0),.string (⟨#[]⟩:ByteArray),.string (⟨#[]⟩:ByteArray),.bool false,(.slice none 0 0),(.slice none 0 0),.int .i64 0] 34 (0,0)))∧ah (w'.heap[dI]? =some (.cells #[.int .i64 a0,.bool true,(.slice none 0 0),.string (⟨#[]⟩:ByteArray),.string (⟨#[]⟩:ByteArray),.bool false,j3,(.slice none 0 0),.int .i64 0] 34 (0,0)))∧ah (Below w.heap.size w w'))
  case atStart=>exact ⟨(0),(([]:List (jM))),(.slice none 0 0),(by rfl),H',⟨Nat.le_refl _⟩,⟨rC⟩,⟨by refine aU ?_ eo.out _;refine aU ?_ eo.out _;refine aU ?_ eo.out _;refine aU ?_ eo.out _;refine aU ?_ eo.out _;refine aU ?_ eo.out _;refine aU ?_ eo.out _;refine aU ?_ eo.out _;refine aU ?_ eo.out _;refine aU ?_ eo.out _;refine aU ?_ eo.out _;refine aU ?_ eo.out _;refine aU ?_ eo.out _;refine aU ?_ eo.out _;exact fW.out⟩,⟨by refine aZ (cs:=#[.int .i64 a0,.bool true,.slice none 0 0,.string (⟨#[]⟩:ByteArray),.string (⟨#[]⟩:ByteArray),.bool false,.slice none 0 0,.slice none 0 0,.int .i64 0]) ?_ 5 _ rfl;refine aZ (cs:=#[.int .i64 a0,.bool true,.slice none 0 0,.string (⟨#[]⟩:ByteArray),.string (⟨#[98]⟩:ByteArray),.bool false,.slice none 0 0,.slice none 0 0,.int .i64 0]) ?_ 4 _ rfl;refine aZ (cs:=#[.int .i64 a0,.bool true,.slice none 0 0,.string a1,.string (⟨#[98]⟩:ByteArray),.bool false,.slice none 0 0,.slice none 0 0,.int .i64 0]) ?_ 3 _ rfl;refine aZ (cs:=#[.int .i64 a0,.bool true,.slice none 0 0,.string a1,.string (⟨#[98]⟩:ByteArray),.bool false,.slice none 0 0,.slice none 0 0,.int .i64 0]) ?_ 2 _ rfl;refine aZ (cs:=#[.int .i64 a0,.bool false,.slice none 0 0,.string a1,.string (⟨#[98]⟩:ByteArray),.bool false,.slice none 0 0,.slice none 0 0,.int .i64 0]) ?_ 1 _ rfl;refine aZ (cs:=#[.int .i64 a0,.bool false,.slice none 0 0,.string a1,.string (⟨#[98]⟩:ByteArray),.bool false,.slice none 0 0,.slice none 0 0,.int .i64 0]) ?_ 8 _ rfl;refine aZ (cs:=#[.int .i64 a0,.bool false,.slice none 0 0,.string a1,.string (⟨#[98]⟩:ByteArray),.bool false,.slice none 0 0,.slice none 0 0,.int .i64 0]) ?_ 7 _ rfl;refine aZ (cs:=#[.int .i64 a0,.bool false,.slice none 0 0,.string a1,.string (⟨#[98]⟩:ByteArray),.bool false,.slice none 0 0,.slice none 0 0,.int .i64 0]) ?_ 6 _ rfl;refine aZ (cs:=#[.int .i64 a0,.bool false,.slice none 0 0,.string a1,.string (⟨#[98]⟩:ByteArray),.bool false,.slice none 0 0,.slice none 0 0,.int .i64 0]) ?_ 5 _ rfl;refine aZ (cs:=#[.int .i64 a0,.bool false,.slice none 0 0,.string a1,.string (⟨#[]⟩:ByteArray),.bool false,.slice none 0 0,.slice none 0 0,.int .i64 0]) ?_ 4 _ rfl;refine aZ (cs:=#[.int .i64 a0,.bool false,.slice none 0 0,.string (⟨#[]⟩:ByteArray),.string (⟨#[]⟩:ByteArray),.bool false,.slice none 0 0,.slice none 0 0,.int .i64 0]) ?_ 3 _ rfl;refine aZ (cs:=#[.int .i64 a0,.bool false,.slice none 0 0,.string (⟨#[]⟩:ByteArray),.string (⟨#[]⟩:ByteArray),.bool false,.slice none 0 0,.slice none 0 0,.int .i64 0]) ?_ 2 _ rfl;refine aZ (cs:=#[.int .i64 a0,.bool false,.slice none 0 0,.string (⟨#[]⟩:ByteArray),.string (⟨#[]⟩:ByteArray),.bool false,.slice none 0 0,.slice none 0 0,.int .i64 0]) ?_ 1 _ rfl;refine aZ (cs:=#[.int .i64 0,.bool false,.slice none 0 0,.string (⟨#[]⟩:ByteArray),.string (⟨#[]⟩:ByteArray),.bool false,.slice none 0 0,.slice none 0 0,.int .i64 0]) ?_ 0 _ rfl;exact bZ.out⟩,⟨Gf⟩⟩
  case round=>
   clear H'
   obtain ⟨lM,gP,j3,rfl,HA,qi,ke,fW,bZ,HB⟩:=hrel
   cases gk with
   |zero=>exact absurd HA.out (by simp [bX.l0])
   |succ k1=>
    have H:=HA.out
    clear HA
    simp only [bX.l0] at H
    by_cases c9:lM < (l2.length:Int)
    ·rw [if_pos c9] at H
     have V8:=decide_eq_true c9
     clear c9
     obtain ⟨c10,H⟩:=lO H
     have BG:=decide_eq_true c10
     clear c10
     obtain ⟨c11,H⟩:=lO H
     have zI:=decide_eq_true c11
     clear c11
     obtain ⟨c12,H⟩:=lO H
     have akf:=ah.mk c12
     clear c12
     obtain ⟨Jy,EC⟩:∃ y_:List (jM),y_=(gP ++ [(⟨(⟨nu ByteArray.empty l2 lM,(⟨#[99]⟩:ByteArray),false⟩:Fu),0,0,0⟩:jM)]):=⟨_,rfl⟩
     replace H:(bX.l0 k1 l2 (l2.length:Int) (wrap64 (lM + 1)) a0 true (⟨#[]⟩:ByteArray) (⟨#[]⟩:ByteArray) false Jy 0)=some (r1,r2,r3,r4,r5,r6,r7,r8,r9):=by (rw [EC];with_reducible exact H)
     have U7:=ah.mk EC
     clear EC
     have H':=ah.mk H
     clear H
     have M4: 0≤(lM:Int):=of_decide_eq_true cj
     have M5:lM < (l2.length:Int):=of_decide_eq_true cj
     obtain ⟨akg,aeg,uS⟩:=Kd.j5 HR2.out lM M4 M5
     cases aeg
     replace uS:=(HB.out.cell (World.block_lt_of_cell? w _ uS)).trans uS
     replace M4:=eq_true M4
     replace M5:=eq_true M5
     have akh:=pO.out
     have aki:=eo.out
     have zx:wr.cell? ⟨dI,0,none⟩=some (.int .i64 a0):=(af bZ.out 0).trans rfl
     have zy:wr.cell? ⟨dI,1,none⟩=some (.bool true):=(af bZ.out 1).trans rfl
     have CN:wr.cell? ⟨dI,2,none⟩=some (.slice none 0 0):=(af bZ.out 2).trans rfl
     have CO:wr.cell? ⟨dI,3,none⟩=some (.string (⟨#[]⟩:ByteArray)):=(af bZ.out 3).trans rfl
     have CP:wr.cell? ⟨dI,4,none⟩=some (.string (⟨#[]⟩:ByteArray)):=(af bZ.out 4).trans rfl
     have CQ:wr.cell? ⟨dI,5,none⟩=some (.bool false):=(af bZ.out 5).trans rfl
     have GX:wr.cell? ⟨dI,6,none⟩=some (j3):=(af bZ.out 6).trans rfl
     have GY:wr.cell? ⟨dI,7,none⟩=some (.slice none 0 0):=(af bZ.out 7).trans rfl
     have GZ:wr.cell? ⟨dI,8,none⟩=some (.int .i64 0):=(af bZ.out 8).trans rfl
     have zz:=aa bZ.out 0
     have zA:=aa bZ.out 1
     have CR:=aa bZ.out 2
     have CS:=aa bZ.out 3
     have CT:=aa bZ.out 4
     have CU:=aa bZ.out 5
     have G0:=aa bZ.out 6
     have G1:=aa bZ.out 7
     have G3:=aa bZ.out 8
     go_wp2_with (((with_reducible refine oG (b:= .append) (xs:=#[.tmp 26,.tmp 30]) rfl ?_);at_builtin;refine Kd.vW sM (w0:=w) w.heap.size rfl (.tmp 26) (.tmp 30) 32 37 (.agg #[(.string ⟨#[]⟩),(.string ⟨#[]⟩),(.bool false),(.int .u8 0),(.int .i64 0),(.int .i64 0)]) 64 rfl Tryz.underlying32 Mn rfl bC az j3 gP (⟨(⟨nu ByteArray.empty l2 lM,(⟨#[99]⟩:ByteArray),false⟩:Fu),0,0,0⟩:jM) [.string (nu ByteArray.empty l2 lM),.string (⟨#[99]⟩:ByteArray),.bool false,.int .u8 0,.int .i64 0,.int .i64 0] (fun _ =>True) (fun _ =>False) rfl rfl ?aP (fun _ hk=>hk.elim) ?aF ?aO ?aB ?aS ?aL ?_;(case aP=>exact Cz _ _ _ (⟨(⟨nu ByteArray.empty l2 lM,(⟨#[99]⟩:ByteArray),false⟩:Fu),0,0,0⟩:jM));(case aB=>exact aJ);(case aF=>exact (fun _ _ =>trivial));(case aO=>exact (by exact ke.out));(case aS=>exact (b7 aJ));(case aL=>have:=akf.out;omega);intro ayN vF ho hb hg hat;rw [← U7.out] at ho;replace fW:=ah.mk (fM (g:=gj) (o:= .cells #[.int .i64 0,.bool false,.slice none 0 0,.string (⟨#[]⟩:ByteArray),.string (⟨#[]⟩:ByteArray),.bool false,.slice none 0 0,.slice none 0 0,.int .i64 0] 34 (0,0)) rE hg (Kd.zk ke.out fW.out bC));replace bZ:=ah.mk (fM (g:=dI) (o:= .cells #[.int .i64 a0,.bool true,.slice none 0 0,.string (⟨#[]⟩:ByteArray),.string (⟨#[]⟩:ByteArray),.bool false,j3,.slice none 0 0,.int .i64 0] 34 (0,0)) (by exact bZ.out) hg (Kd.zk ke.out bZ.out bC));replace HB:=ah.mk (hb);have Lt:=ah.mk (ho);clear ke;clear ho hb hg hat;obtain ⟨My,Mz,Uc⟩:=Kd.dm Lt.out;subst Uc;have V4:vF.cell? ⟨dI,0,none⟩=some (.int .i64 a0):=(af bZ.out 0).trans rfl;have V5:vF.cell? ⟨dI,1,none⟩=some (.bool true):=(af bZ.out 1).trans rfl;have atC:vF.cell? ⟨dI,2,none⟩=some (.slice none 0 0):=(af bZ.out 2).trans rfl;have atD:vF.cell? ⟨dI,3,none⟩=some (.string (⟨#[]⟩:ByteArray)):=(af bZ.out 3).trans rfl;have atE:vF.cell? ⟨dI,4,none⟩=some (.string (⟨#[]⟩:ByteArray)):=(af bZ.out 4).trans rfl;have atF:vF.cell? ⟨dI,5,none⟩=some (.bool false):=(af bZ.out 5).trans rfl;have atG:vF.cell? ⟨dI,6,none⟩=some (j3):=(af bZ.out 6).trans rfl;have atH:vF.cell? ⟨dI,7,none⟩=some (.slice none 0 0):=(af bZ.out 7).trans rfl;have atI:vF.cell? ⟨dI,8,none⟩=some (.int .i64 0):=(af bZ.out 8).trans rfl;have V6:=aa bZ.out 0;have V7:=aa bZ.out 1;have atJ:=aa bZ.out 2;have atK:=aa bZ.out 3;have atL:=aa bZ.out 4;have atM:=aa bZ.out 5;have atN:=aa bZ.out 6;have atO:=aa bZ.out 7;have atP:=aa bZ.out 8))
     go_roundg k1
     case measure=>have:=qi.out;omega
     case rel=>exact ⟨(wrap64 (lM + 1)),(Jy),(.slice My Jy.length Mz),(by rfl),H',⟨lu⟩,⟨by exact Kd.dH (Kd.bw (p:=⟨dI,6,none⟩) (Kd.dD Lt.out bZ.out bC) (fun _ hk=>hk.2) (.slice My Jy.length Mz)) (fun _ hk=>trivial)⟩,⟨by refine aU ?_ eo.out _;exact fW.out⟩,⟨by refine aZ (cs:=#[.int .i64 a0,.bool true,.slice none 0 0,.string (⟨#[]⟩:ByteArray),.string (⟨#[]⟩:ByteArray),.bool false,j3,.slice none 0 0,.int .i64 0]) ?_ 6 _ rfl;exact bZ.out⟩,⟨Gf⟩⟩
    ·rw [if_neg c9] at H
     have V8:=decide_eq_false c9
     clear c9
     simp only [Option.some.injEq,Prod.mk.injEq] at H
     obtain ⟨rfl,rfl,rfl,rfl,rfl,rfl,rfl,rfl,rfl⟩:=H
     have abv:=pO.out
     have abw:=eo.out
     have Iz:wr.cell? ⟨dI,0,none⟩=some (.int .i64 a0):=(af bZ.out 0).trans rfl
     have IA:wr.cell? ⟨dI,1,none⟩=some (.bool true):=(af bZ.out 1).trans rfl
     have IB:wr.cell? ⟨dI,2,none⟩=some (.slice none 0 0):=(af bZ.out 2).trans rfl
     have IC:wr.cell? ⟨dI,3,none⟩=some (.string (⟨#[]⟩:ByteArray)):=(af bZ.out 3).trans rfl
     have ID:wr.cell? ⟨dI,4,none⟩=some (.string (⟨#[]⟩:ByteArray)):=(af bZ.out 4).trans rfl
     have IE:wr.cell? ⟨dI,5,none⟩=some (.bool false):=(af bZ.out 5).trans rfl
     have IG:wr.cell? ⟨dI,6,none⟩=some (j3):=(af bZ.out 6).trans rfl
     have II:wr.cell? ⟨dI,7,none⟩=some (.slice none 0 0):=(af bZ.out 7).trans rfl
     have IJ:wr.cell? ⟨dI,8,none⟩=some (.int .i64 0):=(af bZ.out 8).trans rfl
     have IK:=aa bZ.out 0
     have IL:=aa bZ.out 1
     have IM:=aa bZ.out 2
     have IP:=aa bZ.out 3
     have IQ:=aa bZ.out 4
     have IU:=aa bZ.out 5
     have IV:=aa bZ.out 6
     have IW:=aa bZ.out 7
     have IX:=aa bZ.out 8
     have Da:wr.cell? ⟨gj,0,none⟩=some (.int .i64 0):=(af fW.out 0).trans rfl
     have Db:wr.cell? ⟨gj,1,none⟩=some (.bool false):=(af fW.out 1).trans rfl
     have Dc:wr.cell? ⟨gj,2,none⟩=some (.slice none 0 0):=(af fW.out 2).trans rfl
     have I8:wr.cell? ⟨gj,3,none⟩=some (.string (⟨#[]⟩:ByteArray)):=(af fW.out 3).trans rfl
     have I9:wr.cell? ⟨gj,4,none⟩=some (.string (⟨#[]⟩:ByteArray)):=(af fW.out 4).trans rfl
     have Ja:wr.cell? ⟨gj,5,none⟩=some (.bool false):=(af fW.out 5).trans rfl
     have Pr:wr.cell? ⟨gj,6,none⟩=some (.slice none 0 0):=(af fW.out 6).trans rfl
     have Pv:wr.cell? ⟨gj,7,none⟩=some (.slice none 0 0):=(af fW.out 7).trans rfl
     have Pw:wr.cell? ⟨gj,8,none⟩=some (.int .i64 0):=(af fW.out 8).trans rfl
     have Dd:=aa fW.out 0
     have De:=aa fW.out 1
     have Df:=aa fW.out 2
     have Jb:=aa fW.out 3
     have Jc:=aa fW.out 4
     have Jd:=aa fW.out 5
     have Px:=aa fW.out 6
     have Py:=aa fW.out 7
     have Pz:=aa fW.out 8
     obtain ⟨ZR,ZT,ayO⟩:=Kd.dm ke.out
     subst ayO
     go_wp2
     refine bodyPost_ret (results_cell_row rfl _ _ gj 34 #[.int .i64 a0,.bool true,.slice none 0 0,.string (⟨#[]⟩:ByteArray),.string (⟨#[]⟩:ByteArray),.bool false,.slice ZR gP.length ZT,.slice none 0 0,.int .i64 0] (0,0) _ rfl (by refine aZ (cs:=#[.int .i64 a0,.bool true,.slice none 0 0,.string (⟨#[]⟩:ByteArray),.string (⟨#[]⟩:ByteArray),.bool false,.slice ZR gP.length ZT,.slice none 0 0,.int .i64 0]) ?_ 8 _ rfl;refine aZ (cs:=#[.int .i64 a0,.bool true,.slice none 0 0,.string (⟨#[]⟩:ByteArray),.string (⟨#[]⟩:ByteArray),.bool false,.slice ZR gP.length ZT,.slice none 0 0,.int .i64 0]) ?_ 7 _ rfl;refine aZ (cs:=#[.int .i64 a0,.bool true,.slice none 0 0,.string (⟨#[]⟩:ByteArray),.string (⟨#[]⟩:ByteArray),.bool false,.slice none 0 0,.slice none 0 0,.int .i64 0]) ?_ 6 _ rfl;refine aZ (cs:=#[.int .i64 a0,.bool true,.slice none 0 0,.string (⟨#[]⟩:ByteArray),.string (⟨#[]⟩:ByteArray),.bool false,.slice none 0 0,.slice none 0 0,.int .i64 0]) ?_ 5 _ rfl;refine aZ (cs:=#[.int .i64 a0,.bool true,.slice none 0 0,.string (⟨#[]⟩:ByteArray),.string (⟨#[]⟩:ByteArray),.bool false,.slice none 0 0,.slice none 0 0,.int .i64 0]) ?_ 4 _ rfl;refine aZ (cs:=#[.int .i64 a0,.bool true,.slice none 0 0,.string (⟨#[]⟩:ByteArray),.string (⟨#[]⟩:ByteArray),.bool false,.slice none 0 0,.slice none 0 0,.int .i64 0]) ?_ 3 _ rfl;refine aZ (cs:=#[.int .i64 a0,.bool true,.slice none 0 0,.string (⟨#[]⟩:ByteArray),.string (⟨#[]⟩:ByteArray),.bool false,.slice none 0 0,.slice none 0 0,.int .i64 0]) ?_ 2 _ rfl;refine aZ (cs:=#[.int .i64 a0,.bool false,.slice none 0 0,.string (⟨#[]⟩:ByteArray),.string (⟨#[]⟩:ByteArray),.bool false,.slice none 0 0,.slice none 0 0,.int .i64 0]) ?_ 1 _ rfl;refine aZ (cs:=#[.int .i64 0,.bool false,.slice none 0 0,.string (⟨#[]⟩:ByteArray),.string (⟨#[]⟩:ByteArray),.bool false,.slice none 0 0,.slice none 0 0,.int .i64 0]) ?_ 0 _ rfl;exact fW.out) Tryz.underlying34 rfl aq) rfl ?_
     exact ⟨_,_,_,by rfl,rC,by exact Kd.dH (Kd.bw (p:=⟨gj,8,none⟩) (Kd.bw (p:=⟨gj,7,none⟩) (Kd.bw (p:=⟨gj,6,none⟩) (Kd.bw (p:=⟨gj,5,none⟩) (Kd.bw (p:=⟨gj,4,none⟩) (Kd.bw (p:=⟨gj,3,none⟩) (Kd.bw (p:=⟨gj,2,none⟩) (Kd.bw (p:=⟨gj,1,none⟩) (Kd.bw (p:=⟨gj,0,none⟩) (Kd.dD ke.out fW.out bC) (fun _ hk=>hk.2) (.int .i64 a0)) (fun _ hk=>hk.2) (.bool true)) (fun _ hk=>hk.2) (.slice none 0 0)) (fun _ hk=>hk.2) (.string (⟨#[]⟩:ByteArray))) (fun _ hk=>hk.2) (.string (⟨#[]⟩:ByteArray))) (fun _ hk=>hk.2) (.bool false)) (fun _ hk=>hk.2) (.slice ZR gP.length ZT)) (fun _ hk=>hk.2) (.slice none 0 0)) (fun _ hk=>hk.2) (.int .i64 0)) (fun _ hk=>trivial),rC,NW⟩
 ·rw [if_neg c4] at H
  have mQ:=beq_eq_false_iff_ne.mpr c4
  have AE:=bne_iff_ne.mpr c4
  have H':=ah.mk H
  clear H
  go_enter Tryz.func14,Tryz.ntmps14
  go_wp2_with (first|((with_reducible refine bp (N:=6) rfl ?_);refine br ?hg (N:=6) ?hd (cs:=#[.int .i64 0,.bool false,.slice none 0 0,.string (⟨#[]⟩:ByteArray),.string (⟨#[]⟩:ByteArray),.bool false,.slice none 0 0,.slice none 0 0,.int .i64 0]) (t:=34) ?hr ?_;(case hd=>rfl);(case hg=>rfl);(case hr=>(go_simp;done));intro gj hg Vs bG hb;have fW:=ah.mk (bG);have akd:=ah.mk ((bF:w.heap.size≤gj));have aa9:=ah.mk ((bF:w.heap.size≤gj));replace HB:=ah.mk (ay aJ hb);clear hb bG hg)|((with_reducible refine bp (N:=7) rfl ?_);refine br ?hg (N:=7) ?hd (cs:=#[.int .i64 0,.bool false,.slice none 0 0,.string (⟨#[]⟩:ByteArray),.string (⟨#[]⟩:ByteArray),.bool false,.slice none 0 0,.slice none 0 0,.int .i64 0]) (t:=34) ?hr ?_;(case hd=>rfl);(case hg=>rfl);(case hr=>(go_simp;done));intro dI hg sP bG hb;have bZ:=ah.mk (bG);have ake:=ah.mk ((bF:w.heap.size≤dI));have aa8:=ah.mk ((bF:w.heap.size≤dI));replace HB:=ah.mk (ay aJ hb);have eo:=ah.mk ((by rw [hg];exact Nat.ne_of_lt (dQ rE):gj≠dI));have pO:=ah.mk ((by rw [hg];exact Nat.ne_of_gt (dQ rE):dI≠gj));replace fW:=ah.mk (aA rE hb);clear hb bG hg;have akj:=pO.out;have akk:=eo.out;have Dg:sP.cell? ⟨dI,0,none⟩=some (.int .i64 0):=(af bZ.out 0).trans rfl;have Dh:sP.cell? ⟨dI,1,none⟩=some (.bool false):=(af bZ.out 1).trans rfl;have Di:sP.cell? ⟨dI,2,none⟩=some (.slice none 0 0):=(af bZ.out 2).trans rfl;have Hq:sP.cell? ⟨dI,3,none⟩=some (.string (⟨#[]⟩:ByteArray)):=(af bZ.out 3).trans rfl;have Hr:sP.cell? ⟨dI,4,none⟩=some (.string (⟨#[]⟩:ByteArray)):=(af bZ.out 4).trans rfl;have Qg:sP.cell? ⟨dI,5,none⟩=some (.bool false):=(af bZ.out 5).trans rfl;have Qh:sP.cell? ⟨dI,6,none⟩=some (.slice none 0 0):=(af bZ.out 6).trans rfl;have Qi:sP.cell? ⟨dI,7,none⟩=some (.slice none 0 0):=(af bZ.out 7).trans rfl;have Qj:sP.cell? ⟨dI,8,none⟩=some (.int .i64 0):=(af bZ.out 8).trans rfl;have Dj:=aa bZ.out 0;have Dk:=aa bZ.out 1;have Dl:=aa bZ.out 2;have Hs:=aa bZ.out 3;have Ht:=aa bZ.out 4;have Qk:=aa bZ.out 5;have Ql:=aa bZ.out 6;have Qm:=aa bZ.out 7;have Qn:=aa bZ.out 8))
  go_loopg [21] k (fun kq v21 w'=>∃ (lM:Int) (gP:List (jM)) (j3:Value),v21= .int .i64 lM∧ah (bX.l0 kq l2 (l2.length:Int) lM a0 false a1 (⟨#[98]⟩:ByteArray) false gP 0=some (r1,r2,r3,r4,r5,r6,r7,r8,r9))∧ah (kq≤k)∧ah (Kd.R sM 37 w' w.heap.size (fun _ =>True) j3 gP)∧ah (w'.heap[gj]? =some (.cells #[.int .i64 0,.bool false,(.slice none 0 0),.string (⟨#[]⟩:ByteArray),.string (⟨#[]⟩:ByteArray),.bool false,(.slice none 0 0),(.slice none 0 0),.int .i64 0] 34 (0,0)))∧ah (w'.heap[dI]? =some (.cells #[.int .i64 a0,.bool false,(.slice none 0 0),.string a1,.string (⟨#[98]⟩:ByteArray),.bool false,j3,(.slice none 0 0),.int .i64 0] 34 (0,0)))∧ah (Below w.heap.size w w'))
  case atStart=>exact ⟨(0),(([]:List (jM))),(.slice none 0 0),(by rfl),H',⟨Nat.le_refl _⟩,⟨rC⟩,⟨by refine aU ?_ eo.out _;refine aU ?_ eo.out _;refine aU ?_ eo.out _;refine aU ?_ eo.out _;refine aU ?_ eo.out _;refine aU ?_ eo.out _;refine aU ?_ eo.out _;refine aU ?_ eo.out _;refine aU ?_ eo.out _;exact fW.out⟩,⟨by refine aZ (cs:=#[.int .i64 a0,.bool false,.slice none 0 0,.string a1,.string (⟨#[98]⟩:ByteArray),.bool false,.slice none 0 0,.slice none 0 0,.int .i64 0]) ?_ 8 _ rfl;refine aZ (cs:=#[.int .i64 a0,.bool false,.slice none 0 0,.string a1,.string (⟨#[98]⟩:ByteArray),.bool false,.slice none 0 0,.slice none 0 0,.int .i64 0]) ?_ 7 _ rfl;refine aZ (cs:=#[.int .i64 a0,.bool false,.slice none 0 0,.string a1,.string (⟨#[98]⟩:ByteArray),.bool false,.slice none 0 0,.slice none 0 0,.int .i64 0]) ?_ 6 _ rfl;refine aZ (cs:=#[.int .i64 a0,.bool false,.slice none 0 0,.string a1,.string (⟨#[98]⟩:ByteArray),.bool false,.slice none 0 0,.slice none 0 0,.int .i64 0]) ?_ 5 _ rfl;refine aZ (cs:=#[.int .i64 a0,.bool false,.slice none 0 0,.string a1,.string (⟨#[]⟩:ByteArray),.bool false,.slice none 0 0,.slice none 0 0,.int .i64 0]) ?_ 4 _ rfl;refine aZ (cs:=#[.int .i64 a0,.bool false,.slice none 0 0,.string (⟨#[]⟩:ByteArray),.string (⟨#[]⟩:ByteArray),.bool false,.slice none 0 0,.slice none 0 0,.int .i64 0]) ?_ 3 _ rfl;refine aZ (cs:=#[.int .i64 a0,.bool false,.slice none 0 0,.string (⟨#[]⟩:ByteArray),.string (⟨#[]⟩:ByteArray),.bool false,.slice none 0 0,.slice none 0 0,.int .i64 0]) ?_ 2 _ rfl;refine aZ (cs:=#[.int .i64 a0,.bool false,.slice none 0 0,.string (⟨#[]⟩:ByteArray),.string (⟨#[]⟩:ByteArray),.bool false,.slice none 0 0,.slice none 0 0,.int .i64 0]) ?_ 1 _ rfl;refine aZ (cs:=#[.int .i64 0,.bool false,.slice none 0 0,.string (⟨#[]⟩:ByteArray),.string (⟨#[]⟩:ByteArray),.bool false,.slice none 0 0,.slice none 0 0,.int .i64 0]) ?_ 0 _ rfl;exact bZ.out⟩,⟨Gf⟩⟩
  case round=>
   clear H'
   obtain ⟨lM,gP,j3,rfl,HA,qi,ke,fW,bZ,HB⟩:=hrel
   cases gk with
   |zero=>exact absurd HA.out (by simp [bX.l0])
   |succ k1=>
    have H:=HA.out
    clear HA
    simp only [bX.l0] at H
    by_cases VB:lM < (l2.length:Int)
    ·rw [if_pos VB] at H
     have abO:=decide_eq_true VB
     clear VB
     obtain ⟨c27,H⟩:=lO H
     have akl:=decide_eq_true c27
     clear c27
     obtain ⟨c28,H⟩:=lO H
     have akm:=decide_eq_true c28
     clear c28
     obtain ⟨RF,H⟩:=lO H
     have akn:=ah.mk RF
     clear RF
     obtain ⟨Jy,EC⟩:∃ y_:List (jM),y_=(gP ++ [(⟨(⟨nu ByteArray.empty l2 lM,(⟨#[99]⟩:ByteArray),false⟩:Fu),0,0,0⟩:jM)]):=⟨_,rfl⟩
     replace H:(bX.l0 k1 l2 (l2.length:Int) (wrap64 (lM + 1)) a0 false a1 (⟨#[98]⟩:ByteArray) false Jy 0)=some (r1,r2,r3,r4,r5,r6,r7,r8,r9):=by (rw [EC];with_reducible exact H)
     have U7:=ah.mk EC
     clear EC
     have H':=ah.mk H
     clear H
     have M4: 0≤(lM:Int):=of_decide_eq_true cj
     have M5:lM < (l2.length:Int):=of_decide_eq_true cj
     obtain ⟨akg,aeg,uS⟩:=Kd.j5 HR2.out lM M4 M5
     cases aeg
     replace uS:=(HB.out.cell (World.block_lt_of_cell? w _ uS)).trans uS
     replace M4:=eq_true M4
     replace M5:=eq_true M5
     have abA:=pO.out
     have abB:=eo.out
     have Qz:wr.cell? ⟨dI,0,none⟩=some (.int .i64 a0):=(af bZ.out 0).trans rfl
     have QA:wr.cell? ⟨dI,1,none⟩=some (.bool false):=(af bZ.out 1).trans rfl
     have QB:wr.cell? ⟨dI,2,none⟩=some (.slice none 0 0):=(af bZ.out 2).trans rfl
     have QC:wr.cell? ⟨dI,3,none⟩=some (.string a1):=(af bZ.out 3).trans rfl
     have QD:wr.cell? ⟨dI,4,none⟩=some (.string (⟨#[98]⟩:ByteArray)):=(af bZ.out 4).trans rfl
     have QE:wr.cell? ⟨dI,5,none⟩=some (.bool false):=(af bZ.out 5).trans rfl
     have ZU:wr.cell? ⟨dI,6,none⟩=some (j3):=(af bZ.out 6).trans rfl
     have ZV:wr.cell? ⟨dI,7,none⟩=some (.slice none 0 0):=(af bZ.out 7).trans rfl
     have ZW:wr.cell? ⟨dI,8,none⟩=some (.int .i64 0):=(af bZ.out 8).trans rfl
     have QF:=aa bZ.out 0
     have QG:=aa bZ.out 1
     have QH:=aa bZ.out 2
     have QI:=aa bZ.out 3
     have QJ:=aa bZ.out 4
     have QK:=aa bZ.out 5
     have ZX:=aa bZ.out 6
     have ZY:=aa bZ.out 7
     have ZZ:=aa bZ.out 8
     go_wp2_with (((with_reducible refine oG (b:= .append) (xs:=#[.tmp 26,.tmp 30]) rfl ?_);at_builtin;refine Kd.vW sM (w0:=w) w.heap.size rfl (.tmp 26) (.tmp 30) 32 37 (.agg #[(.string ⟨#[]⟩),(.string ⟨#[]⟩),(.bool false),(.int .u8 0),(.int .i64 0),(.int .i64 0)]) 64 rfl Tryz.underlying32 Mn rfl bC az j3 gP (⟨(⟨nu ByteArray.empty l2 lM,(⟨#[99]⟩:ByteArray),false⟩:Fu),0,0,0⟩:jM) [.string (nu ByteArray.empty l2 lM),.string (⟨#[99]⟩:ByteArray),.bool false,.int .u8 0,.int .i64 0,.int .i64 0] (fun _ =>True) (fun _ =>False) rfl rfl ?aP (fun _ hk=>hk.elim) ?aF ?aO ?aB ?aS ?aL ?_;(case aP=>exact Cz _ _ _ (⟨(⟨nu ByteArray.empty l2 lM,(⟨#[99]⟩:ByteArray),false⟩:Fu),0,0,0⟩:jM));(case aB=>exact aJ);(case aF=>exact (fun _ _ =>trivial));(case aO=>exact (by exact ke.out));(case aS=>exact (b7 aJ));(case aL=>have:=akn.out;omega);intro ayN xL ho hb hg hat;rw [← U7.out] at ho;replace fW:=ah.mk (fM (g:=gj) (o:= .cells #[.int .i64 0,.bool false,.slice none 0 0,.string (⟨#[]⟩:ByteArray),.string (⟨#[]⟩:ByteArray),.bool false,.slice none 0 0,.slice none 0 0,.int .i64 0] 34 (0,0)) rE hg (Kd.zk ke.out fW.out bC));replace bZ:=ah.mk (fM (g:=dI) (o:= .cells #[.int .i64 a0,.bool false,.slice none 0 0,.string a1,.string (⟨#[98]⟩:ByteArray),.bool false,j3,.slice none 0 0,.int .i64 0] 34 (0,0)) (by exact bZ.out) hg (Kd.zk ke.out bZ.out bC));replace HB:=ah.mk (hb);have Lt:=ah.mk (ho);clear ke;clear ho hb hg hat;obtain ⟨Jz,JA,aeh⟩:=Kd.dm Lt.out;subst aeh;have Zv:xL.cell? ⟨dI,0,none⟩=some (.int .i64 a0):=(af bZ.out 0).trans rfl;have Zw:xL.cell? ⟨dI,1,none⟩=some (.bool false):=(af bZ.out 1).trans rfl;have atQ:xL.cell? ⟨dI,2,none⟩=some (.slice none 0 0):=(af bZ.out 2).trans rfl;have atS:xL.cell? ⟨dI,3,none⟩=some (.string a1):=(af bZ.out 3).trans rfl;have atT:xL.cell? ⟨dI,4,none⟩=some (.string (⟨#[98]⟩:ByteArray)):=(af bZ.out 4).trans rfl;have atU:xL.cell? ⟨dI,5,none⟩=some (.bool false):=(af bZ.out 5).trans rfl;have atV:xL.cell? ⟨dI,6,none⟩=some (j3):=(af bZ.out 6).trans rfl;have atW:xL.cell? ⟨dI,7,none⟩=some (.slice none 0 0):=(af bZ.out 7).trans rfl;have atX:xL.cell? ⟨dI,8,none⟩=some (.int .i64 0):=(af bZ.out 8).trans rfl;have Zx:=aa bZ.out 0;have Zy:=aa bZ.out 1;have atY:=aa bZ.out 2;have atZ:=aa bZ.out 3;have at0:=aa bZ.out 4;have at1:=aa bZ.out 5;have at2:=aa bZ.out 6;have at3:=aa bZ.out 7;have at4:=aa bZ.out 8))
     go_roundg k1
     case measure=>have:=qi.out;omega
     case rel=>exact ⟨(wrap64 (lM + 1)),(Jy),(.slice Jz Jy.length JA),(by rfl),H',⟨lu⟩,⟨by exact Kd.dH (Kd.bw (p:=⟨dI,6,none⟩) (Kd.dD Lt.out bZ.out bC) (fun _ hk=>hk.2) (.slice Jz Jy.length JA)) (fun _ hk=>trivial)⟩,⟨by refine aU ?_ eo.out _;exact fW.out⟩,⟨by refine aZ (cs:=#[.int .i64 a0,.bool false,.slice none 0 0,.string a1,.string (⟨#[98]⟩:ByteArray),.bool false,j3,.slice none 0 0,.int .i64 0]) ?_ 6 _ rfl;exact bZ.out⟩,⟨Gf⟩⟩
    ·rw [if_neg VB] at H
     have abO:=decide_eq_false VB
     clear VB
     simp only [Option.some.injEq,Prod.mk.injEq] at H
     obtain ⟨rfl,rfl,rfl,rfl,rfl,rfl,rfl,rfl,rfl⟩:=H
     have aBP:=pO.out
     have aBQ:=eo.out
     have Z0:wr.cell? ⟨dI,0,none⟩=some (.int .i64 a0):=(af bZ.out 0).trans rfl
     have Z1:wr.cell? ⟨dI,1,none⟩=some (.bool false):=(af bZ.out 1).trans rfl
     have Z2:wr.cell? ⟨dI,2,none⟩=some (.slice none 0 0):=(af bZ.out 2).trans rfl
     have Z3:wr.cell? ⟨dI,3,none⟩=some (.string a1):=(af bZ.out 3).trans rfl
     have Z4:wr.cell? ⟨dI,4,none⟩=some (.string (⟨#[98]⟩:ByteArray)):=(af bZ.out 4).trans rfl
     have Z5:wr.cell? ⟨dI,5,none⟩=some (.bool false):=(af bZ.out 5).trans rfl
     have Z6:wr.cell? ⟨dI,6,none⟩=some (j3):=(af bZ.out 6).trans rfl
     have Z7:wr.cell? ⟨dI,7,none⟩=some (.slice none 0 0):=(af bZ.out 7).trans rfl
     have Z8:wr.cell? ⟨dI,8,none⟩=some (.int .i64 0):=(af bZ.out 8).trans rfl
     have Z9:=aa bZ.out 0
     have aaa:=aa bZ.out 1
     have aab:=aa bZ.out 2
     have aac:=aa bZ.out 3
     have aad:=aa bZ.out 4
     have aae:=aa bZ.out 5
     have aaf:=aa bZ.out 6
     have aag:=aa bZ.out 7
     have aah:=aa bZ.out 8
     have Hh:wr.cell? ⟨gj,0,none⟩=some (.int .i64 0):=(af fW.out 0).trans rfl
     have Hi:wr.cell? ⟨gj,1,none⟩=some (.bool false):=(af fW.out 1).trans rfl
     have Hj:wr.cell? ⟨gj,2,none⟩=some (.slice none 0 0):=(af fW.out 2).trans rfl
     have OE:wr.cell? ⟨gj,3,none⟩=some (.string (⟨#[]⟩:ByteArray)):=(af fW.out 3).trans rfl
     have OG:wr.cell? ⟨gj,4,none⟩=some (.string (⟨#[]⟩:ByteArray)):=(af fW.out 4).trans rfl
     have OH:wr.cell? ⟨gj,5,none⟩=some (.bool false):=(af fW.out 5).trans rfl
     have OI:wr.cell? ⟨gj,6,none⟩=some (.slice none 0 0):=(af fW.out 6).trans rfl
     have OJ:wr.cell? ⟨gj,7,none⟩=some (.slice none 0 0):=(af fW.out 7).trans rfl
     have OL:wr.cell? ⟨gj,8,none⟩=some (.int .i64 0):=(af fW.out 8).trans rfl
     have Hl:=aa fW.out 0
     have Ho:=aa fW.out 1
     have Hp:=aa fW.out 2
     have OM:=aa fW.out 3
     have OO:=aa fW.out 4
     have OP:=aa fW.out 5
     have OQ:=aa fW.out 6
     have OS:=aa fW.out 7
     have OT:=aa fW.out 8
     obtain ⟨ED,EE,aei⟩:=Kd.dm ke.out
     subst aei
     go_wp2
     refine bodyPost_ret (results_cell_row rfl _ _ gj 34 #[.int .i64 a0,.bool false,.slice none 0 0,.string a1,.string (⟨#[98]⟩:ByteArray),.bool false,.slice ED gP.length EE,.slice none 0 0,.int .i64 0] (0,0) _ rfl (by refine aZ (cs:=#[.int .i64 a0,.bool false,.slice none 0 0,.string a1,.string (⟨#[98]⟩:ByteArray),.bool false,.slice ED gP.length EE,.slice none 0 0,.int .i64 0]) ?_ 8 _ rfl;refine aZ (cs:=#[.int .i64 a0,.bool false,.slice none 0 0,.string a1,.string (⟨#[98]⟩:ByteArray),.bool false,.slice ED gP.length EE,.slice none 0 0,.int .i64 0]) ?_ 7 _ rfl;refine aZ (cs:=#[.int .i64 a0,.bool false,.slice none 0 0,.string a1,.string (⟨#[98]⟩:ByteArray),.bool false,.slice none 0 0,.slice none 0 0,.int .i64 0]) ?_ 6 _ rfl;refine aZ (cs:=#[.int .i64 a0,.bool false,.slice none 0 0,.string a1,.string (⟨#[98]⟩:ByteArray),.bool false,.slice none 0 0,.slice none 0 0,.int .i64 0]) ?_ 5 _ rfl;refine aZ (cs:=#[.int .i64 a0,.bool false,.slice none 0 0,.string a1,.string (⟨#[]⟩:ByteArray),.bool false,.slice none 0 0,.slice none 0 0,.int .i64 0]) ?_ 4 _ rfl;refine aZ (cs:=#[.int .i64 a0,.bool false,.slice none 0 0,.string (⟨#[]⟩:ByteArray),.string (⟨#[]⟩:ByteArray),.bool false,.slice none 0 0,.slice none 0 0,.int .i64 0]) ?_ 3 _ rfl;refine aZ (cs:=#[.int .i64 a0,.bool false,.slice none 0 0,.string (⟨#[]⟩:ByteArray),.string (⟨#[]⟩:ByteArray),.bool false,.slice none 0 0,.slice none 0 0,.int .i64 0]) ?_ 2 _ rfl;refine aZ (cs:=#[.int .i64 a0,.bool false,.slice none 0 0,.string (⟨#[]⟩:ByteArray),.string (⟨#[]⟩:ByteArray),.bool false,.slice none 0 0,.slice none 0 0,.int .i64 0]) ?_ 1 _ rfl;refine aZ (cs:=#[.int .i64 0,.bool false,.slice none 0 0,.string (⟨#[]⟩:ByteArray),.string (⟨#[]⟩:ByteArray),.bool false,.slice none 0 0,.slice none 0 0,.int .i64 0]) ?_ 0 _ rfl;exact fW.out) Tryz.underlying34 rfl aq) rfl ?_
     exact ⟨_,_,_,by rfl,rC,by exact Kd.dH (Kd.bw (p:=⟨gj,8,none⟩) (Kd.bw (p:=⟨gj,7,none⟩) (Kd.bw (p:=⟨gj,6,none⟩) (Kd.bw (p:=⟨gj,5,none⟩) (Kd.bw (p:=⟨gj,4,none⟩) (Kd.bw (p:=⟨gj,3,none⟩) (Kd.bw (p:=⟨gj,2,none⟩) (Kd.bw (p:=⟨gj,1,none⟩) (Kd.bw (p:=⟨gj,0,none⟩) (Kd.dD ke.out fW.out bC) (fun _ hk=>hk.2) (.int .i64 a0)) (fun _ hk=>hk.2) (.bool false)) (fun _ hk=>hk.2) (.slice none 0 0)) (fun _ hk=>hk.2) (.string a1)) (fun _ hk=>hk.2) (.string (⟨#[98]⟩:ByteArray))) (fun _ hk=>hk.2) (.bool false)) (fun _ hk=>hk.2) (.slice ED gP.length EE)) (fun _ hk=>hk.2) (.slice none 0 0)) (fun _ hk=>hk.2) (.int .i64 0)) (fun _ hk=>trivial),rC,NW⟩
def j4.f:Option (Int×(List (pE))):=some (1,([]:List (pE)))
theorem j4.calls (r1:Int) (r2:List (pE)) (w:World) (h:j4.f=some (r1,r2)):
 Calls Tryz.prog 16 #[] w fun e w'=>∃ SE:Value,e= .returned (.agg #[.int .i64 r1,SE])∧Kd.S Fw 34 w' w.heap.size (fun _ =>True) SE r2∧Below w.heap.size w w':=by
 have RI:=Tryz.underlying40
 have HB:=ah.mk (Below.refl w.heap.size w)
 have H:(some (1,([]:List (pE))))=some (r1,r2):=h
 clear h
 simp only [Option.some.injEq,Prod.mk.injEq] at H
 obtain ⟨rfl,rfl⟩:=H
 go_enter Tryz.func16,Tryz.ntmps16
 go_wp2_with (((with_reducible refine bp (N:=0) rfl ?_);refine br ?hg (N:=0) ?hd (cs:=#[.int .i64 0,.slice none 0 0]) (t:=40) ?hr ?_;(case hd=>rfl);(case hg=>rfl);(case hr=>(go_simp;done));intro Lu hg w1 bG hb;have Lv:=ah.mk (bG);have aBR:=ah.mk ((bF:w.heap.size≤Lu));have ako:=ah.mk ((bF:w.heap.size≤Lu));replace HB:=ah.mk (ay aJ hb);clear hb bG hg;have ayP:w1.cell? ⟨Lu,0,none⟩=some (.int .i64 0):=(af Lv.out 0).trans rfl;have ayQ:w1.cell? ⟨Lu,1,none⟩=some (.slice none 0 0):=(af Lv.out 1).trans rfl;have ayR:=aa Lv.out 0;have ayS:=aa Lv.out 1))
 refine bodyPost_ret (results_cell_row rfl _ _ Lu 40 #[.int .i64 1,.slice none 0 0] (0,0) _ rfl (by refine aZ (cs:=#[.int .i64 1,.slice none 0 0]) ?_ 1 _ rfl;refine aZ (cs:=#[.int .i64 0,.slice none 0 0]) ?_ 0 _ rfl;exact Lv.out) Tryz.underlying40 rfl aq) rfl ?_
 exact ⟨_,by rfl,by exact Kd.abe _ _ _ _ _,by repeat ((with_reducible first|exact HB.out|refine cC ?_ ako.out))⟩
def dg.l0:Nat→List Int→List (pE)→Int→Int→Option (List Int)
 | 0,_,_,_,_ =>none
 |k + 1,x3,x9,Dn,vM=>if vM < Dn then (if 0≤vM then (if vM < (x9.length:Int) then ((kT.f ((aj x9 vM).f0) ((aj x9 vM).f1.f0) ((aj x9 vM).f1.f1) ((aj x9 vM).f1.f2.f0) ((aj x9 vM).f1.f2.f1) ((aj x9 vM).f1.f2.f2) ((aj x9 vM).f2) ((aj x9 vM).f3) ((aj x9 vM).f4)).bind fun akp=>(if akp.1=true then (if x3.length < 17592186044416 then (dg.l0 k (x3 ++ [(aj x9 vM).f0]) x9 Dn (wrap64 (vM + 1))) else (none)) else (dg.l0 k x3 x9 Dn (wrap64 (vM + 1))))) else (none)) else (none)) else (some x3)
def dg.f (k:Nat) (bg:Int) (aI:List (pE)):Option (List Int):=dg.l0 k ([]:List Int) aI (aI.length:Int) 0
theorem dg.ey:∀ k,(∀ y0 y1 y2 y3,eZ (dg.l0 k y0 y1 y2 y3) (dg.l0 (k + 1) y0 y1 y2 y3))
 | 0=>fun _ _ _ _ r h=>by simp [dg.l0] at h
 |k + 1=>by
  have mH:=dg.ey k
  ·intro y0 y1 y2 y3
   unfold dg.l0
   repeat' (with_reducible first|exact mH _ _ _ _|exact eZ.refl _|refine eZ.ite ?_ ?_|refine eZ.bind ?_ (fun _ =>?_))
theorem dg.mono:∀ a0 a1 k,eZ (dg.f k a0 a1) (dg.f (k + 1) a0 a1):=by
 intro a0 a1 k
 have mH:=dg.ey k
 unfold dg.f
 repeat' (with_reducible exact mH _ _ _ _)
theorem dg.calls (k:Nat) (bg:Int) (jk:Option Addr) (ia:Nat) (aI:List (pE)) (r:List Int) (w:World) (nX:Kd.C Fw w jk aI.length aI) (nY:aI.length≤ia) (h:dg.f k bg aI=some r):
 Calls Tryz.prog 19 #[.agg #[.int .i64 bg,.slice jk aI.length ia]] w fun e w'=>∃ D5:Value,e= .returned (D5)∧Kd.R (Kd.int .i64) 3 w' w.heap.size (fun _ =>True) D5 r∧Below w.heap.size w w':=by
 have RI:=Tryz.underlying40
 have BW:=Tryz.underlying34
 have rI:=ah.mk nX
 have Ea:=ah.mk nY
 clear nX nY
 have HB:=ah.mk (Below.refl w.heap.size w)
 have H:(dg.l0 k ([]:List Int) aI (aI.length:Int) 0)=some r:=h
 clear h
 have H':=ah.mk H
 clear H
 go_enter Tryz.func19,Tryz.ntmps19
 go_wp2_with (((with_reducible refine bp (N:=1) rfl ?_);refine br ?hg (N:=1) ?hd (cs:=#[.int .i64 bg,.slice jk aI.length ia]) (t:=40) ?hr ?_;(case hd=>rfl);(case hg=>rfl);(case hr=>(go_simp;done));intro vI hg w2 bG hb;have sY:=ah.mk (bG);have aBS:=ah.mk ((bF:w.heap.size≤vI));have aBT:=ah.mk ((bF:w.heap.size≤vI));replace HB:=ah.mk (ay aJ hb);clear hb bG hg;have TN:w2.cell? ⟨vI,0,none⟩=some (.int .i64 bg):=(af sY.out 0).trans rfl;have TP:w2.cell? ⟨vI,1,none⟩=some (.slice jk aI.length ia):=(af sY.out 1).trans rfl;have TQ:=aa sY.out 0;have TR:=aa sY.out 1))
 go_loopg [3,11] k (fun kq v3 v11 w'=>∃ (R6:List Int) (cu:Int),v11= .int .i64 cu∧ah (dg.l0 kq R6 aI (aI.length:Int) cu=some r)∧ah (kq≤k)∧ah (Kd.R (Kd.int .i64) 3 w' w.heap.size (fun _ =>True) v3 R6)∧ah (w'.heap[vI]? =some (.cells #[.int .i64 bg,(.slice jk aI.length ia)] 40 (0,0)))∧ah (Below w.heap.size w w'))
 case atStart=>exact ⟨(([]:List Int)),(0),(by rfl),H',⟨Nat.le_refl _⟩,⟨rC⟩,⟨pP⟩,⟨aJ⟩⟩
 case round=>
  clear H'
  obtain ⟨R6,cu,rfl,HA,qi,Ak,sY,HB⟩:=hrel
  cases gk with
  |zero=>exact absurd HA.out (by simp [dg.l0])
  |succ k1=>
   have H:=HA.out
   clear HA
   simp only [dg.l0] at H
   by_cases c4:cu < (aI.length:Int)
   ·rw [if_pos c4] at H
    have mQ:=decide_eq_true c4
    clear c4
    obtain ⟨c5,H⟩:=lO H
    have p8:=decide_eq_true c5
    clear c5
    obtain ⟨c6,H⟩:=lO H
    have zH:=decide_eq_true c6
    clear c6
    obtain ⟨⟨t264,t265⟩,A7,H⟩:=bd_ H
    (try dsimp only at H)
    by_cases c8:t264=true
    ·subst c8
     rw [if_pos rfl] at H
     obtain ⟨c9,H⟩:=lO H
     have ayT:=ah.mk c9
     clear c9
     obtain ⟨akq,U8⟩:∃ y_:List Int,y_=(R6 ++ [(aj aI cu).f0]):=⟨_,rfl⟩
     replace H:(dg.l0 k1 akq aI (aI.length:Int) (wrap64 (cu + 1)))=some r:=by (rw [U8];with_reducible exact H)
     have akr:=ah.mk U8
     clear U8
     have H':=ah.mk H
     clear H
     have M6: 0≤(cu:Int):=of_decide_eq_true cj
     have M7:cu < (aI.length:Int):=of_decide_eq_true cj
     obtain ⟨QL,ot,ou,sD,sF,tR,tS,aej,uT,uU,uV,uW,uX,uY,uZ,u9,vk,zS,zT,zU,zV,zW,zX⟩:=qw rI.out cu M6 M7
     cases aej
     replace uT:=(HB.out.cell (World.block_lt_of_cell? w _ uT)).trans uT
     replace uU:=(HB.out.cell (World.block_lt_of_cell? w _ uU)).trans uU
     replace uV:=(HB.out.cell (World.block_lt_of_cell? w _ uV)).trans uV
     replace uW:=(HB.out.cell (World.block_lt_of_cell? w _ uW)).trans uW
     replace uX:=(HB.out.cell (World.block_lt_of_cell? w _ uX)).trans uX
     replace uY:=(HB.out.cell (World.block_lt_of_cell? w _ uY)).trans uY
     replace uZ:=(HB.out.cell (World.block_lt_of_cell? w _ uZ)).trans uZ
     replace u9:=(HB.out.cell (World.block_lt_of_cell? w _ u9)).trans u9
     replace vk:=(HB.out.cell (World.block_lt_of_cell? w _ vk)).trans vk
     have JB:=ah.mk zT
     have JC:=ah.mk zS
     clear zT zS
     have JD:=ah.mk zV
     have JE:=ah.mk zU
     clear zV zU
     have JF:=ah.mk zX
     have JG:=ah.mk zW
     clear zX zW
     replace M6:=eq_true M6
     replace M7:=eq_true M7
     go_wp2_with (first|((with_reducible refine bp (N:=5) rfl ?_);refine br ?hg (N:=5) ?hd (cs:=#[.int .i64 0,.bool false,.slice none 0 0,.string (⟨#[]⟩:ByteArray),.string (⟨#[]⟩:ByteArray),.bool false,.slice none 0 0,.slice none 0 0,.int .i64 0]) (t:=34) ?hr ?_;(case hd=>rfl);(case hg=>rfl);(case hr=>(go_simp;done));intro gA hg pF bG hb;replace Ak:=ah.mk (Kd.bH (by exact Ak.out) hb);have fE:=ah.mk (bG);have aks:=ah.mk ((bF:w.heap.size≤gA));have aa7:=ah.mk ((bF:w.heap.size≤gA));replace HB:=ah.mk (ay aJ hb);have kJ:=ah.mk ((by rw [hg];exact Nat.ne_of_lt (dQ pP):vI≠gA));have Bc:=ah.mk ((by rw [hg];exact Nat.ne_of_gt (dQ pP):gA≠vI));replace sY:=ah.mk (aA pP hb);clear hb bG hg;have aBU:=Bc.out;have aBV:=kJ.out;have xu:pF.cell? ⟨gA,0,none⟩=some (.int .i64 0):=(af fE.out 0).trans rfl;have xw:pF.cell? ⟨gA,1,none⟩=some (.bool false):=(af fE.out 1).trans rfl;have zu:pF.cell? ⟨gA,2,none⟩=some (.slice none 0 0):=(af fE.out 2).trans rfl;have CB:pF.cell? ⟨gA,3,none⟩=some (.string (⟨#[]⟩:ByteArray)):=(af fE.out 3).trans rfl;have CC:pF.cell? ⟨gA,4,none⟩=some (.string (⟨#[]⟩:ByteArray)):=(af fE.out 4).trans rfl;have CD:pF.cell? ⟨gA,5,none⟩=some (.bool false):=(af fE.out 5).trans rfl;have CE:pF.cell? ⟨gA,6,none⟩=some (.slice none 0 0):=(af fE.out 6).trans rfl;have CF:pF.cell? ⟨gA,7,none⟩=some (.slice none 0 0):=(af fE.out 7).trans rfl;have CG:pF.cell? ⟨gA,8,none⟩=some (.int .i64 0):=(af fE.out 8).trans rfl;have xx:=aa fE.out 0;have xy:=aa fE.out 1;have zw:=aa fE.out 2;have CH:=aa fE.out 3;have CI:=aa fE.out 4;have CJ:=aa fE.out 5;have CK:=aa fE.out 6;have CL:=aa fE.out 7;have CM:=aa fE.out 8)|((with_reducible refine bK (f:=61) rfl ?_);refine dB (some 17) rfl rfl Tryz.func61 aq rfl #[.agg #[.int .i64 ((aj aI cu).f0),.bool ((aj aI cu).f1.f0),.slice ot ((aj aI cu).f1.f1).length ou,.string ((aj aI cu).f1.f2.f0),.string ((aj aI cu).f1.f2.f1),.bool ((aj aI cu).f1.f2.f2),.slice sD ((aj aI cu).f2).length sF,.slice tR ((aj aI cu).f3).length tS,.int .i64 ((aj aI cu).f4)]] rfl dK ?_;(with_reducible refine (kT.calls ((aj aI cu).f0) ((aj aI cu).f1.f0) _ _ ((aj aI cu).f1.f1) ((aj aI cu).f1.f2.f0) ((aj aI cu).f1.f2.f1) ((aj aI cu).f1.f2.f2) _ _ ((aj aI cu).f2) _ _ ((aj aI cu).f3) ((aj aI cu).f4) true t265 _ ?bn ?bN ?cW ?fD ?gK ?gL A7.out).mono ?_);(case bn=>exact Kd.bQ JB.out vO);(case bN=>exact JC.out);(case cW=>exact Kd.bQ JD.out vO);(case fD=>exact JE.out);(case gK=>exact Kd.bQ JF.out vO);(case gL=>exact JG.out);rintro e kI ⟨rfl,hb⟩;refine ⟨_,rfl,?_⟩;replace Ak:=ah.mk (Kd.bH SL hb);replace sY:=ah.mk (aA (g:=vI) (o:= .cells #[.int .i64 bg,.slice (some QL) aI.length ia] 40 (0,0)) SP hb);replace fE:=ah.mk (aA (g:=gA) (o:= .cells #[.int .i64 ((aj aI cu).f0),.bool ((aj aI cu).f1.f0),.slice ot ((aj aI cu).f1.f1).length ou,.string ((aj aI cu).f1.f2.f0),.string ((aj aI cu).f1.f2.f1),.bool ((aj aI cu).f1.f2.f2),.slice sD ((aj aI cu).f2).length sF,.slice tR ((aj aI cu).f3).length tS,.int .i64 ((aj aI cu).f4)] 34 (0,0)) SI hb);replace HB:=ah.mk (ay vO hb);(try clear hb);have zx:kI.cell? ⟨gA,0,none⟩=some (.int .i64 ((aj aI cu).f0)):=(af fE.out 0).trans rfl;have zy:kI.cell? ⟨gA,1,none⟩=some (.bool ((aj aI cu).f1.f0)):=(af fE.out 1).trans rfl;have CN:kI.cell? ⟨gA,2,none⟩=some (.slice ot ((aj aI cu).f1.f1).length ou):=(af fE.out 2).trans rfl;have CO:kI.cell? ⟨gA,3,none⟩=some (.string ((aj aI cu).f1.f2.f0)):=(af fE.out 3).trans rfl;have CP:kI.cell? ⟨gA,4,none⟩=some (.string ((aj aI cu).f1.f2.f1)):=(af fE.out 4).trans rfl;have CQ:kI.cell? ⟨gA,5,none⟩=some (.bool ((aj aI cu).f1.f2.f2)):=(af fE.out 5).trans rfl;have GX:kI.cell? ⟨gA,6,none⟩=some (.slice sD ((aj aI cu).f2).length sF):=(af fE.out 6).trans rfl;have GY:kI.cell? ⟨gA,7,none⟩=some (.slice tR ((aj aI cu).f3).length tS):=(af fE.out 7).trans rfl;have GZ:kI.cell? ⟨gA,8,none⟩=some (.int .i64 ((aj aI cu).f4)):=(af fE.out 8).trans rfl;have zz:=aa fE.out 0;have zA:=aa fE.out 1;have CR:=aa fE.out 2;have CS:=aa fE.out 3;have CT:=aa fE.out 4;have CU:=aa fE.out 5;have G0:=aa fE.out 6;have G1:=aa fE.out 7;have G3:=aa fE.out 8)|((with_reducible refine oG (b:= .append) (xs:=#[.tmp 21,.tmp 24]) rfl ?_);at_builtin;refine Kd.vW (Kd.int .i64) (w0:=w) w.heap.size rfl (.tmp 21) (.tmp 24) 25 3 (.int .i64 0) 8 rfl Tryz.underlying25 info3 rfl bC az u3 R6 ((aj aI cu).f0) [.int .i64 ((aj aI cu).f0)] (fun _ =>True) (fun _ =>False) rfl rfl ?aP (fun _ hk=>hk.elim) ?aF ?aO ?aB ?aS ?aL ?_;(case aP=>exact rfl);(case aB=>exact aJ);(case aF=>exact (fun _ _ =>trivial));(case aO=>exact (by exact Ak.out));(case aS=>exact (b7 aJ));(case aL=>have:=ayT.out;omega);intro aE0 vF ho hb hg hat;rw [← akr.out] at ho;replace sY:=ah.mk (fM (g:=vI) (o:= .cells #[.int .i64 bg,.slice (some QL) aI.length ia] 40 (0,0)) pP hg (Kd.zk Ak.out sY.out bC));replace fE:=ah.mk (fM (g:=gA) (o:= .cells #[.int .i64 ((aj aI cu).f0),.bool ((aj aI cu).f1.f0),.slice ot ((aj aI cu).f1.f1).length ou,.string ((aj aI cu).f1.f2.f0),.string ((aj aI cu).f1.f2.f1),.bool ((aj aI cu).f1.f2.f2),.slice sD ((aj aI cu).f2).length sF,.slice tR ((aj aI cu).f3).length tS,.int .i64 ((aj aI cu).f4)] 34 (0,0)) (by exact fE.out) hg (Kd.zk Ak.out fE.out bC));replace HB:=ah.mk (hb);have akt:=ah.mk (ho);clear Ak;clear ho hb hg hat))
     go_roundg k1
     case measure=>have:=qi.out;omega
     case rel=>exact ⟨(akq),(wrap64 (cu + 1)),(by rfl),H',⟨lu⟩,⟨by exact akt.out⟩,⟨pP⟩,⟨aJ⟩⟩
    ·replace c8:=Bool.eq_false_iff.mpr c8
     subst c8
     rw [if_neg (show ¬ (false=true) by decide)] at H
     have H':=ah.mk H
     clear H
     have M6: 0≤(cu:Int):=of_decide_eq_true cj
     have M7:cu < (aI.length:Int):=of_decide_eq_true cj
     obtain ⟨QL,ot,ou,sD,sF,tR,tS,aej,uT,uU,uV,uW,uX,uY,uZ,u9,vk,zS,zT,zU,zV,zW,zX⟩:=qw rI.out cu M6 M7
     cases aej
     replace uT:=(HB.out.cell (World.block_lt_of_cell? w _ uT)).trans uT
     replace uU:=(HB.out.cell (World.block_lt_of_cell? w _ uU)).trans uU
     replace uV:=(HB.out.cell (World.block_lt_of_cell? w _ uV)).trans uV
     replace uW:=(HB.out.cell (World.block_lt_of_cell? w _ uW)).trans uW
     replace uX:=(HB.out.cell (World.block_lt_of_cell? w _ uX)).trans uX
     replace uY:=(HB.out.cell (World.block_lt_of_cell? w _ uY)).trans uY
     replace uZ:=(HB.out.cell (World.block_lt_of_cell? w _ uZ)).trans uZ
     replace u9:=(HB.out.cell (World.block_lt_of_cell? w _ u9)).trans u9
     replace vk:=(HB.out.cell (World.block_lt_of_cell? w _ vk)).trans vk
     have JB:=ah.mk zT
     have JC:=ah.mk zS
     clear zT zS
     have JD:=ah.mk zV
     have JE:=ah.mk zU
     clear zV zU
     have JF:=ah.mk zX
     have JG:=ah.mk zW
     clear zX zW
     replace M6:=eq_true M6
     replace M7:=eq_true M7
     go_wp2_with (first|((with_reducible refine bp (N:=5) rfl ?_);refine br ?hg (N:=5) ?hd (cs:=#[.int .i64 0,.bool false,.slice none 0 0,.string (⟨#[]⟩:ByteArray),.string (⟨#[]⟩:ByteArray),.bool false,.slice none 0 0,.slice none 0 0,.int .i64 0]) (t:=34) ?hr ?_;(case hd=>rfl);(case hg=>rfl);(case hr=>(go_simp;done));intro gA hg tD bG hb;replace Ak:=ah.mk (Kd.bH (by exact Ak.out) hb);have fE:=ah.mk (bG);have aks:=ah.mk ((bF:w.heap.size≤gA));have aa7:=ah.mk ((bF:w.heap.size≤gA));replace HB:=ah.mk (ay aJ hb);have kJ:=ah.mk ((by rw [hg];exact Nat.ne_of_lt (dQ pP):vI≠gA));have Bc:=ah.mk ((by rw [hg];exact Nat.ne_of_gt (dQ pP):gA≠vI));replace sY:=ah.mk (aA pP hb);clear hb bG hg;have Uy:=Bc.out;have Uz:=kJ.out;have zD:tD.cell? ⟨gA,0,none⟩=some (.int .i64 0):=(af fE.out 0).trans rfl;have zE:tD.cell? ⟨gA,1,none⟩=some (.bool false):=(af fE.out 1).trans rfl;have C3:tD.cell? ⟨gA,2,none⟩=some (.slice none 0 0):=(af fE.out 2).trans rfl;have C4:tD.cell? ⟨gA,3,none⟩=some (.string (⟨#[]⟩:ByteArray)):=(af fE.out 3).trans rfl;have C5:tD.cell? ⟨gA,4,none⟩=some (.string (⟨#[]⟩:ByteArray)):=(af fE.out 4).trans rfl;have G5:tD.cell? ⟨gA,5,none⟩=some (.bool false):=(af fE.out 5).trans rfl;have Ol:tD.cell? ⟨gA,6,none⟩=some (.slice none 0 0):=(af fE.out 6).trans rfl;have Om:tD.cell? ⟨gA,7,none⟩=some (.slice none 0 0):=(af fE.out 7).trans rfl;have Oo:tD.cell? ⟨gA,8,none⟩=some (.int .i64 0):=(af fE.out 8).trans rfl;have zF:=aa fE.out 0;have zG:=aa fE.out 1;have C6:=aa fE.out 2;have C7:=aa fE.out 3;have C8:=aa fE.out 4;have G6:=aa fE.out 5;have Oq:=aa fE.out 6;have Ot:=aa fE.out 7;have Ou:=aa fE.out 8)|((with_reducible refine bK (f:=61) rfl ?_);refine dB (some 17) rfl rfl Tryz.func61 aq rfl #[.agg #[.int .i64 ((aj aI cu).f0),.bool ((aj aI cu).f1.f0),.slice ot ((aj aI cu).f1.f1).length ou,.string ((aj aI cu).f1.f2.f0),.string ((aj aI cu).f1.f2.f1),.bool ((aj aI cu).f1.f2.f2),.slice sD ((aj aI cu).f2).length sF,.slice tR ((aj aI cu).f3).length tS,.int .i64 ((aj aI cu).f4)]] rfl dK ?_;(with_reducible refine (kT.calls ((aj aI cu).f0) ((aj aI cu).f1.f0) _ _ ((aj aI cu).f1.f1) ((aj aI cu).f1.f2.f0) ((aj aI cu).f1.f2.f1) ((aj aI cu).f1.f2.f2) _ _ ((aj aI cu).f2) _ _ ((aj aI cu).f3) ((aj aI cu).f4) false t265 _ ?bn ?bN ?cW ?fD ?gK ?gL A7.out).mono ?_);(case bn=>exact Kd.bQ JB.out vO);(case bN=>exact JC.out);(case cW=>exact Kd.bQ JD.out vO);(case fD=>exact JE.out);(case gK=>exact Kd.bQ JF.out vO);(case gL=>exact JG.out);rintro e KV ⟨rfl,hb⟩;refine ⟨_,rfl,?_⟩;replace Ak:=ah.mk (Kd.bH SL hb);replace sY:=ah.mk (aA (g:=vI) (o:= .cells #[.int .i64 bg,.slice (some QL) aI.length ia] 40 (0,0)) SP hb);replace fE:=ah.mk (aA (g:=gA) (o:= .cells #[.int .i64 ((aj aI cu).f0),.bool ((aj aI cu).f1.f0),.slice ot ((aj aI cu).f1.f1).length ou,.string ((aj aI cu).f1.f2.f0),.string ((aj aI cu).f1.f2.f1),.bool ((aj aI cu).f1.f2.f2),.slice sD ((aj aI cu).f2).length sF,.slice tR ((aj aI cu).f3).length tS,.int .i64 ((aj aI cu).f4)] 34 (0,0)) SI hb);replace HB:=ah.mk (ay vO hb);(try clear hb)))
     go_roundg k1
     case measure=>have:=qi.out;omega
     case rel=>exact ⟨(R6),(wrap64 (cu + 1)),(by rfl),H',⟨lu⟩,⟨by exact Ak.out⟩,⟨pP⟩,⟨aJ⟩⟩
   ·rw [if_neg c4] at H
    have mQ:=decide_eq_false c4
    clear c4
    obtain rfl:=Option.some.inj H
    go_wp2
    go_ret
    exact ⟨_,by rfl,by exact Ak.out,aJ⟩
end Go.Proofs.YtbjjaaodfbjkfaaGreatDoor.mU
