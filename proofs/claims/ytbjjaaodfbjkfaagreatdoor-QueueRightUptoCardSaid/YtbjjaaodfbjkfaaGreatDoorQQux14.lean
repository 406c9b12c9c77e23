import Derived.Test.YtbjjaaodfbjkfaaGreatDoorESlim
import Derived.Test.YtbjjaaodfbjkfaaGreatDoorESettled
set_option maxHeartbeats 8000000
set_option maxRecDepth 100000
namespace Go.Proofs.YtbjjaaodfbjkfaaGreatDoor.mN
open Go.RowKit Go.Proofs.YtbjjaaodfbjkfaaGreatDoor.xV Go.Proofs.ak.bQ Go.Proofs.ak.dA Go.Proofs.ak.cX
attribute [local go_sem] jc jd j4 j5 gU gV je jf
set_option linter.unusedVariables false
set_option linter.unusedSimpArgs false
def bY.l0:Nat→List ByteArray→Int→Int→Int→Bool→ByteArray→ByteArray→Bool→List (jz)→Int→Option (Int×Bool×List ByteArray×ByteArray×ByteArray×Bool×(List (jz))×List Int×Int)
 | 0,_,_,_,_,_,_,_,_,_,_ =>none
 |k + 1,x19,RJ,x21,PG,PI,PJ,PK,PL,IL,PM=>if x21 < RJ then (if 0≤x21 then (if x21 < (x19.length:Int) then (if IL.length < 2199023255552 then (bY.l0 k x19 RJ (wrap64 (x21 + 1)) PG PI PJ PK PL (IL ++ [(⟨(⟨nj ByteArray.empty x19 x21,(⟨#[99]⟩:ByteArray),false⟩:E2),0,0,0⟩:jz)]) PM) else (none)) else (none)) else (none)) else (some (PG,PI,([]:List ByteArray),PJ,PK,PL,IL,([]:List Int),PM))
def bY.f (k:Nat) (a0:Int) (a1:ByteArray) (l2:List ByteArray):Option (Int×Bool×List ByteArray×ByteArray×ByteArray×Bool×(List (jz))×List Int×Int):=if a1.toList=([]:List UInt8) then (bY.l0 k l2 (l2.length:Int) 0 a0 true (⟨#[]⟩:ByteArray) (⟨#[]⟩:ByteArray) false ([]:List (jz)) 0) else (bY.l0 k l2 (l2.length:Int) 0 a0 false a1 (⟨#[98]⟩:ByteArray) false ([]:List (jz)) 0)
theorem bY.ey:∀ k,(∀ y0 y1 y2 y3 y4 y5 y6 y7 y8 y9,eY (bY.l0 k y0 y1 y2 y3 y4 y5 y6 y7 y8 y9) (bY.l0 (k + 1) y0 y1 y2 y3 y4 y5 y6 y7 y8 y9))
 | 0=>fun _ _ _ _ _ _ _ _ _ _ r h=>by simp [bY.l0] at h
 |k + 1=>by
  have mC:=bY.ey k
  ·intro y0 y1 y2 y3 y4 y5 y6 y7 y8 y9
   unfold bY.l0
   repeat' (with_reducible first|exact mC _ _ _ _ _ _ _ _ _ _|exact eY.refl _|refine eY.ite ?_ ?_)
theorem bY.mono:∀ a0 a1 a2 k,eY (bY.f k a0 a1 a2) (bY.f (k + 1) a0 a1 a2):=by
 intro a0 a1 a2 k
 have mC:=bY.ey k
 unfold bY.f
 repeat' (with_reducible first|exact mC _ _ _ _ _ _ _ _ _ _|refine eY.ite ?_ ?_)
theorem bY.calls (k:Nat) (a0:Int) (a1:ByteArray) (A2:Option Addr) (c2:Nat) (l2:List ByteArray) (r1:Int) (r2:Bool) (r3:List ByteArray) (r4:ByteArray) (r5:ByteArray) (r6:Bool) (r7:List (jz)) (r8:List Int) (r9:Int) (w:World) (hr2:Kd.C Kd.string w A2 l2.length l2) (hc2:l2.length≤c2) (h:bY.f k a0 a1 l2=some (r1,r2,r3,r4,r5,r6,r7,r8,r9)):
 Calls Tryz.prog 14 #[.int .i64 a0,.string a1,.slice A2 l2.length c2] w fun e w'=>∃ Yo QI v7_:Value,e= .returned (.agg #[.int .i64 r1,.bool r2,Yo,.string r4,.string r5,.bool r6,QI,v7_,.int .i64 r9])∧Kd.R Kd.string 9 w' w.heap.size (fun _ =>True) Yo r3∧Kd.R tq 37 w' w.heap.size (fun _ =>True) QI r7∧Kd.R (Kd.int .u8) 5 w' w.heap.size (fun _ =>True) v7_ r8∧Below w.heap.size w w':=by
 have BD:=Tryz.underlying34
 have JW:=Tryz.underlying29
 have VA:=Tryz.underlying31
 have LM:=Tryz.underlying37
 have HR2:=ah.mk hr2
 have HC2:=ah.mk hc2
 clear hr2 hc2
 have HB:=ah.mk (Below.refl w.heap.size w)
 have H:(if a1.toList=([]:List UInt8) then (bY.l0 k l2 (l2.length:Int) 0 a0 true (⟨#[]⟩:ByteArray) (⟨#[]⟩:ByteArray) false ([]:List (jz)) 0) else (bY.l0 k l2 (l2.length:Int) 0 a0 false a1 (⟨#[98]⟩:ByteArray) false ([]:List (jz)) 0))=some (r1,r2,r3,r4,r5,r6,r7,r8,r9):=h
 clear h
 by_cases c4:a1.toList=([]:List UInt8)
 ·rw [if_pos c4] at H
  have mo:=beq_iff_eq.mpr c4
  have Aj:=bne_eq_false_iff_eq.mpr c4
  clear c4
  have H':=ah.mk H
  clear H
  go_enter Tryz.func14,Tryz.ntmps14
  go_wp2_with (first|((with_reducible refine bq (N:=6) rfl ?_);refine br ?hg (N:=6) ?hd (cs:=#[.int .i64 0,.bool false,.slice none 0 0,.string (⟨#[]⟩:ByteArray),.string (⟨#[]⟩:ByteArray),.bool false,.slice none 0 0,.slice none 0 0,.int .i64 0]) (t:=34) ?hr ?_;(case hd=>rfl);(case hg=>rfl);(case hr=>(go_simp;done));intro gv hg w5 bJ hb;have fY:=ah.mk (bJ);have aiX:=ah.mk ((bI:w.heap.size≤gv));have Z1:=ah.mk ((bI:w.heap.size≤gv));replace HB:=ah.mk (ay aJ hb);clear hb bJ hg)|((with_reducible refine bq (N:=7) rfl ?_);refine br ?hg (N:=7) ?hd (cs:=#[.int .i64 0,.bool false,.slice none 0 0,.string (⟨#[]⟩:ByteArray),.string (⟨#[]⟩:ByteArray),.bool false,.slice none 0 0,.slice none 0 0,.int .i64 0]) (t:=34) ?hr ?_;(case hd=>rfl);(case hg=>rfl);(case hr=>(go_simp;done));intro dJ hg w6 bJ hb;have b9:=ah.mk (bJ);have aiY:=ah.mk ((bI:w.heap.size≤dJ));have Z0:=ah.mk ((bI:w.heap.size≤dJ));replace HB:=ah.mk (ay aJ hb);have dZ:=ah.mk ((by rw [hg];exact Nat.ne_of_lt (dQ rC):gv≠dJ));have pK:=ah.mk ((by rw [hg];exact Nat.ne_of_gt (dQ rC):dJ≠gv));replace fY:=ah.mk (az rC hb);clear hb bJ hg;have agq:=pK.out;have agr:=dZ.out;have Dv:w6.cell? ⟨dJ,0,none⟩=some (.int .i64 0):=(af b9.out 0).trans rfl;have Dw:w6.cell? ⟨dJ,1,none⟩=some (.bool false):=(af b9.out 1).trans rfl;have S8:w6.cell? ⟨dJ,2,none⟩=some (.slice none 0 0):=(af b9.out 2).trans rfl;have acv:w6.cell? ⟨dJ,3,none⟩=some (.string (⟨#[]⟩:ByteArray)):=(af b9.out 3).trans rfl;have acw:w6.cell? ⟨dJ,4,none⟩=some (.string (⟨#[]⟩:ByteArray)):=(af b9.out 4).trans rfl;have acy:w6.cell? ⟨dJ,5,none⟩=some (.bool false):=(af b9.out 5).trans rfl;have acz:w6.cell? ⟨dJ,6,none⟩=some (.slice none 0 0):=(af b9.out 6).trans rfl;have acA:w6.cell? ⟨dJ,7,none⟩=some (.slice none 0 0):=(af b9.out 7).trans rfl;have acB:w6.cell? ⟨dJ,8,none⟩=some (.int .i64 0):=(af b9.out 8).trans rfl;have Dx:=aa b9.out 0;have Dy:=aa b9.out 1;have S9:=aa b9.out 2;have acC:=aa b9.out 3;have acD:=aa b9.out 4;have acE:=aa b9.out 5;have acF:=aa b9.out 6;have acG:=aa b9.out 7;have acH:=aa b9.out 8))
  go_loopg [21] k (fun kq v21 w'=>∃ (lF:Int) (gL:List (jz)) (jN:Value),v21= .int .i64 lF∧ah (bY.l0 kq l2 (l2.length:Int) lF a0 true (⟨#[]⟩:ByteArray) (⟨#[]⟩:ByteArray) false gL 0=some (r1,r2,r3,r4,r5,r6,r7,r8,r9))∧ah (kq≤k)∧ah (Kd.R tq 37 w' w.heap.size (fun _ =>True) jN gL)∧ah (w'.heap[gv]? =some (.cells #[.int .i64 0,.bool false,(.slice none 0 0),.string (⟨#[]⟩:ByteArray),.string (⟨#[]⟩:ByteArray),.bool false,(.slice none 0 0),(.slice none 0 0),.int .i64 0] 34 (0,0)))∧ah (w'.heap[dJ]? =some (.cells #[.int .i64 a0,.bool true,(.slice none 0 0),.string (⟨#[]⟩:ByteArray),.string (⟨#[]⟩:ByteArray),.bool false,jN,(.slice none 0 0),.int .i64 0] 34 (0,0)))∧ah (Below w.heap.size w w'))
  case atStart=>exact ⟨(0),(([]:List (jz))),(.slice none 0 0),(by rfl),H',⟨Nat.le_refl _⟩,⟨rA⟩,⟨by refine aW ?_ dZ.out _;refine aW ?_ dZ.out _;refine aW ?_ dZ.out _;refine aW ?_ dZ.out _;refine aW ?_ dZ.out _;refine aW ?_ dZ.out _;refine aW ?_ dZ.out _;refine aW ?_ dZ.out _;refine aW ?_ dZ.out _;refine aW ?_ dZ.out _;refine aW ?_ dZ.out _;refine aW ?_ dZ.out _;refine aW ?_ dZ.out _;refine aW ?_ dZ.out _;exact fY.out⟩,⟨by refine aZ (cs:=#[.int .i64 a0,.bool true,.slice none 0 0,.string (⟨#[]⟩:ByteArray),.string (⟨#[]⟩:ByteArray),.bool false,.slice none 0 0,.slice none 0 0,.int .i64 0]) ?_ 5 _ rfl;refine aZ (cs:=#[.int .i64 a0,.bool true,.slice none 0 0,.string (⟨#[]⟩:ByteArray),.string (⟨#[98]⟩:ByteArray),.bool false,.slice none 0 0,.slice none 0 0,.int .i64 0]) ?_ 4 _ rfl;refine aZ (cs:=#[.int .i64 a0,.bool true,.slice none 0 0,.string a1,.string (⟨#[98]⟩:ByteArray),.bool false,.slice none 0 0,.slice none 0 0,.int .i64 0]) ?_ 3 _ rfl;refine aZ (cs:=#[.int .i64 a0,.bool true,.slice none 0 0,.string a1,.string (⟨#[98]⟩:ByteArray),.bool false,.slice none 0 0,.slice none 0 0,.int .i64 0]) ?_ 2 _ rfl;refine aZ (cs:=#[.int .i64 a0,.bool false,.slice none 0 0,.string a1,.string (⟨#[98]⟩:ByteArray),.bool false,.slice none 0 0,.slice none 0 0,.int .i64 0]) ?_ 1 _ rfl;refine aZ (cs:=#[.int .i64 a0,.bool false,.slice none 0 0,.string a1,.string (⟨#[98]⟩:ByteArray),.bool false,.slice none 0 0,.slice none 0 0,.int .i64 0]) ?_ 8 _ rfl;refine aZ (cs:=#[.int .i64 a0,.bool false,.slice none 0 0,.string a1,.string (⟨#[98]⟩:ByteArray),.bool false,.slice none 0 0,.slice none 0 0,.int .i64 0]) ?_ 7 _ rfl;refine aZ (cs:=#[.int .i64 a0,.bool false,.slice none 0 0,.string a1,.string (⟨#[98]⟩:ByteArray),.bool false,.slice none 0 0,.slice none 0 0,.int .i64 0]) ?_ 6 _ rfl;refine aZ (cs:=#[.int .i64 a0,.bool false,.slice none 0 0,.string a1,.string (⟨#[98]⟩:ByteArray),.bool false,.slice none 0 0,.slice none 0 0,.int .i64 0]) ?_ 5 _ rfl;refine aZ (cs:=#[.int .i64 a0,.bool false,.slice none 0 0,.string a1,.string (⟨#[]⟩:ByteArray),.bool false,.slice none 0 0,.slice none 0 0,.int .i64 0]) ?_ 4 _ rfl;refine aZ (cs:=#[.int .i64 a0,.bool false,.slice none 0 0,.string (⟨#[]⟩:ByteArray),.string (⟨#[]⟩:ByteArray),.bool false,.slice none 0 0,.slice none 0 0,.int .i64 0]) ?_ 3 _ rfl;refine aZ (cs:=#[.int .i64 a0,.bool false,.slice none 0 0,.string (⟨#[]⟩:ByteArray),.string (⟨#[]⟩:ByteArray),.bool false,.slice none 0 0,.slice none 0 0,.int .i64 0]) ?_ 2 _ rfl;refine aZ (cs:=#[.int .i64 a0,.bool false,.slice none 0 0,.string (⟨#[]⟩:ByteArray),.string (⟨#[]⟩:ByteArray),.bool false,.slice none 0 0,.slice none 0 0,.int .i64 0]) ?_ 1 _ rfl;refine aZ (cs:=#[.int .i64 0,.bool false,.slice none 0 0,.string (⟨#[]⟩:ByteArray),.string (⟨#[]⟩:ByteArray),.bool false,.slice none 0 0,.slice none 0 0,.int .i64 0]) ?_ 0 _ rfl;exact b9.out⟩,⟨FJ⟩⟩
  case round=>
   clear H'
   obtain ⟨lF,gL,jN,rfl,HA,qi,jQ,fY,b9,HB⟩:=hrel
   cases gk with
   |zero=>exact absurd HA.out (by simp [bY.l0])
   |succ k1=>
    have H:=HA.out
    clear HA
    simp only [bY.l0] at H
    by_cases c9:lF < (l2.length:Int)
    ·rw [if_pos c9] at H
     have SY:=decide_eq_true c9
     clear c9
     obtain ⟨c10,H⟩:=lJ H
     have E6:=decide_eq_true c10
     clear c10
     obtain ⟨c11,H⟩:=lJ H
     have DA:=decide_eq_true c11
     clear c11
     obtain ⟨c12,H⟩:=lJ H
     have aiZ:=ah.mk c12
     clear c12
     obtain ⟨IM,Ej⟩:∃ y_:List (jz),y_=(gL ++ [(⟨(⟨nj ByteArray.empty l2 lF,(⟨#[99]⟩:ByteArray),false⟩:E2),0,0,0⟩:jz)]):=⟨_,rfl⟩
     replace H:(bY.l0 k1 l2 (l2.length:Int) (wrap64 (lF + 1)) a0 true (⟨#[]⟩:ByteArray) (⟨#[]⟩:ByteArray) false IM 0)=some (r1,r2,r3,r4,r5,r6,r7,r8,r9):=by (rw [Ej];with_reducible exact H)
     have Uf:=ah.mk Ej
     clear Ej
     have H':=ah.mk H
     clear H
     have Mj: 0≤(lF:Int):=of_decide_eq_true cu
     have Mk:lF < (l2.length:Int):=of_decide_eq_true cu
     obtain ⟨ai0,acY,uQ⟩:=Kd.jO HR2.out lF Mj Mk
     cases acY
     replace uQ:=(HB.out.cell (World.block_lt_of_cell? w _ uQ)).trans uQ
     replace Mj:=eq_true Mj
     replace Mk:=eq_true Mk
     have ai1:=pK.out
     have ai2:=dZ.out
     have wR:wr.cell? ⟨dJ,0,none⟩=some (.int .i64 a0):=(af b9.out 0).trans rfl
     have wS:wr.cell? ⟨dJ,1,none⟩=some (.bool true):=(af b9.out 1).trans rfl
     have yR:wr.cell? ⟨dJ,2,none⟩=some (.slice none 0 0):=(af b9.out 2).trans rfl
     have yS:wr.cell? ⟨dJ,3,none⟩=some (.string (⟨#[]⟩:ByteArray)):=(af b9.out 3).trans rfl
     have yT:wr.cell? ⟨dJ,4,none⟩=some (.string (⟨#[]⟩:ByteArray)):=(af b9.out 4).trans rfl
     have yU:wr.cell? ⟨dJ,5,none⟩=some (.bool false):=(af b9.out 5).trans rfl
     have Ce:wr.cell? ⟨dJ,6,none⟩=some (jN):=(af b9.out 6).trans rfl
     have Cf:wr.cell? ⟨dJ,7,none⟩=some (.slice none 0 0):=(af b9.out 7).trans rfl
     have Cg:wr.cell? ⟨dJ,8,none⟩=some (.int .i64 0):=(af b9.out 8).trans rfl
     have wT:=aa b9.out 0
     have wU:=aa b9.out 1
     have yV:=aa b9.out 2
     have yX:=aa b9.out 3
     have yY:=aa b9.out 4
     have yZ:=aa b9.out 5
     have Ch:=aa b9.out 6
     have Ci:=aa b9.out 7
     have Cj:=aa b9.out 8
     go_wp2_with (((with_reducible refine oz (b:= .append) (xs:=#[.tmp 26,.tmp 30]) rfl ?_);at_builtin;refine Kd.vU tq (w0:=w) w.heap.size rfl (.tmp 26) (.tmp 30) 32 37 (.agg #[(.string ⟨#[]⟩),(.string ⟨#[]⟩),(.bool false),(.int .u8 0),(.int .i64 0),(.int .i64 0)]) 64 rfl Tryz.underlying32 Lm rfl bB aA jN gL (⟨(⟨nj ByteArray.empty l2 lF,(⟨#[99]⟩:ByteArray),false⟩:E2),0,0,0⟩:jz) [.string (nj ByteArray.empty l2 lF),.string (⟨#[99]⟩:ByteArray),.bool false,.int .u8 0,.int .i64 0,.int .i64 0] (fun _ =>True) (fun _ =>False) rfl rfl ?aP (fun _ hk=>hk.elim) ?aF ?aO ?aB ?aS ?aL ?_;(case aP=>exact Ca _ _ _ (⟨(⟨nj ByteArray.empty l2 lF,(⟨#[99]⟩:ByteArray),false⟩:E2),0,0,0⟩:jz));(case aB=>exact aJ);(case aF=>exact (fun _ _ =>trivial));(case aO=>exact (by exact jQ.out));(case aS=>exact (cg aJ));(case aL=>have:=aiZ.out;omega);intro axx qJ ho hb hg hat;rw [← Uf.out] at ho;replace fY:=ah.mk (fG (g:=gv) (o:= .cells #[.int .i64 0,.bool false,.slice none 0 0,.string (⟨#[]⟩:ByteArray),.string (⟨#[]⟩:ByteArray),.bool false,.slice none 0 0,.slice none 0 0,.int .i64 0] 34 (0,0)) rC hg (Kd.vT jQ.out fY.out bB));replace b9:=ah.mk (fG (g:=dJ) (o:= .cells #[.int .i64 a0,.bool true,.slice none 0 0,.string (⟨#[]⟩:ByteArray),.string (⟨#[]⟩:ByteArray),.bool false,jN,.slice none 0 0,.int .i64 0] 34 (0,0)) (by exact b9.out) hg (Kd.vT jQ.out b9.out bB));replace HB:=ah.mk (hb);have KG:=ah.mk (ho);clear jQ;clear ho hb hg hat;obtain ⟨LG,LH,Ta⟩:=Kd.dh KG.out;subst Ta;have Nz:qJ.cell? ⟨dJ,0,none⟩=some (.int .i64 a0):=(af b9.out 0).trans rfl;have NA:qJ.cell? ⟨dJ,1,none⟩=some (.bool true):=(af b9.out 1).trans rfl;have X5:qJ.cell? ⟨dJ,2,none⟩=some (.slice none 0 0):=(af b9.out 2).trans rfl;have X6:qJ.cell? ⟨dJ,3,none⟩=some (.string (⟨#[]⟩:ByteArray)):=(af b9.out 3).trans rfl;have X7:qJ.cell? ⟨dJ,4,none⟩=some (.string (⟨#[]⟩:ByteArray)):=(af b9.out 4).trans rfl;have X8:qJ.cell? ⟨dJ,5,none⟩=some (.bool false):=(af b9.out 5).trans rfl;have X9:qJ.cell? ⟨dJ,6,none⟩=some (jN):=(af b9.out 6).trans rfl;have Ya:qJ.cell? ⟨dJ,7,none⟩=some (.slice none 0 0):=(af b9.out 7).trans rfl;have Yb:qJ.cell? ⟨dJ,8,none⟩=some (.int .i64 0):=(af b9.out 8).trans rfl;have NB:=aa b9.out 0;have NC:=aa b9.out 1;have Yc:=aa b9.out 2;have Yd:=aa b9.out 3;have Ye:=aa b9.out 4;have Yf:=aa b9.out 5;have Yg:=aa b9.out 6;have Yh:=aa b9.out 7;have Yi:=aa b9.out 8))
     go_roundg k1
     case measure=>have:=qi.out;omega
     case rel=>exact ⟨(wrap64 (lF + 1)),(IM),(.slice LG IM.length LH),(by rfl),H',⟨lI⟩,⟨by exact Kd.dH (Kd.bw (p:=⟨dJ,6,none⟩) (Kd.dD KG.out b9.out bB) (fun _ hk=>hk.2) (.slice LG IM.length LH)) (fun _ hk=>trivial)⟩,⟨by refine aW ?_ dZ.out _;exact fY.out⟩,⟨by refine aZ (cs:=#[.int .i64 a0,.bool true,.slice none 0 0,.string (⟨#[]⟩:ByteArray),.string (⟨#[]⟩:ByteArray),.bool false,jN,.slice none 0 0,.int .i64 0]) ?_ 6 _ rfl;exact b9.out⟩,⟨FJ⟩⟩
    ·rw [if_neg c9] at H
     have SY:=decide_eq_false c9
     clear c9
     simp only [Option.some.injEq,Prod.mk.injEq] at H
     obtain ⟨rfl,rfl,rfl,rfl,rfl,rfl,rfl,rfl,rfl⟩:=H
     have aat:=pK.out
     have aau:=dZ.out
     have CM:wr.cell? ⟨dJ,0,none⟩=some (.int .i64 a0):=(af b9.out 0).trans rfl
     have CN:wr.cell? ⟨dJ,1,none⟩=some (.bool true):=(af b9.out 1).trans rfl
     have CO:wr.cell? ⟨dJ,2,none⟩=some (.slice none 0 0):=(af b9.out 2).trans rfl
     have CP:wr.cell? ⟨dJ,3,none⟩=some (.string (⟨#[]⟩:ByteArray)):=(af b9.out 3).trans rfl
     have CQ:wr.cell? ⟨dJ,4,none⟩=some (.string (⟨#[]⟩:ByteArray)):=(af b9.out 4).trans rfl
     have CR:wr.cell? ⟨dJ,5,none⟩=some (.bool false):=(af b9.out 5).trans rfl
     have CS:wr.cell? ⟨dJ,6,none⟩=some (jN):=(af b9.out 6).trans rfl
     have CT:wr.cell? ⟨dJ,7,none⟩=some (.slice none 0 0):=(af b9.out 7).trans rfl
     have CU:wr.cell? ⟨dJ,8,none⟩=some (.int .i64 0):=(af b9.out 8).trans rfl
     have CV:=aa b9.out 0
     have CX:=aa b9.out 1
     have CY:=aa b9.out 2
     have CZ:=aa b9.out 3
     have C0:=aa b9.out 4
     have C2:=aa b9.out 5
     have C3:=aa b9.out 6
     have C4:=aa b9.out 7
     have C5:=aa b9.out 8
     have Cz:wr.cell? ⟨gv,0,none⟩=some (.int .i64 0):=(af fY.out 0).trans rfl
     have CA:wr.cell? ⟨gv,1,none⟩=some (.bool false):=(af fY.out 1).trans rfl
     have CB:wr.cell? ⟨gv,2,none⟩=some (.slice none 0 0):=(af fY.out 2).trans rfl
     have Ih:wr.cell? ⟨gv,3,none⟩=some (.string (⟨#[]⟩:ByteArray)):=(af fY.out 3).trans rfl
     have Ii:wr.cell? ⟨gv,4,none⟩=some (.string (⟨#[]⟩:ByteArray)):=(af fY.out 4).trans rfl
     have Ij:wr.cell? ⟨gv,5,none⟩=some (.bool false):=(af fY.out 5).trans rfl
     have OE:wr.cell? ⟨gv,6,none⟩=some (.slice none 0 0):=(af fY.out 6).trans rfl
     have OG:wr.cell? ⟨gv,7,none⟩=some (.slice none 0 0):=(af fY.out 7).trans rfl
     have OH:wr.cell? ⟨gv,8,none⟩=some (.int .i64 0):=(af fY.out 8).trans rfl
     have CC:=aa fY.out 0
     have CD:=aa fY.out 1
     have CE:=aa fY.out 2
     have Ik:=aa fY.out 3
     have Il:=aa fY.out 4
     have Im:=aa fY.out 5
     have OI:=aa fY.out 6
     have OJ:=aa fY.out 7
     have OL:=aa fY.out 8
     obtain ⟨YQ,YR,axy⟩:=Kd.dh jQ.out
     subst axy
     go_wp2
     refine bodyPost_ret (results_cell_row rfl _ _ gv 34 #[.int .i64 a0,.bool true,.slice none 0 0,.string (⟨#[]⟩:ByteArray),.string (⟨#[]⟩:ByteArray),.bool false,.slice YQ gL.length YR,.slice none 0 0,.int .i64 0] (0,0) _ rfl (by refine aZ (cs:=#[.int .i64 a0,.bool true,.slice none 0 0,.string (⟨#[]⟩:ByteArray),.string (⟨#[]⟩:ByteArray),.bool false,.slice YQ gL.length YR,.slice none 0 0,.int .i64 0]) ?_ 8 _ rfl;refine aZ (cs:=#[.int .i64 a0,.bool true,.slice none 0 0,.string (⟨#[]⟩:ByteArray),.string (⟨#[]⟩:ByteArray),.bool false,.slice YQ gL.length YR,.slice none 0 0,.int .i64 0]) ?_ 7 _ rfl;refine aZ (cs:=#[.int .i64 a0,.bool true,.slice none 0 0,.string (⟨#[]⟩:ByteArray),.string (⟨#[]⟩:ByteArray),.bool false,.slice none 0 0,.slice none 0 0,.int .i64 0]) ?_ 6 _ rfl;refine aZ (cs:=#[.int .i64 a0,.bool true,.slice none 0 0,.string (⟨#[]⟩:ByteArray),.string (⟨#[]⟩:ByteArray),.bool false,.slice none 0 0,.slice none 0 0,.int .i64 0]) ?_ 5 _ rfl;refine aZ (cs:=#[.int .i64 a0,.bool true,.slice none 0 0,.string (⟨#[]⟩:ByteArray),.string (⟨#[]⟩:ByteArray),.bool false,.slice none 0 0,.slice none 0 0,.int .i64 0]) ?_ 4 _ rfl;refine aZ (cs:=#[.int .i64 a0,.bool true,.slice none 0 0,.string (⟨#[]⟩:ByteArray),.string (⟨#[]⟩:ByteArray),.bool false,.slice none 0 0,.slice none 0 0,.int .i64 0]) ?_ 3 _ rfl;refine aZ (cs:=#[.int .i64 a0,.bool true,.slice none 0 0,.string (⟨#[]⟩:ByteArray),.string (⟨#[]⟩:ByteArray),.bool false,.slice none 0 0,.slice none 0 0,.int .i64 0]) ?_ 2 _ rfl;refine aZ (cs:=#[.int .i64 a0,.bool false,.slice none 0 0,.string (⟨#[]⟩:ByteArray),.string (⟨#[]⟩:ByteArray),.bool false,.slice none 0 0,.slice none 0 0,.int .i64 0]) ?_ 1 _ rfl;refine aZ (cs:=#[.int .i64 0,.bool false,.slice none 0 0,.string (⟨#[]⟩:ByteArray),.string (⟨#[]⟩:ByteArray),.bool false,.slice none 0 0,.slice none 0 0,.int .i64 0]) ?_ 0 _ rfl;exact fY.out) Tryz.underlying34 rfl aq) rfl ?_
     exact ⟨_,_,_,by rfl,rA,by exact Kd.dH (Kd.bw (p:=⟨gv,8,none⟩) (Kd.bw (p:=⟨gv,7,none⟩) (Kd.bw (p:=⟨gv,6,none⟩) (Kd.bw (p:=⟨gv,5,none⟩) (Kd.bw (p:=⟨gv,4,none⟩) (Kd.bw (p:=⟨gv,3,none⟩) (Kd.bw (p:=⟨gv,2,none⟩) (Kd.bw (p:=⟨gv,1,none⟩) (Kd.bw (p:=⟨gv,0,none⟩) (Kd.dD jQ.out fY.out bB) (fun _ hk=>hk.2) (.int .i64 a0)) (fun _ hk=>hk.2) (.bool true)) (fun _ hk=>hk.2) (.slice none 0 0)) (fun _ hk=>hk.2) (.string (⟨#[]⟩:ByteArray))) (fun _ hk=>hk.2) (.string (⟨#[]⟩:ByteArray))) (fun _ hk=>hk.2) (.bool false)) (fun _ hk=>hk.2) (.slice YQ gL.length YR)) (fun _ hk=>hk.2) (.slice none 0 0)) (fun _ hk=>hk.2) (.int .i64 0)) (fun _ hk=>trivial),rA,M3⟩
 ·rw [if_neg c4] at H
  have mo:=beq_eq_false_iff_ne.mpr c4
  have Aj:=bne_iff_ne.mpr c4
  have H':=ah.mk H
  clear H
  go_enter Tryz.func14,Tryz.ntmps14
  go_wp2_with (first|((with_reducible refine bq (N:=6) rfl ?_);refine br ?hg (N:=6) ?hd (cs:=#[.int .i64 0,.bool false,.slice none 0 0,.string (⟨#[]⟩:ByteArray),.string (⟨#[]⟩:ByteArray),.bool false,.slice none 0 0,.slice none 0 0,.int .i64 0]) (t:=34) ?hr ?_;(case hd=>rfl);(case hg=>rfl);(case hr=>(go_simp;done));intro gv hg UC bJ hb;have fY:=ah.mk (bJ);have aiX:=ah.mk ((bI:w.heap.size≤gv));have Z1:=ah.mk ((bI:w.heap.size≤gv));replace HB:=ah.mk (ay aJ hb);clear hb bJ hg)|((with_reducible refine bq (N:=7) rfl ?_);refine br ?hg (N:=7) ?hd (cs:=#[.int .i64 0,.bool false,.slice none 0 0,.string (⟨#[]⟩:ByteArray),.string (⟨#[]⟩:ByteArray),.bool false,.slice none 0 0,.slice none 0 0,.int .i64 0]) (t:=34) ?hr ?_;(case hd=>rfl);(case hg=>rfl);(case hr=>(go_simp;done));intro dJ hg rG bJ hb;have b9:=ah.mk (bJ);have aiY:=ah.mk ((bI:w.heap.size≤dJ));have Z0:=ah.mk ((bI:w.heap.size≤dJ));replace HB:=ah.mk (ay aJ hb);have dZ:=ah.mk ((by rw [hg];exact Nat.ne_of_lt (dQ rC):gv≠dJ));have pK:=ah.mk ((by rw [hg];exact Nat.ne_of_gt (dQ rC):dJ≠gv));replace fY:=ah.mk (az rC hb);clear hb bJ hg;have ai3:=pK.out;have ai4:=dZ.out;have CF:rG.cell? ⟨dJ,0,none⟩=some (.int .i64 0):=(af b9.out 0).trans rfl;have CG:rG.cell? ⟨dJ,1,none⟩=some (.bool false):=(af b9.out 1).trans rfl;have CH:rG.cell? ⟨dJ,2,none⟩=some (.slice none 0 0):=(af b9.out 2).trans rfl;have GN:rG.cell? ⟨dJ,3,none⟩=some (.string (⟨#[]⟩:ByteArray)):=(af b9.out 3).trans rfl;have GP:rG.cell? ⟨dJ,4,none⟩=some (.string (⟨#[]⟩:ByteArray)):=(af b9.out 4).trans rfl;have Pp:rG.cell? ⟨dJ,5,none⟩=some (.bool false):=(af b9.out 5).trans rfl;have Pq:rG.cell? ⟨dJ,6,none⟩=some (.slice none 0 0):=(af b9.out 6).trans rfl;have Pr:rG.cell? ⟨dJ,7,none⟩=some (.slice none 0 0):=(af b9.out 7).trans rfl;have Pv:rG.cell? ⟨dJ,8,none⟩=some (.int .i64 0):=(af b9.out 8).trans rfl;have CI:=aa b9.out 0;have CJ:=aa b9.out 1;have CK:=aa b9.out 2;have GQ:=aa b9.out 3;have GR:=aa b9.out 4;have Pw:=aa b9.out 5;have Px:=aa b9.out 6;have Py:=aa b9.out 7;have Pz:=aa b9.out 8))
  go_loopg [21] k (fun kq v21 w'=>∃ (lF:Int) (gL:List (jz)) (jN:Value),v21= .int .i64 lF∧ah (bY.l0 kq l2 (l2.length:Int) lF a0 false a1 (⟨#[98]⟩:ByteArray) false gL 0=some (r1,r2,r3,r4,r5,r6,r7,r8,r9))∧ah (kq≤k)∧ah (Kd.R tq 37 w' w.heap.size (fun _ =>True) jN gL)∧ah (w'.heap[gv]? =some (.cells #[.int .i64 0,.bool false,(.slice none 0 0),.string (⟨#[]⟩:ByteArray),.string (⟨#[]⟩:ByteArray),.bool false,(.slice none 0 0),(.slice none 0 0),.int .i64 0] 34 (0,0)))∧ah (w'.heap[dJ]? =some (.cells #[.int .i64 a0,.bool false,(.slice none 0 0),.string a1,.string (⟨#[98]⟩:ByteArray),.bool false,jN,(.slice none 0 0),.int .i64 0] 34 (0,0)))∧ah (Below w.heap.size w w'))
  case atStart=>exact ⟨(0),(([]:List (jz))),(.slice none 0 0),(by rfl),H',⟨Nat.le_refl _⟩,⟨rA⟩,⟨by refine aW ?_ dZ.out _;refine aW ?_ dZ.out _;refine aW ?_ dZ.out _;refine aW ?_ dZ.out _;refine aW ?_ dZ.out _;refine aW ?_ dZ.out _;refine aW ?_ dZ.out _;refine aW ?_ dZ.out _;refine aW ?_ dZ.out _;exact fY.out⟩,⟨by refine aZ (cs:=#[.int .i64 a0,.bool false,.slice none 0 0,.string a1,.string (⟨#[98]⟩:ByteArray),.bool false,.slice none 0 0,.slice none 0 0,.int .i64 0]) ?_ 8 _ rfl;refine aZ (cs:=#[.int .i64 a0,.bool false,.slice none 0 0,.string a1,.string (⟨#[98]⟩:ByteArray),.bool false,.slice none 0 0,.slice none 0 0,.int .i64 0]) ?_ 7 _ rfl;refine aZ (cs:=#[.int .i64 a0,.bool false,.slice none 0 0,.string a1,.string (⟨#[98]⟩:ByteArray),.bool false,.slice none 0 0,.slice none 0 0,.int .i64 0]) ?_ 6 _ rfl;refine aZ (cs:=#[.int .i64 a0,.bool false,.slice none 0 0,.string a1,.string (⟨#[98]⟩:ByteArray),.bool false,.slice none 0 0,.slice none 0 0,.int .i64 0]) ?_ 5 _ rfl;refine aZ (cs:=#[.int .i64 a0,.bool false,.slice none 0 0,.string a1,.string (⟨#[]⟩:ByteArray),.bool false,.slice none 0 0,.slice none 0 0,.int .i64 0]) ?_ 4 _ rfl;refine aZ (cs:=#[.int .i64 a0,.bool false,.slice none 0 0,.string (⟨#[]⟩:ByteArray),.string (⟨#[]⟩:ByteArray),.bool false,.slice none 0 0,.slice none 0 0,.int .i64 0]) ?_ 3 _ rfl;refine aZ (cs:=#[.int .i64 a0,.bool false,.slice none 0 0,.string (⟨#[]⟩:ByteArray),.string (⟨#[]⟩:ByteArray),.bool false,.slice none 0 0,.slice none 0 0,.int .i64 0]) ?_ 2 _ rfl;refine aZ (cs:=#[.int .i64 a0,.bool false,.slice none 0 0,.string (⟨#[]⟩:ByteArray),.string (⟨#[]⟩:ByteArray),.bool false,.slice none 0 0,.slice none 0 0,.int .i64 0]) ?_ 1 _ rfl;refine aZ (cs:=#[.int .i64 0,.bool false,.slice none 0 0,.string (⟨#[]⟩:ByteArray),.string (⟨#[]⟩:ByteArray),.bool false,.slice none 0 0,.slice none 0 0,.int .i64 0]) ?_ 0 _ rfl;exact b9.out⟩,⟨FJ⟩⟩
  case round=>
   clear H'
   obtain ⟨lF,gL,jN,rfl,HA,qi,jQ,fY,b9,HB⟩:=hrel
   cases gk with
   |zero=>exact absurd HA.out (by simp [bY.l0])
   |succ k1=>
    have H:=HA.out
    clear HA
    simp only [bY.l0] at H
    by_cases UL:lF < (l2.length:Int)
    ·rw [if_pos UL] at H
     have aaO:=decide_eq_true UL
     clear UL
     obtain ⟨c27,H⟩:=lJ H
     have ai5:=decide_eq_true c27
     clear c27
     obtain ⟨c28,H⟩:=lJ H
     have ai6:=decide_eq_true c28
     clear c28
     obtain ⟨QF,H⟩:=lJ H
     have ai7:=ah.mk QF
     clear QF
     obtain ⟨IM,Ej⟩:∃ y_:List (jz),y_=(gL ++ [(⟨(⟨nj ByteArray.empty l2 lF,(⟨#[99]⟩:ByteArray),false⟩:E2),0,0,0⟩:jz)]):=⟨_,rfl⟩
     replace H:(bY.l0 k1 l2 (l2.length:Int) (wrap64 (lF + 1)) a0 false a1 (⟨#[98]⟩:ByteArray) false IM 0)=some (r1,r2,r3,r4,r5,r6,r7,r8,r9):=by (rw [Ej];with_reducible exact H)
     have Uf:=ah.mk Ej
     clear Ej
     have H':=ah.mk H
     clear H
     have Mj: 0≤(lF:Int):=of_decide_eq_true cu
     have Mk:lF < (l2.length:Int):=of_decide_eq_true cu
     obtain ⟨ai0,acY,uQ⟩:=Kd.jO HR2.out lF Mj Mk
     cases acY
     replace uQ:=(HB.out.cell (World.block_lt_of_cell? w _ uQ)).trans uQ
     replace Mj:=eq_true Mj
     replace Mk:=eq_true Mk
     have aay:=pK.out
     have aaz:=dZ.out
     have PN:wr.cell? ⟨dJ,0,none⟩=some (.int .i64 a0):=(af b9.out 0).trans rfl
     have PO:wr.cell? ⟨dJ,1,none⟩=some (.bool false):=(af b9.out 1).trans rfl
     have PR:wr.cell? ⟨dJ,2,none⟩=some (.slice none 0 0):=(af b9.out 2).trans rfl
     have PS:wr.cell? ⟨dJ,3,none⟩=some (.string a1):=(af b9.out 3).trans rfl
     have PT:wr.cell? ⟨dJ,4,none⟩=some (.string (⟨#[98]⟩:ByteArray)):=(af b9.out 4).trans rfl
     have PU:wr.cell? ⟨dJ,5,none⟩=some (.bool false):=(af b9.out 5).trans rfl
     have YS:wr.cell? ⟨dJ,6,none⟩=some (jN):=(af b9.out 6).trans rfl
     have YT:wr.cell? ⟨dJ,7,none⟩=some (.slice none 0 0):=(af b9.out 7).trans rfl
     have YU:wr.cell? ⟨dJ,8,none⟩=some (.int .i64 0):=(af b9.out 8).trans rfl
     have PV:=aa b9.out 0
     have PW:=aa b9.out 1
     have PX:=aa b9.out 2
     have PY:=aa b9.out 3
     have PZ:=aa b9.out 4
     have P4:=aa b9.out 5
     have YV:=aa b9.out 6
     have YW:=aa b9.out 7
     have YX:=aa b9.out 8
     go_wp2_with (((with_reducible refine oz (b:= .append) (xs:=#[.tmp 26,.tmp 30]) rfl ?_);at_builtin;refine Kd.vU tq (w0:=w) w.heap.size rfl (.tmp 26) (.tmp 30) 32 37 (.agg #[(.string ⟨#[]⟩),(.string ⟨#[]⟩),(.bool false),(.int .u8 0),(.int .i64 0),(.int .i64 0)]) 64 rfl Tryz.underlying32 Lm rfl bB aA jN gL (⟨(⟨nj ByteArray.empty l2 lF,(⟨#[99]⟩:ByteArray),false⟩:E2),0,0,0⟩:jz) [.string (nj ByteArray.empty l2 lF),.string (⟨#[99]⟩:ByteArray),.bool false,.int .u8 0,.int .i64 0,.int .i64 0] (fun _ =>True) (fun _ =>False) rfl rfl ?aP (fun _ hk=>hk.elim) ?aF ?aO ?aB ?aS ?aL ?_;(case aP=>exact Ca _ _ _ (⟨(⟨nj ByteArray.empty l2 lF,(⟨#[99]⟩:ByteArray),false⟩:E2),0,0,0⟩:jz));(case aB=>exact aJ);(case aF=>exact (fun _ _ =>trivial));(case aO=>exact (by exact jQ.out));(case aS=>exact (cg aJ));(case aL=>have:=ai7.out;omega);intro axx wW ho hb hg hat;rw [← Uf.out] at ho;replace fY:=ah.mk (fG (g:=gv) (o:= .cells #[.int .i64 0,.bool false,.slice none 0 0,.string (⟨#[]⟩:ByteArray),.string (⟨#[]⟩:ByteArray),.bool false,.slice none 0 0,.slice none 0 0,.int .i64 0] 34 (0,0)) rC hg (Kd.vT jQ.out fY.out bB));replace b9:=ah.mk (fG (g:=dJ) (o:= .cells #[.int .i64 a0,.bool false,.slice none 0 0,.string a1,.string (⟨#[98]⟩:ByteArray),.bool false,jN,.slice none 0 0,.int .i64 0] 34 (0,0)) (by exact b9.out) hg (Kd.vT jQ.out b9.out bB));replace HB:=ah.mk (hb);have KG:=ah.mk (ho);clear jQ;clear ho hb hg hat;obtain ⟨IP,IQ,acZ⟩:=Kd.dh KG.out;subst acZ;have Yz:wW.cell? ⟨dJ,0,none⟩=some (.int .i64 a0):=(af b9.out 0).trans rfl;have YA:wW.cell? ⟨dJ,1,none⟩=some (.bool false):=(af b9.out 1).trans rfl;have asE:wW.cell? ⟨dJ,2,none⟩=some (.slice none 0 0):=(af b9.out 2).trans rfl;have asF:wW.cell? ⟨dJ,3,none⟩=some (.string a1):=(af b9.out 3).trans rfl;have asG:wW.cell? ⟨dJ,4,none⟩=some (.string (⟨#[98]⟩:ByteArray)):=(af b9.out 4).trans rfl;have asH:wW.cell? ⟨dJ,5,none⟩=some (.bool false):=(af b9.out 5).trans rfl;have asI:wW.cell? ⟨dJ,6,none⟩=some (jN):=(af b9.out 6).trans rfl;have asJ:wW.cell? ⟨dJ,7,none⟩=some (.slice none 0 0):=(af b9.out 7).trans rfl;have asK:wW.cell? ⟨dJ,8,none⟩=some (.int .i64 0):=(af b9.out 8).trans rfl;have YB:=aa b9.out 0;have YC:=aa b9.out 1;have asL:=aa b9.out 2;have asM:=aa b9.out 3;have asN:=aa b9.out 4;have asO:=aa b9.out 5;have asP:=aa b9.out 6;have asQ:=aa b9.out 7;have asR:=aa b9.out 8))
     go_roundg k1
     case measure=>have:=qi.out;omega
     case rel=>exact ⟨(wrap64 (lF + 1)),(IM),(.slice IP IM.length IQ),(by rfl),H',⟨lI⟩,⟨by exact Kd.dH (Kd.bw (p:=⟨dJ,6,none⟩) (Kd.dD KG.out b9.out bB) (fun _ hk=>hk.2) (.slice IP IM.length IQ)) (fun _ hk=>trivial)⟩,⟨by refine aW ?_ dZ.out _;exact fY.out⟩,⟨by refine aZ (cs:=#[.int .i64 a0,.bool false,.slice none 0 0,.string a1,.string (⟨#[98]⟩:ByteArray),.bool false,jN,.slice none 0 0,.int .i64 0]) ?_ 6 _ rfl;exact b9.out⟩,⟨FJ⟩⟩
    ·rw [if_neg UL] at H
     have aaO:=decide_eq_false UL
     clear UL
     simp only [Option.some.injEq,Prod.mk.injEq] at H
     obtain ⟨rfl,rfl,rfl,rfl,rfl,rfl,rfl,rfl,rfl⟩:=H
     have aAB:=pK.out
     have aAC:=dZ.out
     have YY:wr.cell? ⟨dJ,0,none⟩=some (.int .i64 a0):=(af b9.out 0).trans rfl
     have YZ:wr.cell? ⟨dJ,1,none⟩=some (.bool false):=(af b9.out 1).trans rfl
     have Y0:wr.cell? ⟨dJ,2,none⟩=some (.slice none 0 0):=(af b9.out 2).trans rfl
     have Y1:wr.cell? ⟨dJ,3,none⟩=some (.string a1):=(af b9.out 3).trans rfl
     have Y2:wr.cell? ⟨dJ,4,none⟩=some (.string (⟨#[98]⟩:ByteArray)):=(af b9.out 4).trans rfl
     have Y3:wr.cell? ⟨dJ,5,none⟩=some (.bool false):=(af b9.out 5).trans rfl
     have Y4:wr.cell? ⟨dJ,6,none⟩=some (jN):=(af b9.out 6).trans rfl
     have Y5:wr.cell? ⟨dJ,7,none⟩=some (.slice none 0 0):=(af b9.out 7).trans rfl
     have Y6:wr.cell? ⟨dJ,8,none⟩=some (.int .i64 0):=(af b9.out 8).trans rfl
     have Y7:=aa b9.out 0
     have Y8:=aa b9.out 1
     have Y9:=aa b9.out 2
     have Za:=aa b9.out 3
     have Zb:=aa b9.out 4
     have Zc:=aa b9.out 5
     have Zd:=aa b9.out 6
     have Ze:=aa b9.out 7
     have Zf:=aa b9.out 8
     have GH:wr.cell? ⟨gv,0,none⟩=some (.int .i64 0):=(af fY.out 0).trans rfl
     have GI:wr.cell? ⟨gv,1,none⟩=some (.bool false):=(af fY.out 1).trans rfl
     have GJ:wr.cell? ⟨gv,2,none⟩=some (.slice none 0 0):=(af fY.out 2).trans rfl
     have NR:wr.cell? ⟨gv,3,none⟩=some (.string (⟨#[]⟩:ByteArray)):=(af fY.out 3).trans rfl
     have NS:wr.cell? ⟨gv,4,none⟩=some (.string (⟨#[]⟩:ByteArray)):=(af fY.out 4).trans rfl
     have NT:wr.cell? ⟨gv,5,none⟩=some (.bool false):=(af fY.out 5).trans rfl
     have NU:wr.cell? ⟨gv,6,none⟩=some (.slice none 0 0):=(af fY.out 6).trans rfl
     have NV:wr.cell? ⟨gv,7,none⟩=some (.slice none 0 0):=(af fY.out 7).trans rfl
     have NW:wr.cell? ⟨gv,8,none⟩=some (.int .i64 0):=(af fY.out 8).trans rfl
     have GK:=aa fY.out 0
     have GL:=aa fY.out 1
     have GM:=aa fY.out 2
     have NY:=aa fY.out 3
     have NZ:=aa fY.out 4
     have N0:=aa fY.out 5
     have N1:=aa fY.out 6
     have N2:=aa fY.out 7
     have N3:=aa fY.out 8
     obtain ⟨Ek,El,ac0⟩:=Kd.dh jQ.out
     subst ac0
     go_wp2
     refine bodyPost_ret (results_cell_row rfl _ _ gv 34 #[.int .i64 a0,.bool false,.slice none 0 0,.string a1,.string (⟨#[98]⟩:ByteArray),.bool false,.slice Ek gL.length El,.slice none 0 0,.int .i64 0] (0,0) _ rfl (by refine aZ (cs:=#[.int .i64 a0,.bool false,.slice none 0 0,.string a1,.string (⟨#[98]⟩:ByteArray),.bool false,.slice Ek gL.length El,.slice none 0 0,.int .i64 0]) ?_ 8 _ rfl;refine aZ (cs:=#[.int .i64 a0,.bool false,.slice none 0 0,.string a1,.string (⟨#[98]⟩:ByteArray),.bool false,.slice Ek gL.length El,.slice none 0 0,.int .i64 0]) ?_ 7 _ rfl;refine aZ (cs:=#[.int .i64 a0,.bool false,.slice none 0 0,.string a1,.string (⟨#[98]⟩:ByteArray),.bool false,.slice none 0 0,.slice none 0 0,.int .i64 0]) ?_ 6 _ rfl;refine aZ (cs:=#[.int .i64 a0,.bool false,.slice none 0 0,.string a1,.string (⟨#[98]⟩:ByteArray),.bool false,.slice none 0 0,.slice none 0 0,.int .i64 0]) ?_ 5 _ rfl;refine aZ (cs:=#[.int .i64 a0,.bool false,.slice none 0 0,.string a1,.string (⟨#[]⟩:ByteArray),.bool false,.slice none 0 0,.slice none 0 0,.int .i64 0]) ?_ 4 _ rfl;refine aZ (cs:=#[.int .i64 a0,.bool false,.slice none 0 0,.string (⟨#[]⟩:ByteArray),.string (⟨#[]⟩:ByteArray),.bool false,.slice none 0 0,.slice none 0 0,.int .i64 0]) ?_ 3 _ rfl;refine aZ (cs:=#[.int .i64 a0,.bool false,.slice none 0 0,.string (⟨#[]⟩:ByteArray),.string (⟨#[]⟩:ByteArray),.bool false,.slice none 0 0,.slice none 0 0,.int .i64 0]) ?_ 2 _ rfl;refine aZ (cs:=#[.int .i64 a0,.bool false,.slice none 0 0,.string (⟨#[]⟩:ByteArray),.string (⟨#[]⟩:ByteArray),.bool false,.slice none 0 0,.slice none 0 0,.int .i64 0]) ?_ 1 _ rfl;refine aZ (cs:=#[.int .i64 0,.bool false,.slice none 0 0,.string (⟨#[]⟩:ByteArray),.string (⟨#[]⟩:ByteArray),.bool false,.slice none 0 0,.slice none 0 0,.int .i64 0]) ?_ 0 _ rfl;exact fY.out) Tryz.underlying34 rfl aq) rfl ?_
     exact ⟨_,_,_,by rfl,rA,by exact Kd.dH (Kd.bw (p:=⟨gv,8,none⟩) (Kd.bw (p:=⟨gv,7,none⟩) (Kd.bw (p:=⟨gv,6,none⟩) (Kd.bw (p:=⟨gv,5,none⟩) (Kd.bw (p:=⟨gv,4,none⟩) (Kd.bw (p:=⟨gv,3,none⟩) (Kd.bw (p:=⟨gv,2,none⟩) (Kd.bw (p:=⟨gv,1,none⟩) (Kd.bw (p:=⟨gv,0,none⟩) (Kd.dD jQ.out fY.out bB) (fun _ hk=>hk.2) (.int .i64 a0)) (fun _ hk=>hk.2) (.bool false)) (fun _ hk=>hk.2) (.slice none 0 0)) (fun _ hk=>hk.2) (.string a1)) (fun _ hk=>hk.2) (.string (⟨#[98]⟩:ByteArray))) (fun _ hk=>hk.2) (.bool false)) (fun _ hk=>hk.2) (.slice Ek gL.length El)) (fun _ hk=>hk.2) (.slice none 0 0)) (fun _ hk=>hk.2) (.int .i64 0)) (fun _ hk=>trivial),rA,M3⟩
def kE.f:Option (Int×(List (o8))):=some (1,([]:List (o8)))
theorem kE.calls (r1:Int) (r2:List (o8)) (w:World) (h:kE.f=some (r1,r2)):
 Calls Tryz.prog 16 #[] w fun e w'=>∃ RG:Value,e= .returned (.agg #[.int .i64 r1,RG])∧Kd.S E4 34 w' w.heap.size (fun _ =>True) RG r2∧Below w.heap.size w w':=by
 have QG:=Tryz.underlying40
 have HB:=ah.mk (Below.refl w.heap.size w)
 have H:(some (1,([]:List (o8))))=some (r1,r2):=h
 clear h
 simp only [Option.some.injEq,Prod.mk.injEq] at H
 obtain ⟨rfl,rfl⟩:=H
 go_enter Tryz.func16,Tryz.ntmps16
 go_wp2_with (((with_reducible refine bq (N:=0) rfl ?_);refine br ?hg (N:=0) ?hd (cs:=#[.int .i64 0,.slice none 0 0]) (t:=40) ?hr ?_;(case hd=>rfl);(case hg=>rfl);(case hr=>(go_simp;done));intro KH hg w1 bJ hb;have KI:=ah.mk (bJ);have aAD:=ah.mk ((bI:w.heap.size≤KH));have ai8:=ah.mk ((bI:w.heap.size≤KH));replace HB:=ah.mk (ay aJ hb);clear hb bJ hg;have axz:w1.cell? ⟨KH,0,none⟩=some (.int .i64 0):=(af KI.out 0).trans rfl;have axA:w1.cell? ⟨KH,1,none⟩=some (.slice none 0 0):=(af KI.out 1).trans rfl;have axB:=aa KI.out 0;have axC:=aa KI.out 1))
 refine bodyPost_ret (results_cell_row rfl _ _ KH 40 #[.int .i64 1,.slice none 0 0] (0,0) _ rfl (by refine aZ (cs:=#[.int .i64 1,.slice none 0 0]) ?_ 1 _ rfl;refine aZ (cs:=#[.int .i64 0,.slice none 0 0]) ?_ 0 _ rfl;exact KI.out) Tryz.underlying40 rfl aq) rfl ?_
 exact ⟨_,by rfl,by exact Kd.Z6 _ _ _ _ _,by repeat ((with_reducible first|exact HB.out|refine cG ?_ ai8.out))⟩
def cZ.l0:Nat→List Int→List (o8)→Int→Int→Option (List Int)
 | 0,_,_,_,_ =>none
 |k + 1,x3,x9,LV,vJ=>if vJ < LV then (if 0≤vJ then (if vJ < (x9.length:Int) then ((kL.f ((aj x9 vJ).f0) ((aj x9 vJ).f1.f0) ((aj x9 vJ).f1.f1) ((aj x9 vJ).f1.f2.f0) ((aj x9 vJ).f1.f2.f1) ((aj x9 vJ).f1.f2.f2) ((aj x9 vJ).f2) ((aj x9 vJ).f3) ((aj x9 vJ).f4)).bind fun ai9=>(if ai9.1=true then (if x3.length < 17592186044416 then (cZ.l0 k (x3 ++ [(aj x9 vJ).f0]) x9 LV (wrap64 (vJ + 1))) else (none)) else (cZ.l0 k x3 x9 LV (wrap64 (vJ + 1))))) else (none)) else (none)) else (some x3)
def cZ.f (k:Nat) (bf:Int) (aD:List (o8)):Option (List Int):=cZ.l0 k ([]:List Int) aD (aD.length:Int) 0
theorem cZ.ey:∀ k,(∀ y0 y1 y2 y3,eY (cZ.l0 k y0 y1 y2 y3) (cZ.l0 (k + 1) y0 y1 y2 y3))
 | 0=>fun _ _ _ _ r h=>by simp [cZ.l0] at h
 |k + 1=>by
  have mC:=cZ.ey k
  ·intro y0 y1 y2 y3
   unfold cZ.l0
   repeat' (with_reducible first|exact mC _ _ _ _|exact eY.refl _|refine eY.ite ?_ ?_|refine eY.bind ?_ (fun _ =>?_))
theorem cZ.mono:∀ a0 a1 k,eY (cZ.f k a0 a1) (cZ.f (k + 1) a0 a1):=by
 intro a0 a1 k
 have mC:=cZ.ey k
 unfold cZ.f
 repeat' (with_reducible exact mC _ _ _ _)
theorem cZ.calls (k:Nat) (bf:Int) (iQ:Option Addr) (gJ:Nat) (aD:List (o8)) (r:List Int) (w:World) (nR:Kd.C E4 w iQ aD.length aD) (nS:aD.length≤gJ) (h:cZ.f k bf aD=some r):
 Calls Tryz.prog 19 #[.agg #[.int .i64 bf,.slice iQ aD.length gJ]] w fun e w'=>∃ DC:Value,e= .returned (DC)∧Kd.R (Kd.int .i64) 3 w' w.heap.size (fun _ =>True) DC r∧Below w.heap.size w w':=by
 have QG:=Tryz.underlying40
 have BD:=Tryz.underlying34
 have rH:=ah.mk nR
 have DJ:=ah.mk nS
 clear nR nS
 have HB:=ah.mk (Below.refl w.heap.size w)
 have H:(cZ.l0 k ([]:List Int) aD (aD.length:Int) 0)=some r:=h
 clear h
 have H':=ah.mk H
 clear H
 go_enter Tryz.func19,Tryz.ntmps19
 go_wp2_with (((with_reducible refine bq (N:=1) rfl ?_);refine br ?hg (N:=1) ?hd (cs:=#[.int .i64 bf,.slice iQ aD.length gJ]) (t:=40) ?hr ?_;(case hd=>rfl);(case hg=>rfl);(case hr=>(go_simp;done));intro vE hg w2 bJ hb;have sW:=ah.mk (bJ);have aAE:=ah.mk ((bI:w.heap.size≤vE));have aAF:=ah.mk ((bI:w.heap.size≤vE));replace HB:=ah.mk (ay aJ hb);clear hb bJ hg;have Lq:w2.cell? ⟨vE,0,none⟩=some (.int .i64 bf):=(af sW.out 0).trans rfl;have Lr:w2.cell? ⟨vE,1,none⟩=some (.slice iQ aD.length gJ):=(af sW.out 1).trans rfl;have Ls:=aa sW.out 0;have Lt:=aa sW.out 1))
 go_loopg [3,11] k (fun kq v3 v11 w'=>∃ (zo:List Int) (cw:Int),v11= .int .i64 cw∧ah (cZ.l0 kq zo aD (aD.length:Int) cw=some r)∧ah (kq≤k)∧ah (Kd.R (Kd.int .i64) 3 w' w.heap.size (fun _ =>True) v3 zo)∧ah (w'.heap[vE]? =some (.cells #[.int .i64 bf,(.slice iQ aD.length gJ)] 40 (0,0)))∧ah (Below w.heap.size w w'))
 case atStart=>exact ⟨(([]:List Int)),(0),(by rfl),H',⟨Nat.le_refl _⟩,⟨rA⟩,⟨pL⟩,⟨aJ⟩⟩
 case round=>
  clear H'
  obtain ⟨zo,cw,rfl,HA,qi,z7,sW,HB⟩:=hrel
  cases gk with
  |zero=>exact absurd HA.out (by simp [cZ.l0])
  |succ k1=>
   have H:=HA.out
   clear HA
   simp only [cZ.l0] at H
   by_cases c4:cw < (aD.length:Int)
   ·rw [if_pos c4] at H
    have mo:=decide_eq_true c4
    clear c4
    obtain ⟨c5,H⟩:=lJ H
    have pG:=decide_eq_true c5
    clear c5
    obtain ⟨c6,H⟩:=lJ H
    have xW:=decide_eq_true c6
    clear c6
    obtain ⟨⟨t264,t265⟩,A7,H⟩:=bd_ H
    (try dsimp only at H)
    by_cases c8:t264=true
    ·subst c8
     rw [if_pos rfl] at H
     obtain ⟨c9,H⟩:=lJ H
     have axD:=ah.mk c9
     clear c9
     obtain ⟨aja,Ug⟩:∃ y_:List Int,y_=(zo ++ [(aj aD cw).f0]):=⟨_,rfl⟩
     replace H:(cZ.l0 k1 aja aD (aD.length:Int) (wrap64 (cw + 1)))=some r:=by (rw [Ug];with_reducible exact H)
     have ajb:=ah.mk Ug
     clear Ug
     have H':=ah.mk H
     clear H
     have Mm: 0≤(cw:Int):=of_decide_eq_true cu
     have Mn:cw < (aD.length:Int):=of_decide_eq_true cu
     obtain ⟨P5,om,oo,sB,sD,tM,tN,ac1,uR,uS,uT,uU,uV,uW,uX,uY,uZ,zH,zI,zJ,zK,zL,zM⟩:=qm rH.out cw Mm Mn
     cases ac1
     replace uR:=(HB.out.cell (World.block_lt_of_cell? w _ uR)).trans uR
     replace uS:=(HB.out.cell (World.block_lt_of_cell? w _ uS)).trans uS
     replace uT:=(HB.out.cell (World.block_lt_of_cell? w _ uT)).trans uT
     replace uU:=(HB.out.cell (World.block_lt_of_cell? w _ uU)).trans uU
     replace uV:=(HB.out.cell (World.block_lt_of_cell? w _ uV)).trans uV
     replace uW:=(HB.out.cell (World.block_lt_of_cell? w _ uW)).trans uW
     replace uX:=(HB.out.cell (World.block_lt_of_cell? w _ uX)).trans uX
     replace uY:=(HB.out.cell (World.block_lt_of_cell? w _ uY)).trans uY
     replace uZ:=(HB.out.cell (World.block_lt_of_cell? w _ uZ)).trans uZ
     have IU:=ah.mk zI
     have IV:=ah.mk zH
     clear zI zH
     have IW:=ah.mk zK
     have IX:=ah.mk zJ
     clear zK zJ
     have IY:=ah.mk zM
     have IZ:=ah.mk zL
     clear zM zL
     replace Mm:=eq_true Mm
     replace Mn:=eq_true Mn
     go_wp2_with (first|((with_reducible refine bq (N:=5) rfl ?_);refine br ?hg (N:=5) ?hd (cs:=#[.int .i64 0,.bool false,.slice none 0 0,.string (⟨#[]⟩:ByteArray),.string (⟨#[]⟩:ByteArray),.bool false,.slice none 0 0,.slice none 0 0,.int .i64 0]) (t:=34) ?hr ?_;(case hd=>rfl);(case hg=>rfl);(case hr=>(go_simp;done));intro gD hg mR bJ hb;replace z7:=ah.mk (Kd.bG (by exact z7.out) hb);have fE:=ah.mk (bJ);have ajc:=ah.mk ((bI:w.heap.size≤gD));have ZZ:=ah.mk ((bI:w.heap.size≤gD));replace HB:=ah.mk (ay aJ hb);have kr:=ah.mk ((by rw [hg];exact Nat.ne_of_lt (dQ pL):vE≠gD));have AG:=ah.mk ((by rw [hg];exact Nat.ne_of_gt (dQ pL):gD≠vE));replace sW:=ah.mk (az pL hb);clear hb bJ hg;have agc:=AG.out;have agd:=kr.out;have ue:mR.cell? ⟨gD,0,none⟩=some (.int .i64 0):=(af fE.out 0).trans rfl;have uf:mR.cell? ⟨gD,1,none⟩=some (.bool false):=(af fE.out 1).trans rfl;have wP:mR.cell? ⟨gD,2,none⟩=some (.slice none 0 0):=(af fE.out 2).trans rfl;have yF:mR.cell? ⟨gD,3,none⟩=some (.string (⟨#[]⟩:ByteArray)):=(af fE.out 3).trans rfl;have yG:mR.cell? ⟨gD,4,none⟩=some (.string (⟨#[]⟩:ByteArray)):=(af fE.out 4).trans rfl;have yH:mR.cell? ⟨gD,5,none⟩=some (.bool false):=(af fE.out 5).trans rfl;have yI:mR.cell? ⟨gD,6,none⟩=some (.slice none 0 0):=(af fE.out 6).trans rfl;have yJ:mR.cell? ⟨gD,7,none⟩=some (.slice none 0 0):=(af fE.out 7).trans rfl;have yK:mR.cell? ⟨gD,8,none⟩=some (.int .i64 0):=(af fE.out 8).trans rfl;have ug:=aa fE.out 0;have uh:=aa fE.out 1;have wQ:=aa fE.out 2;have yL:=aa fE.out 3;have yM:=aa fE.out 4;have yN:=aa fE.out 5;have yO:=aa fE.out 6;have yP:=aa fE.out 7;have yQ:=aa fE.out 8)|((with_reducible refine bH (f:=61) rfl ?_);refine dx (some 17) rfl rfl Tryz.func61 aq rfl #[.agg #[.int .i64 ((aj aD cw).f0),.bool ((aj aD cw).f1.f0),.slice om ((aj aD cw).f1.f1).length oo,.string ((aj aD cw).f1.f2.f0),.string ((aj aD cw).f1.f2.f1),.bool ((aj aD cw).f1.f2.f2),.slice sB ((aj aD cw).f2).length sD,.slice tM ((aj aD cw).f3).length tN,.int .i64 ((aj aD cw).f4)]] rfl dI ?_;(with_reducible refine (kL.calls ((aj aD cw).f0) ((aj aD cw).f1.f0) _ _ ((aj aD cw).f1.f1) ((aj aD cw).f1.f2.f0) ((aj aD cw).f1.f2.f1) ((aj aD cw).f1.f2.f2) _ _ ((aj aD cw).f2) _ _ ((aj aD cw).f3) ((aj aD cw).f4) true t265 _ ?bk ?bM ?cQ ?fk ?gf ?gh A7.out).mono ?_);(case bk=>exact Kd.bD IU.out vL);(case bM=>exact IV.out);(case cQ=>exact Kd.bD IW.out vL);(case fk=>exact IX.out);(case gf=>exact Kd.bD IY.out vL);(case gh=>exact IZ.out);rintro e ko ⟨rfl,hb⟩;refine ⟨_,rfl,?_⟩;replace z7:=ah.mk (Kd.bG RU hb);replace sW:=ah.mk (az (g:=vE) (o:= .cells #[.int .i64 bf,.slice (some P5) aD.length gJ] 40 (0,0)) RY hb);replace fE:=ah.mk (az (g:=gD) (o:= .cells #[.int .i64 ((aj aD cw).f0),.bool ((aj aD cw).f1.f0),.slice om ((aj aD cw).f1.f1).length oo,.string ((aj aD cw).f1.f2.f0),.string ((aj aD cw).f1.f2.f1),.bool ((aj aD cw).f1.f2.f2),.slice sB ((aj aD cw).f2).length sD,.slice tM ((aj aD cw).f3).length tN,.int .i64 ((aj aD cw).f4)] 34 (0,0)) RQ hb);replace HB:=ah.mk (ay vL hb);(try clear hb);have wR:ko.cell? ⟨gD,0,none⟩=some (.int .i64 ((aj aD cw).f0)):=(af fE.out 0).trans rfl;have wS:ko.cell? ⟨gD,1,none⟩=some (.bool ((aj aD cw).f1.f0)):=(af fE.out 1).trans rfl;have yR:ko.cell? ⟨gD,2,none⟩=some (.slice om ((aj aD cw).f1.f1).length oo):=(af fE.out 2).trans rfl;have yS:ko.cell? ⟨gD,3,none⟩=some (.string ((aj aD cw).f1.f2.f0)):=(af fE.out 3).trans rfl;have yT:ko.cell? ⟨gD,4,none⟩=some (.string ((aj aD cw).f1.f2.f1)):=(af fE.out 4).trans rfl;have yU:ko.cell? ⟨gD,5,none⟩=some (.bool ((aj aD cw).f1.f2.f2)):=(af fE.out 5).trans rfl;have Ce:ko.cell? ⟨gD,6,none⟩=some (.slice sB ((aj aD cw).f2).length sD):=(af fE.out 6).trans rfl;have Cf:ko.cell? ⟨gD,7,none⟩=some (.slice tM ((aj aD cw).f3).length tN):=(af fE.out 7).trans rfl;have Cg:ko.cell? ⟨gD,8,none⟩=some (.int .i64 ((aj aD cw).f4)):=(af fE.out 8).trans rfl;have wT:=aa fE.out 0;have wU:=aa fE.out 1;have yV:=aa fE.out 2;have yX:=aa fE.out 3;have yY:=aa fE.out 4;have yZ:=aa fE.out 5;have Ch:=aa fE.out 6;have Ci:=aa fE.out 7;have Cj:=aa fE.out 8)|((with_reducible refine oz (b:= .append) (xs:=#[.tmp 21,.tmp 24]) rfl ?_);at_builtin;refine Kd.vU (Kd.int .i64) (w0:=w) w.heap.size rfl (.tmp 21) (.tmp 24) 25 3 (.int .i64 0) 8 rfl Tryz.underlying25 info3 rfl bB aA u3 zo ((aj aD cw).f0) [.int .i64 ((aj aD cw).f0)] (fun _ =>True) (fun _ =>False) rfl rfl ?aP (fun _ hk=>hk.elim) ?aF ?aO ?aB ?aS ?aL ?_;(case aP=>exact rfl);(case aB=>exact aJ);(case aF=>exact (fun _ _ =>trivial));(case aO=>exact (by exact z7.out));(case aS=>exact (cg aJ));(case aL=>have:=axD.out;omega);intro aDt qJ ho hb hg hat;rw [← ajb.out] at ho;replace sW:=ah.mk (fG (g:=vE) (o:= .cells #[.int .i64 bf,.slice (some P5) aD.length gJ] 40 (0,0)) pL hg (Kd.vT z7.out sW.out bB));replace fE:=ah.mk (fG (g:=gD) (o:= .cells #[.int .i64 ((aj aD cw).f0),.bool ((aj aD cw).f1.f0),.slice om ((aj aD cw).f1.f1).length oo,.string ((aj aD cw).f1.f2.f0),.string ((aj aD cw).f1.f2.f1),.bool ((aj aD cw).f1.f2.f2),.slice sB ((aj aD cw).f2).length sD,.slice tM ((aj aD cw).f3).length tN,.int .i64 ((aj aD cw).f4)] 34 (0,0)) (by exact fE.out) hg (Kd.vT z7.out fE.out bB));replace HB:=ah.mk (hb);have ajd:=ah.mk (ho);clear z7;clear ho hb hg hat))
     go_roundg k1
     case measure=>have:=qi.out;omega
     case rel=>exact ⟨(aja),(wrap64 (cw + 1)),(by rfl),H',⟨lI⟩,⟨by exact ajd.out⟩,⟨pL⟩,⟨aJ⟩⟩
    ·replace c8:=Bool.eq_false_iff.mpr c8
     subst c8
     rw [if_neg (show ¬ (false=true) by decide)] at H
     have H':=ah.mk H
     clear H
     have Mm: 0≤(cw:Int):=of_decide_eq_true cu
     have Mn:cw < (aD.length:Int):=of_decide_eq_true cu
     obtain ⟨P5,om,oo,sB,sD,tM,tN,ac1,uR,uS,uT,uU,uV,uW,uX,uY,uZ,zH,zI,zJ,zK,zL,zM⟩:=qm rH.out cw Mm Mn
     cases ac1
     replace uR:=(HB.out.cell (World.block_lt_of_cell? w _ uR)).trans uR
     replace uS:=(HB.out.cell (World.block_lt_of_cell? w _ uS)).trans uS
     replace uT:=(HB.out.cell (World.block_lt_of_cell? w _ uT)).trans uT
     replace uU:=(HB.out.cell (World.block_lt_of_cell? w _ uU)).trans uU
     replace uV:=(HB.out.cell (World.block_lt_of_cell? w _ uV)).trans uV
     replace uW:=(HB.out.cell (World.block_lt_of_cell? w _ uW)).trans uW
     replace uX:=(HB.out.cell (World.block_lt_of_cell? w _ uX)).trans uX
     replace uY:=(HB.out.cell (World.block_lt_of_cell? w _ uY)).trans uY
     replace uZ:=(HB.out.cell (World.block_lt_of_cell? w _ uZ)).trans uZ
     have IU:=ah.mk zI
     have IV:=ah.mk zH
     clear zI zH
     have IW:=ah.mk zK
     have IX:=ah.mk zJ
     clear zK zJ
     have IY:=ah.mk zM
     have IZ:=ah.mk zL
     clear zM zL
     replace Mm:=eq_true Mm
     replace Mn:=eq_true Mn
     go_wp2_with (first|((with_reducible refine bq (N:=5) rfl ?_);refine br ?hg (N:=5) ?hd (cs:=#[.int .i64 0,.bool false,.slice none 0 0,.string (⟨#[]⟩:ByteArray),.string (⟨#[]⟩:ByteArray),.bool false,.slice none 0 0,.slice none 0 0,.int .i64 0]) (t:=34) ?hr ?_;(case hd=>rfl);(case hg=>rfl);(case hr=>(go_simp;done));intro gD hg tC bJ hb;replace z7:=ah.mk (Kd.bG (by exact z7.out) hb);have fE:=ah.mk (bJ);have ajc:=ah.mk ((bI:w.heap.size≤gD));have ZZ:=ah.mk ((bI:w.heap.size≤gD));replace HB:=ah.mk (ay aJ hb);have kr:=ah.mk ((by rw [hg];exact Nat.ne_of_lt (dQ pL):vE≠gD));have AG:=ah.mk ((by rw [hg];exact Nat.ne_of_gt (dQ pL):gD≠vE));replace sW:=ah.mk (az pL hb);clear hb bJ hg;have aar:=AG.out;have aas:=kr.out;have Cm:tC.cell? ⟨gD,0,none⟩=some (.int .i64 0):=(af fE.out 0).trans rfl;have Cn:tC.cell? ⟨gD,1,none⟩=some (.bool false):=(af fE.out 1).trans rfl;have Co:tC.cell? ⟨gD,2,none⟩=some (.slice none 0 0):=(af fE.out 2).trans rfl;have Cq:tC.cell? ⟨gD,3,none⟩=some (.string (⟨#[]⟩:ByteArray)):=(af fE.out 3).trans rfl;have Cr:tC.cell? ⟨gD,4,none⟩=some (.string (⟨#[]⟩:ByteArray)):=(af fE.out 4).trans rfl;have Gw:tC.cell? ⟨gD,5,none⟩=some (.bool false):=(af fE.out 5).trans rfl;have Ns:tC.cell? ⟨gD,6,none⟩=some (.slice none 0 0):=(af fE.out 6).trans rfl;have Nt:tC.cell? ⟨gD,7,none⟩=some (.slice none 0 0):=(af fE.out 7).trans rfl;have Nu:tC.cell? ⟨gD,8,none⟩=some (.int .i64 0):=(af fE.out 8).trans rfl;have Cs:=aa fE.out 0;have Ct:=aa fE.out 1;have Cu:=aa fE.out 2;have Cv:=aa fE.out 3;have Cw:=aa fE.out 4;have Gx:=aa fE.out 5;have Nv:=aa fE.out 6;have Nw:=aa fE.out 7;have Ny:=aa fE.out 8)|((with_reducible refine bH (f:=61) rfl ?_);refine dx (some 17) rfl rfl Tryz.func61 aq rfl #[.agg #[.int .i64 ((aj aD cw).f0),.bool ((aj aD cw).f1.f0),.slice om ((aj aD cw).f1.f1).length oo,.string ((aj aD cw).f1.f2.f0),.string ((aj aD cw).f1.f2.f1),.bool ((aj aD cw).f1.f2.f2),.slice sB ((aj aD cw).f2).length sD,.slice tM ((aj aD cw).f3).length tN,.int .i64 ((aj aD cw).f4)]] rfl dI ?_;(with_reducible refine (kL.calls ((aj aD cw).f0) ((aj aD cw).f1.f0) _ _ ((aj aD cw).f1.f1) ((aj aD cw).f1.f2.f0) ((aj aD cw).f1.f2.f1) ((aj aD cw).f1.f2.f2) _ _ ((aj aD cw).f2) _ _ ((aj aD cw).f3) ((aj aD cw).f4) false t265 _ ?bk ?bM ?cQ ?fk ?gf ?gh A7.out).mono ?_);(case bk=>exact Kd.bD IU.out vL);(case bM=>exact IV.out);(case cQ=>exact Kd.bD IW.out vL);(case fk=>exact IX.out);(case gf=>exact Kd.bD IY.out vL);(case gh=>exact IZ.out);rintro e w19 ⟨rfl,hb⟩;refine ⟨_,rfl,?_⟩;replace z7:=ah.mk (Kd.bG RU hb);replace sW:=ah.mk (az (g:=vE) (o:= .cells #[.int .i64 bf,.slice (some P5) aD.length gJ] 40 (0,0)) RY hb);replace fE:=ah.mk (az (g:=gD) (o:= .cells #[.int .i64 ((aj aD cw).f0),.bool ((aj aD cw).f1.f0),.slice om ((aj aD cw).f1.f1).length oo,.string ((aj aD cw).f1.f2.f0),.string ((aj aD cw).f1.f2.f1),.bool ((aj aD cw).f1.f2.f2),.slice sB ((aj aD cw).f2).length sD,.slice tM ((aj aD cw).f3).length tN,.int .i64 ((aj aD cw).f4)] 34 (0,0)) RQ hb);replace HB:=ah.mk (ay vL hb);(try clear hb)))
     go_roundg k1
     case measure=>have:=qi.out;omega
     case rel=>exact ⟨(zo),(wrap64 (cw + 1)),(by rfl),H',⟨lI⟩,⟨by exact z7.out⟩,⟨pL⟩,⟨aJ⟩⟩
   ·rw [if_neg c4] at H
    have mo:=decide_eq_false c4
    clear c4
    obtain rfl:=Option.some.inj H
    go_wp2
    go_ret
    exact ⟨_,by rfl,by exact z7.out,aJ⟩
end Go.Proofs.YtbjjaaodfbjkfaaGreatDoor.mN
