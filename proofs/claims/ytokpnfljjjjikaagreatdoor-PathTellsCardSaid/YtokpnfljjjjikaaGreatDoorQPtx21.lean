import Derived.Test.YtokpnfljjjjikaaGreatDoorQPtx20
namespace Go.Proofs.YtokpnfljjjjikaaGreatDoor.mY
open Go.RowKit Go.Proofs.YtokpnfljjjjikaaGreatDoor.qP Go.Proofs.aj.bO Go.Proofs.aj.fA Go.Proofs.aj.cK
attribute [local go_sem] ia ig iU iV gf gh ij iq
set_option linter.unusedVariables false
set_option linter.unusedSimpArgs false
mutual
def aG.j0:Nat→ByteArray→Int→Bool→Option (Bool×List ByteArray×ByteArray×ByteArray×Bool×Int×Int)
 | 0,_,_,_ =>none
 |k + 1,x0,x5,x22=>if x22=true then (some (false,([]:List ByteArray),(⟨#[]⟩:ByteArray),(⟨#[]⟩:ByteArray),false,0,150)) else (if 1≤x5 then (if x5≤(x0.size:Int) then (if (x0.extract 1 (x5:Int).toNat).toList=([]:List UInt8) then (some (true,([]:List ByteArray),(⟨#[]⟩:ByteArray),(⟨#[]⟩:ByteArray),false,2,0)) else ((aY.f k (x0.extract 1 (x5:Int).toNat)).bind fun WY=>(if WY.toList=([112,111,115,116,109,97,115,116,101,114]:List UInt8) then (some (false,([]:List ByteArray),(⟨#[112,111,115,116,109,97,115,116,101,114]⟩:ByteArray),(⟨#[]⟩:ByteArray),false,wrap64 (x5 + 1),0)) else (if 0 < ((x0.extract 1 (x5:Int).toNat).size:Int) then (if (bt (x0.extract 1 (x5:Int).toNat) 0)=64 then ((strings_Index.f (x0.extract 1 (x5:Int).toNat) (⟨#[58]⟩:ByteArray)).bind fun xg=>(if xg < 0 then (some (false,([]:List ByteArray),(⟨#[]⟩:ByteArray),(⟨#[]⟩:ByteArray),false,0,150)) else (if 0≤xg then (if xg≤((x0.extract 1 (x5:Int).toNat).size:Int) then ((strings_Split.f ((x0.extract 1 (x5:Int).toNat).extract 0 (xg:Int).toNat) (⟨#[44]⟩:ByteArray)).bind fun jU=>(aG.l0 k x5 (x0.extract 1 (x5:Int).toNat) false xg jU 0 false ([]:List ByteArray) (⟨#[]⟩:ByteArray) (⟨#[]⟩:ByteArray) false)) else (none)) else (none)))) else (aG.j3 k x5 (x0.extract 1 (x5:Int).toNat) false false ([]:List ByteArray) (⟨#[]⟩:ByteArray) (⟨#[]⟩:ByteArray) false)) else (none))))) else (none)) else (none))
def aG.j3:Nat→Int→ByteArray→Bool→Bool→List ByteArray→ByteArray→ByteArray→Bool→Option (Bool×List ByteArray×ByteArray×ByteArray×Bool×Int×Int)
 | 0,_,_,_,_,_,_,_,_ =>none
 |k + 1,x5,x6,x8,rW,qI,tO,tP,tQ=>(bI.f k x6).bind fun FQ=>(if FQ.2.2.2=true then (if x8=true then (some (false,([]:List ByteArray),(⟨#[]⟩:ByteArray),(⟨#[]⟩:ByteArray),false,0,3)) else (if (qI.length:Int) > 20 then (some (false,([]:List ByteArray),(⟨#[]⟩:ByteArray),(⟨#[]⟩:ByteArray),false,0,3)) else ((cF.f k FQ.1 FQ.2.1 FQ.2.2.1).bind fun WZ=>(if WZ=true then (some (rW,qI,FQ.1,FQ.2.1,FQ.2.2.1,wrap64 (x5 + 1),0)) else (some (false,([]:List ByteArray),(⟨#[]⟩:ByteArray),(⟨#[]⟩:ByteArray),false,0,3)))))) else (some (false,([]:List ByteArray),(⟨#[]⟩:ByteArray),(⟨#[]⟩:ByteArray),false,0,150)))
def aG.l0:Nat→Int→ByteArray→Bool→Int→List ByteArray→Int→Bool→List ByteArray→ByteArray→ByteArray→Bool→Option (Bool×List ByteArray×ByteArray×ByteArray×Bool×Int×Int)
 | 0,_,_,_,_,_,_,_,_,_,_,_ =>none
 |k + 1,x5,x6,x8,x9,KL,G7,rW,qI,tO,tP,tQ=>if G7 < (KL.length:Int) then (if 0≤G7 then (if (cV ByteArray.empty KL G7).toList=([]:List UInt8) then (aG.j2 k x5 x6 x8 x9 KL G7 true rW qI tO tP tQ) else (if 0 < ((cV ByteArray.empty KL G7).size:Int) then (if (bt (cV ByteArray.empty KL G7) 0)=64 then (if 1≤((cV ByteArray.empty KL G7).size:Int) then ((aQ.f k ((cV ByteArray.empty KL G7).extract 1 (cV ByteArray.empty KL G7).size)).bind fun aau=>(aG.j2 k x5 x6 x8 x9 KL G7 (!aau) rW qI tO tP tQ)) else (none)) else (aG.j2 k x5 x6 x8 x9 KL G7 true rW qI tO tP tQ)) else (none))) else (none)) else (if 0≤(wrap64 (x9 + 1)) then (if (wrap64 (x9 + 1))≤(x6.size:Int) then (aG.j3 k x5 (x6.extract ((wrap64 (x9 + 1)):Int).toNat x6.size) x8 rW qI tO tP tQ) else (none)) else (none))
def aG.j2:Nat→Int→ByteArray→Bool→Int→List ByteArray→Int→Bool→Bool→List ByteArray→ByteArray→ByteArray→Bool→Option (Bool×List ByteArray×ByteArray×ByteArray×Bool×Int×Int)
 | 0,_,_,_,_,_,_,_,_,_,_,_,_ =>none
 |k + 1,x5,x6,x8,x9,KL,G7,x76,rW,qI,tO,tP,tQ=>if x76=true then (some (false,([]:List ByteArray),(⟨#[]⟩:ByteArray),(⟨#[]⟩:ByteArray),false,0,150)) else (if 0≤G7 then (if G7 < (KL.length:Int) then (if 1≤((cV ByteArray.empty KL G7).size:Int) then ((aY.f k ((cV ByteArray.empty KL G7).extract 1 (cV ByteArray.empty KL G7).size)).bind fun KM=>(if qI.length < 8796093022208 then ((some (qI ++ [KM]:List ByteArray)).bind fun zK=>(if x8=true then (aG.l0 k x5 x6 true x9 KL (wrap64 (G7 + 1)) rW zK tO tP tQ) else ((bE.f k ((cV ByteArray.empty KL G7).extract 1 (cV ByteArray.empty KL G7).size)).bind fun TT=>(aG.l0 k x5 x6 (!TT) x9 KL (wrap64 (G7 + 1)) rW zK tO tP tQ)))) else (none))) else (none)) else (none)) else (none))
end
def aG.f (k:Nat) (a0:ByteArray):Option (Bool×List ByteArray×ByteArray×ByteArray×Bool×Int×Int):=(bB.f k a0).bind fun xh=>(if xh < 1 then (aG.j0 k a0 xh true) else (if 0 < (a0.size:Int) then (aG.j0 k a0 xh ((bt a0 0) != 60)) else (none)))
theorem aG.dF:∀ k,(∀ y0 y1 y2,bL (aG.j0 k y0 y1 y2) (aG.j0 (k + 1) y0 y1 y2))∧(∀ y0 y1 y2 y3 y4 y5 y6 y7,bL (aG.j3 k y0 y1 y2 y3 y4 y5 y6 y7) (aG.j3 (k + 1) y0 y1 y2 y3 y4 y5 y6 y7))∧(∀ y0 y1 y2 y3 y4 y5 y6 y7 y8 y9 Fy,bL (aG.l0 k y0 y1 y2 y3 y4 y5 y6 y7 y8 y9 Fy) (aG.l0 (k + 1) y0 y1 y2 y3 y4 y5 y6 y7 y8 y9 Fy))∧(∀ y0 y1 y2 y3 y4 y5 y6 y7 y8 y9 Fy y11,bL (aG.j2 k y0 y1 y2 y3 y4 y5 y6 y7 y8 y9 Fy y11) (aG.j2 (k + 1) y0 y1 y2 y3 y4 y5 y6 y7 y8 y9 Fy y11))
 | 0=>⟨fun _ _ _ r h=>by simp [aG.j0] at h,fun _ _ _ _ _ _ _ _ r h=>by simp [aG.j3] at h,fun _ _ _ _ _ _ _ _ _ _ _ r h=>by simp [aG.l0] at h,fun _ _ _ _ _ _ _ _ _ _ _ _ r h=>by simp [aG.j2] at h⟩
 |k + 1=>by
  obtain ⟨fV,ih1,ih2,ih3⟩:=aG.dF k
  refine ⟨?_,?_,?_,?_⟩
  ·intro y0 y1 y2
   unfold aG.j0
   repeat' first
   |(with_reducible first|exact fV _ _ _|exact ih1 _ _ _ _ _ _ _ _|exact ih2 _ _ _ _ _ _ _ _ _ _ _|exact ih3 _ _ _ _ _ _ _ _ _ _ _ _|exact aY.mono _ _|exact bI.mono _ _|exact bB.mono _ _|exact cF.mono _ _ _ _|exact aQ.mono _ _|exact bE.mono _ _|exact bL.refl _|exact bL.none _|refine bL.ite ?_ ?_|refine bL.bind ?_ (fun _ =>?_))
   |exact fV _ _ _
   |exact ih1 _ _ _ _ _ _ _ _
   |exact ih2 _ _ _ _ _ _ _ _ _ _ _
   |exact ih3 _ _ _ _ _ _ _ _ _ _ _ _
   |exact aY.mono _ _
   |exact bI.mono _ _
   |exact bB.mono _ _
   |exact cF.mono _ _ _ _
   |exact aQ.mono _ _
   |exact bE.mono _ _
   |exact bL.none _
   |refine bL.ite ?_ ?_
   |refine bL.bind ?_ (fun _ =>?_)
  ·intro y0 y1 y2 y3 y4 y5 y6 y7
   unfold aG.j3
   repeat' first
   |(with_reducible first|exact fV _ _ _|exact ih1 _ _ _ _ _ _ _ _|exact ih2 _ _ _ _ _ _ _ _ _ _ _|exact ih3 _ _ _ _ _ _ _ _ _ _ _ _|exact aY.mono _ _|exact bI.mono _ _|exact bB.mono _ _|exact cF.mono _ _ _ _|exact aQ.mono _ _|exact bE.mono _ _|exact bL.refl _|exact bL.none _|refine bL.ite ?_ ?_|refine bL.bind ?_ (fun _ =>?_))
   |exact fV _ _ _
   |exact ih1 _ _ _ _ _ _ _ _
   |exact ih2 _ _ _ _ _ _ _ _ _ _ _
   |exact ih3 _ _ _ _ _ _ _ _ _ _ _ _
   |exact aY.mono _ _
   |exact bI.mono _ _
   |exact bB.mono _ _
   |exact cF.mono _ _ _ _
   |exact aQ.mono _ _
   |exact bE.mono _ _
   |exact bL.none _
   |refine bL.ite ?_ ?_
   |refine bL.bind ?_ (fun _ =>?_)
  ·intro y0 y1 y2 y3 y4 y5 y6 y7 y8 y9 Fy
   unfold aG.l0
   repeat' first
   |(with_reducible first|exact fV _ _ _|exact ih1 _ _ _ _ _ _ _ _|exact ih2 _ _ _ _ _ _ _ _ _ _ _|exact ih3 _ _ _ _ _ _ _ _ _ _ _ _|exact aY.mono _ _|exact bI.mono _ _|exact bB.mono _ _|exact cF.mono _ _ _ _|exact aQ.mono _ _|exact bE.mono _ _|exact bL.refl _|exact bL.none _|refine bL.ite ?_ ?_|refine bL.bind ?_ (fun _ =>?_))
   |exact fV _ _ _
   |exact ih1 _ _ _ _ _ _ _ _
   |exact ih2 _ _ _ _ _ _ _ _ _ _ _
   |exact ih3 _ _ _ _ _ _ _ _ _ _ _ _
   |exact aY.mono _ _
   |exact bI.mono _ _
   |exact bB.mono _ _
   |exact cF.mono _ _ _ _
   |exact aQ.mono _ _
   |exact bE.mono _ _
   |exact bL.none _
   |refine bL.ite ?_ ?_
   |refine bL.bind ?_ (fun _ =>?_)
  ·intro y0 y1 y2 y3 y4 y5 y6 y7 y8 y9 Fy y11
   unfold aG.j2
   repeat' first
   |(with_reducible first|exact fV _ _ _|exact ih1 _ _ _ _ _ _ _ _|exact ih2 _ _ _ _ _ _ _ _ _ _ _|exact ih3 _ _ _ _ _ _ _ _ _ _ _ _|exact aY.mono _ _|exact bI.mono _ _|exact bB.mono _ _|exact cF.mono _ _ _ _|exact aQ.mono _ _|exact bE.mono _ _|exact bL.refl _|exact bL.none _|refine bL.ite ?_ ?_|refine bL.bind ?_ (fun _ =>?_))
   |exact fV _ _ _
   |exact ih1 _ _ _ _ _ _ _ _
   |exact ih2 _ _ _ _ _ _ _ _ _ _ _
   |exact ih3 _ _ _ _ _ _ _ _ _ _ _ _
   |exact aY.mono _ _
   |exact bI.mono _ _
   |exact bB.mono _ _
   |exact cF.mono _ _ _ _
   |exact aQ.mono _ _
   |exact bE.mono _ _
   |exact bL.none _
   |refine bL.ite ?_ ?_
   |refine bL.bind ?_ (fun _ =>?_)
theorem aG.mono:∀ a0 k,bL (aG.f k a0) (aG.f (k + 1) a0):=by
 intro a0 k
 obtain ⟨fV,ih1,ih2,ih3⟩:=aG.dF k
 unfold aG.f
 repeat' first
  |(with_reducible first|exact fV _ _ _|exact ih1 _ _ _ _ _ _ _ _|exact ih2 _ _ _ _ _ _ _ _ _ _ _|exact ih3 _ _ _ _ _ _ _ _ _ _ _ _|exact aY.mono _ _|exact bI.mono _ _|exact bB.mono _ _|exact cF.mono _ _ _ _|exact aQ.mono _ _|exact bE.mono _ _|exact bL.refl _|exact bL.none _|refine bL.ite ?_ ?_|refine bL.bind ?_ (fun _ =>?_))
  |exact fV _ _ _
  |exact ih1 _ _ _ _ _ _ _ _
  |exact ih2 _ _ _ _ _ _ _ _ _ _ _
  |exact ih3 _ _ _ _ _ _ _ _ _ _ _ _
  |exact aY.mono _ _
  |exact bI.mono _ _
  |exact bB.mono _ _
  |exact cF.mono _ _ _ _
  |exact aQ.mono _ _
  |exact bE.mono _ _
  |exact bL.none _
  |refine bL.ite ?_ ?_
  |refine bL.bind ?_ (fun _ =>?_)
def aG.T21:Bool×List (List Nat×List Nat):=(true,[([],[]),([0],[0]),([],[]),([],[]),([2,3],[2,3]),([4],[4]),([5],[5]),([6],[6]),([7],[7]),([1,8,7],[1,8]),([0,1,2,3,4,5,6,7,8,9],[]),([10,9,9,0,1,2,3,4,5,6,7,8,9],[9,10])])
def aG.B21:List Nat:=[0,1,0,0,12,28,60,124,252,511,1023,2047]
theorem aG.acv:rF .any (opsOf Tryz.f24 21)=aG.T21:=by kernel_rfl
theorem aG.W4:rS aG.T21.2 aG.B21=true:=by kernel_rfl
set_option maxHeartbeats 8000000 in
set_option maxRecDepth 100000 in
theorem aG.calls (k:Nat) (a0:ByteArray) (r1:Bool) (r2:List ByteArray) (r3:ByteArray) (r4:ByteArray) (r5:Bool) (r6:Int) (r7:Int) (w:World) (hG:aJ w) (h:aG.f k a0=some (r1,r2,r3,r4,r5,r6,r7)):
 Calls Tryz.prog 24 #[.string a0] w fun e w'=>∃ v1_:Value,e= .returned (.tuple #[.agg #[.bool r1,v1_,.string r3,.string r4,.bool r5],.int .i64 r6,.int .i64 r7])∧Kd.R Kd.string 9 w' w.heap.size (fun _ =>True) v1_ r2∧Below w.heap.size w w':=by
 have DA:=Tryz.underlying32
 have wT:=Tryz.underlying30
 have HB:=aa.mk (Below.refl w.heap.size w)
 have HG:=aa.mk hG
 clear hG
 have H:((bB.f k a0).bind fun xh=>(if xh < 1 then (aG.j0 k a0 xh true) else (if 0 < (a0.size:Int) then (aG.j0 k a0 xh ((bt a0 0) != 60)) else (none))))=some (r1,r2,r3,r4,r5,r6,r7):=h
 clear h
 obtain ⟨xh,A2,H⟩:=bd_ H
 have Fk:=aa.mk H
 clear H
 go_enter Tryz.func24,Tryz.ntmps24
 go_upto_region 2 with (first|((with_reducible refine cB (N:=2) rfl ?_);(try (refine cL (by rfl) ?_;dsimp only));refine cj ?hg (N:=2) ?hd (cs:=#[.bool false,.slice none 0 0,.string (⟨#[]⟩:ByteArray),.string (⟨#[]⟩:ByteArray),.bool false]) (t:=32) ?hr ?_;(case hd=>rfl);(case hg=>rfl);(case hr=>first|(go_simp;done)|(go_simp;rfl));intro ey hg w4 cE hb;have cG:=aa.mk (cE);have as6:=aa.mk ((dI:w.heap.size≤ey));have Le:=aa.mk ((dI:w.heap.size≤ey));replace HB:=aa.mk (aA bG hb);clear hb cE hg)|((with_reducible refine aK (f:=72) rfl ?_);refine bU (some 15) rfl rfl Tryz.func72 aq rfl #[.string a0] rfl cz ?_;(with_reducible refine (bB.calls k a0 xh _ A2.out).mono ?_);rintro e w' ⟨rfl,⟨nd,rfl⟩⟩;refine ⟨_,rfl,?_⟩))
 (try simp only [Act.put,List.setIfInBounds_toArray,List.set_cons_zero,List.set_cons_succ])
 go_cut [22] (fun v22 wc=>∃ (kq:Nat) (SF:Bool),v22= .bool SF∧aa (aG.j0 kq a0 xh SF=some (r1,r2,r3,r4,r5,r6,r7))∧aa (kq≤k)∧aa (wc.heap[ey]? =some (.cells #[.bool false,(.slice none 0 0),.string (⟨#[]⟩:ByteArray),.string (⟨#[]⟩:ByteArray),.bool false] 32 (0,0)))∧aa (Below w.heap.size w wc))
 case first=>
  have H:=Fk.out
  clear Fk
  by_cases c5:xh < 1
  ·rw [if_pos c5] at H
   have lF:=decide_eq_true c5
   clear c5
   (first|rw [lF]|(simp only [cU,dh];rw [lF])|skip)
   have H':=aa.mk H
   clear H
   go_wp2
   go_meet
   case rel=>exact ⟨_,(true),b9,H',⟨iT⟩,⟨jJ⟩,⟨wo⟩⟩
  ·rw [if_neg c5] at H
   have lF:=decide_eq_false c5
   clear c5
   (first|rw [lF]|(simp only [cU,dh];rw [lF])|skip)
   obtain ⟨c6,H⟩:=iA H
   have nL:=decide_eq_true c6
   have wK:decide (0 < a0.size)=true:=decide_eq_true ak
   clear c6
   have H':=aa.mk H
   clear H
   have p7: 0≤(0:Int):=ak
   have q7: 0 < a0.size:=(by have:(0:Int) < (a0.size:Int):=of_decide_eq_true bp;omega)
   have AO:∀ h: 0 < a0.size,((a0[0]'h).toNat:Int)=bt a0 0:=dA a0 0
   clear p7
   have qi7:(0 < (a0.size:Int))=True:=eq_true (of_decide_eq_true bp)
   replace q7:=eq_true q7
   go_wp2
   go_meet
   case rel=>exact ⟨_,(((bt a0 0) != 60)),b9,H',⟨iT⟩,⟨jJ⟩,⟨wo⟩⟩
 case rest=>
  clear Fk
  obtain ⟨kq,SF,rfl,HA,Lp,cG,HB⟩:=hcut
  cases kq with
  |zero=>exact absurd HA.out (by simp [aG.j0])
  |succ Fl=>
   have H:=HA.out
   clear HA
   simp only [aG.j0] at H
   by_cases c8:SF=true
   ·subst c8
    rw [if_pos rfl] at H
    simp only [Option.some.injEq,Prod.mk.injEq] at H
    obtain ⟨rfl,rfl,rfl,rfl,rfl,rfl,rfl⟩:=H
    have rG:wc.cell? ⟨ey,0,none⟩=some (.bool false):=(ah cG.out 0).trans rfl
    have rH:wc.cell? ⟨ey,1,none⟩=some (.slice none 0 0):=(ah cG.out 1).trans rfl
    have zD:wc.cell? ⟨ey,2,none⟩=some (.string (⟨#[]⟩:ByteArray)):=(ah cG.out 2).trans rfl
    have J3:wc.cell? ⟨ey,3,none⟩=some (.string (⟨#[]⟩:ByteArray)):=(ah cG.out 3).trans rfl
    have J4:wc.cell? ⟨ey,4,none⟩=some (.bool false):=(ah cG.out 4).trans rfl
    have rI:=af cG.out 0
    have rJ:=af cG.out 1
    have zE:=af cG.out 2
    have J5:=af cG.out 3
    have J6:=af cG.out 4
    go_wp2
    refine bodyPost_ret (iF rfl _ _ ey 32 #[.bool false,.slice none 0 0,.string (⟨#[]⟩:ByteArray),.string (⟨#[]⟩:ByteArray),.bool false] (0,0) _ rfl UW Tryz.underlying32 rfl aq) rfl ?_
    exact ⟨_,cH,mN,wo⟩
   ·replace c8:=Bool.eq_false_iff.mpr c8
    subst c8
    rw [if_neg (show ¬ (false=true) by decide)] at H
    obtain ⟨c10,H⟩:=iA H
    have pR:=eq_true c10
    have AK:=decide_eq_true c10
    clear c10
    obtain ⟨c11,H⟩:=iA H
    have oC:=eq_true c11
    have wM:=decide_eq_true c11
    obtain ⟨qp,ag3⟩:∃ z_:ByteArray,(a0.extract 1 (xh:Int).toNat)=z_ :=⟨_,rfl⟩
    rw [ag3] at H
    clear c11
    by_cases c12:qp.toList=([]:List UInt8)
    ·rw [if_pos c12] at H
     have zg:=beq_iff_eq.mpr c12
     have LK:=bne_eq_false_iff_eq.mpr c12
     clear c12
     simp only [Option.some.injEq,Prod.mk.injEq] at H
     obtain ⟨rfl,rfl,rfl,rfl,rfl,rfl,rfl⟩:=H
     have qD:wc.cell? ⟨ey,0,none⟩=some (.bool false):=(ah cG.out 0).trans rfl
     have qE:wc.cell? ⟨ey,1,none⟩=some (.slice none 0 0):=(ah cG.out 1).trans rfl
     have vo:wc.cell? ⟨ey,2,none⟩=some (.string (⟨#[]⟩:ByteArray)):=(ah cG.out 2).trans rfl
     have Ek:wc.cell? ⟨ey,3,none⟩=some (.string (⟨#[]⟩:ByteArray)):=(ah cG.out 3).trans rfl
     have El:wc.cell? ⟨ey,4,none⟩=some (.bool false):=(ah cG.out 4).trans rfl
     have qF:=af cG.out 0
     have qG:=af cG.out 1
     have vp:=af cG.out 2
     have Em:=af cG.out 3
     have En:=af cG.out 4
     go_wp2
     refine bodyPost_ret (iF rfl _ _ ey 32 #[.bool true,.slice none 0 0,.string (⟨#[]⟩:ByteArray),.string (⟨#[]⟩:ByteArray),.bool false] (0,0) _ rfl (by (with_reducible repeat (first|refine ay ?_ _|refine az ?_|refine av ?_ _));refine bR (cs:=#[.bool true,.slice none 0 0,.string (⟨#[]⟩:ByteArray),.string (⟨#[]⟩:ByteArray),.bool false]) ?_ 4 _ rfl;(with_reducible repeat (first|refine ay ?_ _|refine az ?_|refine av ?_ _));refine bR (cs:=#[.bool true,.slice none 0 0,.string (⟨#[]⟩:ByteArray),.string (⟨#[]⟩:ByteArray),.bool false]) ?_ 3 _ rfl;(with_reducible repeat (first|refine ay ?_ _|refine az ?_|refine av ?_ _));refine bR (cs:=#[.bool true,.slice none 0 0,.string (⟨#[]⟩:ByteArray),.string (⟨#[]⟩:ByteArray),.bool false]) ?_ 2 _ rfl;(with_reducible repeat (first|refine ay ?_ _|refine az ?_|refine av ?_ _));refine bR (cs:=#[.bool true,.slice none 0 0,.string (⟨#[]⟩:ByteArray),.string (⟨#[]⟩:ByteArray),.bool false]) ?_ 1 _ rfl;(with_reducible repeat (first|refine ay ?_ _|refine az ?_|refine av ?_ _));refine bR (cs:=#[.bool false,.slice none 0 0,.string (⟨#[]⟩:ByteArray),.string (⟨#[]⟩:ByteArray),.bool false]) ?_ 0 _ rfl;(with_reducible repeat (first|refine ay ?_ _|refine az ?_|refine av ?_ _));exact cG.out) Tryz.underlying32 rfl aq) rfl ?_
     exact ⟨_,cH,mN,wo⟩
    ·rw [if_neg c12] at H
     have zg:=beq_eq_false_iff_ne.mpr c12
     have LK:=bne_iff_ne.mpr c12
     obtain ⟨WY,UK,H⟩:=bd_ H
     by_cases c15:WY.toList=([112,111,115,116,109,97,115,116,101,114]:List UInt8)
     ·rw [if_pos c15] at H
      have tL:=beq_iff_eq.mpr c15
      have CU:=bne_eq_false_iff_eq.mpr c15
      clear c15
      simp only [Option.some.injEq,Prod.mk.injEq] at H
      obtain ⟨rfl,rfl,rfl,rfl,rfl,rfl,rfl⟩:=H
      go_wp2_with (first|((with_reducible refine aK (f:=73) rfl ?_);refine bU (some 31) rfl rfl Tryz.func73 aq rfl #[.string qp] rfl cz ?_;(with_reducible refine (aY.calls Fl qp WY _ UK.out).mono ?_);rintro e G5 ⟨rfl,hb⟩;refine ⟨_,rfl,?_⟩;replace cG:=aa.mk (aC jJ hb);replace HB:=aa.mk (aA wo hb);(try clear hb);have Jv:G5.cell? ⟨ey,0,none⟩=some (.bool false):=(ah cG.out 0).trans rfl;have Jw:G5.cell? ⟨ey,1,none⟩=some (.slice none 0 0):=(ah cG.out 1).trans rfl;have al9:G5.cell? ⟨ey,2,none⟩=some (.string (⟨#[]⟩:ByteArray)):=(ah cG.out 2).trans rfl;have ama:G5.cell? ⟨ey,3,none⟩=some (.string (⟨#[]⟩:ByteArray)):=(ah cG.out 3).trans rfl;have amb:G5.cell? ⟨ey,4,none⟩=some (.bool false):=(ah cG.out 4).trans rfl;have Jx:=af cG.out 0;have Jy:=af cG.out 1;have amc:=af cG.out 2;have amd:=af cG.out 3;have ame:=af cG.out 4))
      refine bodyPost_ret (iF rfl _ _ ey 32 #[.bool false,.slice none 0 0,.string (⟨#[112,111,115,116,109,97,115,116,101,114]⟩:ByteArray),.string (⟨#[]⟩:ByteArray),.bool false] (0,0) _ rfl (by (with_reducible repeat (first|refine ay ?_ _|refine az ?_|refine av ?_ _));refine bR (cs:=#[.bool false,.slice none 0 0,.string (⟨#[112,111,115,116,109,97,115,116,101,114]⟩:ByteArray),.string (⟨#[]⟩:ByteArray),.bool false]) ?_ 4 _ rfl;(with_reducible repeat (first|refine ay ?_ _|refine az ?_|refine av ?_ _));refine bR (cs:=#[.bool false,.slice none 0 0,.string (⟨#[112,111,115,116,109,97,115,116,101,114]⟩:ByteArray),.string (⟨#[]⟩:ByteArray),.bool false]) ?_ 3 _ rfl;(with_reducible repeat (first|refine ay ?_ _|refine az ?_|refine av ?_ _));refine bR (cs:=#[.bool false,.slice none 0 0,.string (⟨#[]⟩:ByteArray),.string (⟨#[]⟩:ByteArray),.bool false]) ?_ 2 _ rfl;(with_reducible repeat (first|refine ay ?_ _|refine az ?_|refine av ?_ _));refine bR (cs:=#[.bool false,.slice none 0 0,.string (⟨#[]⟩:ByteArray),.string (⟨#[]⟩:ByteArray),.bool false]) ?_ 1 _ rfl;(with_reducible repeat (first|refine ay ?_ _|refine az ?_|refine av ?_ _));refine bR (cs:=#[.bool false,.slice none 0 0,.string (⟨#[]⟩:ByteArray),.string (⟨#[]⟩:ByteArray),.bool false]) ?_ 0 _ rfl;(with_reducible repeat (first|refine ay ?_ _|refine az ?_|refine av ?_ _));exact cG.out) Tryz.underlying32 rfl aq) rfl ?_
      exact ⟨_,cH,mN,wo⟩
     ·rw [if_neg c15] at H
      have tL:=beq_eq_false_iff_ne.mpr c15
      have CU:=bne_iff_ne.mpr c15
      obtain ⟨c18,H⟩:=iA H
      have xd:=decide_eq_true c18
      have Mr:decide (0 < qp.size)=true:=decide_eq_true ak
      clear c18
      have ad9:=aa.mk H
      clear H
      go_upto_if 39 with (first|((with_reducible refine aK (f:=73) rfl ?_);refine bU (some 31) rfl rfl Tryz.func73 aq rfl #[.string qp] rfl cz ?_;(with_reducible refine (aY.calls Fl qp WY _ UK.out).mono ?_);rintro e w21 ⟨rfl,hb⟩;refine ⟨_,rfl,?_⟩;replace cG:=aa.mk (aC jJ hb);replace HB:=aa.mk (aA wo hb);(try clear hb))|((with_reducible refine cB (N:=7) rfl ?_);(try (refine cL (by rfl) ?_;dsimp only));refine cj ?hg (N:=7) ?hd (cs:=#[.bool false,.slice none 0 0,.string (⟨#[]⟩:ByteArray),.string (⟨#[]⟩:ByteArray),.bool false]) (t:=32) ?hr ?_;(case hd=>rfl);(case hg=>rfl);(case hr=>first|(go_simp;done)|(go_simp;rfl));intro fT hg BN cE hb;have cZ:=aa.mk (cE);have as7:=aa.mk ((Qn:w.heap.size≤fT));have UO:=aa.mk ((Qn:w.heap.size≤fT));replace HB:=aa.mk (aA wo hb);have lC:=aa.mk ((BX:ey≠fT));have nR:=aa.mk ((BZ:fT≠ey));replace cG:=aa.mk (aC jJ hb);clear hb cE hg;have Yx: 0≤(0:Int):=ak;have WO: 0 < qp.size:=(by have:(0:Int) < (qp.size:Int):=of_decide_eq_true bp;omega);have ad2:∀ h: 0 < qp.size,((qp[0]'h).toNat:Int)=bt qp 0:=dA qp 0;clear Yx;have awd:(0 < (qp.size:Int))=True:=eq_true (of_decide_eq_true bp);replace WO:=eq_true WO))
      (try simp only [Act.put,List.setIfInBounds_toArray,List.set_cons_zero,List.set_cons_succ])
      go_cut [6,8] (fun v6 v8 wc=>∃ (kq:Nat) (uA:ByteArray) (SG:Bool) (kW:Bool) (iH:ByteArray) (gM:ByteArray) (fU:Bool) (jc:List ByteArray) (jf:Value),v6= .string uA∧v8= .bool SG∧aa (aG.j3 kq xh uA SG false jc (⟨#[]⟩:ByteArray) (⟨#[]⟩:ByteArray) false=some (r1,r2,r3,r4,r5,r6,r7))∧aa (kq≤Fl)∧aa (Kd.R Kd.string 9 wc w.heap.size (fun _ =>True) jf jc)∧aa (wc.heap[ey]? =some (.cells #[.bool kW,(.slice none 0 0),.string iH,.string gM,.bool fU] 32 (0,0)))∧aa (wc.heap[fT]? =some (.cells #[.bool false,jf,.string (⟨#[]⟩:ByteArray),.string (⟨#[]⟩:ByteArray),.bool false] 32 (0,0)))∧aa (Below w.heap.size w wc))
      case first=>
       have H:=ad9.out
       clear ad9
       by_cases BO:(bt qp 0)=64
       ·rw [if_pos BO] at H
        have wX:=beq_iff_eq.mpr BO
        have SB:=bne_eq_false_iff_eq.mpr BO
        clear BO
        (first|rw [wX]|(simp only [cU,dh];rw [wX])|skip)
        obtain ⟨xg,A24,H⟩:=bd_ H
        by_cases Hx:xg < 0
        ·rw [if_pos Hx] at H
         have Su:=decide_eq_true Hx
         clear Hx
         simp only [Option.some.injEq,Prod.mk.injEq] at H
         obtain ⟨rfl,rfl,rfl,rfl,rfl,rfl,rfl⟩:=H
         go_wp2_with (first|((with_reducible refine aK (f:=74) rfl ?_);refine bU (some 41) rfl rfl Tryz.func74 aq rfl #[.string qp,.string (⟨#[58]⟩:ByteArray)] rfl cz ?_;(with_reducible refine (strings_Index.calls qp (⟨#[58]⟩:ByteArray) xg _ ?aT A24.out).mono ?_);(case aT=>exact aJ.below HG.out jy);rintro e w' ⟨rfl,⟨nd,rfl⟩⟩;refine ⟨_,rfl,?_⟩;(try (rw [sN BN];generalize Nq:World.drewN BN _=BN;have lJ:aa (BN.heap[ey]? =some (.cells #[.bool false,.slice none 0 0,.string (⟨#[]⟩:ByteArray),.string (⟨#[]⟩:ByteArray),.bool false] 32 (0,0))):=⟨by rw [← Nq];exact jJ⟩;have lK:aa (BN.heap[fT]? =some (.cells #[.bool false,.slice none 0 0,.string (⟨#[]⟩:ByteArray),.string (⟨#[]⟩:ByteArray),.bool false] 32 (0,0))):=⟨by rw [← Nq];exact ld⟩;have qb:aa (Below w.heap.size w BN):=⟨by rw [← Nq];exact jy⟩;clear cG cZ HB Nq;have cG:=lJ;have cZ:=lK;have HB:=qb;clear lJ lK qb));have acw:=lC.out;have acy:=nR.out;have uZ:BN.cell? ⟨ey,0,none⟩=some (.bool false):=(ah cG.out 0).trans rfl;have u5:BN.cell? ⟨ey,1,none⟩=some (.slice none 0 0):=(ah cG.out 1).trans rfl;have yA:BN.cell? ⟨ey,2,none⟩=some (.string (⟨#[]⟩:ByteArray)):=(ah cG.out 2).trans rfl;have yB:BN.cell? ⟨ey,3,none⟩=some (.string (⟨#[]⟩:ByteArray)):=(ah cG.out 3).trans rfl;have yC:BN.cell? ⟨ey,4,none⟩=some (.bool false):=(ah cG.out 4).trans rfl;have u7:=af cG.out 0;have u9:=af cG.out 1;have yD:=af cG.out 2;have yE:=af cG.out 3;have yF:=af cG.out 4))
         refine bodyPost_ret (iF rfl _ _ ey 32 #[.bool false,.slice none 0 0,.string (⟨#[]⟩:ByteArray),.string (⟨#[]⟩:ByteArray),.bool false] (0,0) _ rfl UW Tryz.underlying32 rfl aq) rfl ?_
         exact ⟨_,cH,mN,jy⟩
        ·rw [if_neg Hx] at H
         have Su:=decide_eq_false Hx
         clear Hx
         obtain ⟨c28,H⟩:=iA H
         have CW:=eq_true c28
         have V4:=decide_eq_true c28
         clear c28
         obtain ⟨c29,H⟩:=iA H
         have acd:=eq_true c29
         have agx:=decide_eq_true c29
         clear c29
         obtain ⟨jU,A30,H⟩:=bd_ H
         have H':=aa.mk H
         clear H
         go_wp2_with (first|((with_reducible refine aK (f:=74) rfl ?_);refine bU (some 41) rfl rfl Tryz.func74 aq rfl #[.string qp,.string (⟨#[58]⟩:ByteArray)] rfl cz ?_;(with_reducible refine (strings_Index.calls qp (⟨#[58]⟩:ByteArray) xg _ ?aT A24.out).mono ?_);(case aT=>exact aJ.below HG.out jy);rintro e w' ⟨rfl,⟨nd,rfl⟩⟩;refine ⟨_,rfl,?_⟩)|((with_reducible refine aK (f:=75) rfl ?_);refine bU (some 48) rfl rfl Tryz.func75 aq rfl #[.string (qp.extract 0 (xg:Int).toNat),.string (⟨#[44]⟩:ByteArray)] rfl cz ?_;(with_reducible refine (strings_Split.calls (qp.extract 0 (xg:Int).toNat) (⟨#[44]⟩:ByteArray) jU _ ?aT A30.out).mono ?_);(case aT=>exact aJ.below HG.out jy);rintro e TF ⟨ag4,rfl,ho0,hb⟩;refine ⟨_,rfl,?_⟩;have ag5:=aa.mk (Kd.kD ho0 (dm jy));replace cG:=aa.mk (aC jJ hb);replace cZ:=aa.mk (aC ld hb);replace HB:=aa.mk (aA jy hb);(try clear hb);(try clear ho0)))
         go_loopg [8,11] Fl (fun kq v8 v11 w'=>∃ (OO:Bool) (fF:Int) (lG:Bool) (kr:ByteArray) (jQ:ByteArray) (jB:Bool) (nS:List ByteArray) (jf:Value),v8= .bool OO∧v11= .int .i64 fF∧aa (aG.l0 kq xh qp OO xg jU fF false nS (⟨#[]⟩:ByteArray) (⟨#[]⟩:ByteArray) false=some (r1,r2,r3,r4,r5,r6,r7))∧aa (kq≤Fl)∧aa (Kd.R Kd.string 9 w' w.heap.size (fun k_ =>some k_≠(jf:Value).ownBlock) ag4 jU)∧aa (Kd.R Kd.string 9 w' w.heap.size (fun k_ =>some k_≠(ag4:Value).ownBlock) jf nS)∧aa (w'.heap[ey]? =some (.cells #[.bool lG,(.slice none 0 0),.string kr,.string jQ,.bool jB] 32 (0,0)))∧aa (w'.heap[fT]? =some (.cells #[.bool false,jf,.string (⟨#[]⟩:ByteArray),.string (⟨#[]⟩:ByteArray),.bool false] 32 (0,0)))∧aa (Below w.heap.size w w'))
         case atStart=>exact ⟨(false),(0),(false),((⟨#[]⟩:ByteArray)),((⟨#[]⟩:ByteArray)),(false),(([]:List ByteArray)),(.slice none 0 0),b9,b9,H',⟨Nat.le_refl _⟩,⟨by (with_reducible repeat (first|apply Kd.dQ|apply Kd.dR|apply Kd.dV));exact Kd.fS ag5.out (fun _ hk=>(by simp [Value.ownBlock]))⟩,⟨mN⟩,⟨jJ⟩,⟨ld⟩,⟨jy⟩⟩
         case round=>
          clear H'
          obtain ⟨OO,fF,lG,kr,jQ,jB,nS,jf,rfl,rfl,HA,uI,kA,dW,cG,cZ,HB⟩:=hrel
          cases gk with
          |zero=>exact absurd HA.out (by simp [aG.l0])
          |succ k2=>
           have H:=HA.out
           clear HA
           simp only [aG.l0] at H
           by_cases Hy:fF < (jU.length:Int)
           ·rw [if_pos Hy] at H
            have Sv:=decide_eq_true Hy
            clear Hy
            have aea:=aa.mk H
            clear H
            obtain ⟨lW,kV,aeb⟩:=Kd.gQ kA.out
            subst aeb
            go_upto_region 19 with (fail)
            go_cut [76] (fun v76 wc=>∃ (kq:Nat) (KN:Bool),v76= .bool KN∧aa (aG.j2 kq xh qp OO xg jU fF KN false nS (⟨#[]⟩:ByteArray) (⟨#[]⟩:ByteArray) false=some (r1,r2,r3,r4,r5,r6,r7))∧aa (kq≤k2)∧aa (Kd.R Kd.string 9 wc w.heap.size (fun k_ =>some k_≠(jf:Value).ownBlock) (.slice lW jU.length kV) jU)∧aa (Kd.R Kd.string 9 wc w.heap.size (fun k_ =>some k_≠((.slice lW jU.length kV):Value).ownBlock) jf nS)∧aa (wc.heap[ey]? =some (.cells #[.bool lG,(.slice none 0 0),.string kr,.string jQ,.bool jB] 32 (0,0)))∧aa (wc.heap[fT]? =some (.cells #[.bool false,jf,.string (⟨#[]⟩:ByteArray),.string (⟨#[]⟩:ByteArray),.bool false] 32 (0,0)))∧aa (Below w.heap.size w wc))
            case first=>
             have H:=aea.out
             clear aea
             obtain ⟨Hr,H⟩:=iA H
             have Fi:=decide_eq_true Hr
             clear Hr
             (first|rw [Fi]|(simp only [cU,dh];rw [Fi])|skip)
             by_cases zC:(cV ByteArray.empty jU fF).toList=([]:List UInt8)
             ·rw [if_pos zC] at H
              have L8:=beq_iff_eq.mpr zC
              have VC:=bne_eq_false_iff_eq.mpr zC
              clear zC
              have H':=aa.mk H
              clear H
              have FR: 0≤(fF:Int):=of_decide_eq_true bp
              have FT:fF < (jU.length:Int):=of_decide_eq_true bp
              obtain ⟨ME,W5,SH⟩:=Kd.cY (Kd.cP kA.out).2.2 fF FR FT
              cases W5
              replace FR:=eq_true FR
              replace FT:=eq_true FT
              go_wp2
              go_meet
              case rel=>exact ⟨_,(true),b9,H',⟨rO⟩,⟨tF⟩,⟨ny⟩,⟨jJ⟩,⟨ld⟩,⟨jy⟩⟩
             ·rw [if_neg zC] at H
              have L8:=beq_eq_false_iff_ne.mpr zC
              have VC:=bne_iff_ne.mpr zC
              obtain ⟨c37,H⟩:=iA H
              have CX:=decide_eq_true c37
              have Ra:decide (0 < (cV ByteArray.empty jU fF).size)=true:=decide_eq_true ak
              clear c37
              by_cases W6:(bt (cV ByteArray.empty jU fF) 0)=64
              ·rw [if_pos W6] at H
               have acz:=beq_iff_eq.mpr W6
               have acA:=bne_eq_false_iff_eq.mpr W6
               clear W6
               obtain ⟨c40,H⟩:=iA H
               have as8:=eq_true c40
               have as9:=decide_eq_true c40
               clear c40
               obtain ⟨aau,A41,H⟩:=bd_ H
               have H':=aa.mk H
               clear H
               have FR: 0≤(fF:Int):=of_decide_eq_true bp
               have FT:fF < (jU.length:Int):=of_decide_eq_true bp
               obtain ⟨ME,W5,SH⟩:=Kd.cY (Kd.cP kA.out).2.2 fF FR FT
               cases W5
               replace FR:=eq_true FR
               replace FT:=eq_true FT
               have OP: 0≤(fF:Int):=of_decide_eq_true bp
               have OQ:fF < (jU.length:Int):=of_decide_eq_true bp
               obtain ⟨W7,aec,aav⟩:=Kd.cY (Kd.cP kA.out).2.2 fF OP OQ
               obtain rfl:ME=W7:=(by injection aec)
               replace OP:=eq_true OP
               replace OQ:=eq_true OQ
               have p38: 0≤(0:Int):=ak
               have q38: 0 < (cV ByteArray.empty jU fF).size:=(by have:(0:Int) < ((cV ByteArray.empty jU fF).size:Int):=of_decide_eq_true bp;omega)
               have ap6:∀ h: 0 < (cV ByteArray.empty jU fF).size,(((cV ByteArray.empty jU fF)[0]'h).toNat:Int)=bt (cV ByteArray.empty jU fF) 0:=dA (cV ByteArray.empty jU fF) 0
               clear p38
               have ap7:(0 < ((cV ByteArray.empty jU fF).size:Int))=True:=eq_true (of_decide_eq_true bp)
               replace q38:=eq_true q38
               have aed: 0≤(fF:Int):=of_decide_eq_true bp
               have aee:fF < (jU.length:Int):=of_decide_eq_true bp
               obtain ⟨ag7,ap8,amg⟩:=Kd.cY (Kd.cP kA.out).2.2 fF aed aee
               obtain rfl:ME=ag7:=(by injection ap8)
               replace aed:=eq_true aed
               replace aee:=eq_true aee
               go_wp2_with (first|(go_at_call 76;(with_reducible refine (aQ.calls k2 ((cV ByteArray.empty jU fF).extract 1 (cV ByteArray.empty jU fF).size) aau _ ?aT A41.out).mono ?_);(case aT=>exact aJ.below HG.out jy);rintro e w42 ⟨rfl,hb⟩;replace kA:=aa.mk (Kd.ck tF hb);replace dW:=aa.mk (Kd.ck ny hb);replace cG:=aa.mk (aC jJ hb);replace cZ:=aa.mk (aC ld hb);replace HB:=aa.mk (aA jy hb);(try clear hb)))
               go_meet
               case rel=>exact ⟨_,(!aau),b9,H',⟨rO⟩,⟨tF⟩,⟨ny⟩,⟨jJ⟩,⟨ld⟩,⟨jy⟩⟩
              ·rw [if_neg W6] at H
               have acz:=beq_eq_false_iff_ne.mpr W6
               have acA:=bne_iff_ne.mpr W6
               have H':=aa.mk H
               clear H
               have FR: 0≤(fF:Int):=of_decide_eq_true bp
               have FT:fF < (jU.length:Int):=of_decide_eq_true bp
               obtain ⟨ME,W5,SH⟩:=Kd.cY (Kd.cP kA.out).2.2 fF FR FT
               cases W5
               replace FR:=eq_true FR
               replace FT:=eq_true FT
               have OP: 0≤(fF:Int):=of_decide_eq_true bp
               have OQ:fF < (jU.length:Int):=of_decide_eq_true bp
               obtain ⟨W7,aec,aav⟩:=Kd.cY (Kd.cP kA.out).2.2 fF OP OQ
               obtain rfl:ME=W7:=(by injection aec)
               replace OP:=eq_true OP
               replace OQ:=eq_true OQ
               have p38: 0≤(0:Int):=ak
               have q38: 0 < (cV ByteArray.empty jU fF).size:=(by have:(0:Int) < ((cV ByteArray.empty jU fF).size:Int):=of_decide_eq_true bp;omega)
               have ap6:∀ h: 0 < (cV ByteArray.empty jU fF).size,(((cV ByteArray.empty jU fF)[0]'h).toNat:Int)=bt (cV ByteArray.empty jU fF) 0:=dA (cV ByteArray.empty jU fF) 0
               clear p38
               have ap7:(0 < ((cV ByteArray.empty jU fF).size:Int))=True:=eq_true (of_decide_eq_true bp)
               replace q38:=eq_true q38
               go_wp2
               go_meet
               case rel=>exact ⟨_,(true),b9,H',⟨rO⟩,⟨tF⟩,⟨ny⟩,⟨jJ⟩,⟨ld⟩,⟨jy⟩⟩
            case rest=>
             clear aea
             obtain ⟨kq,KN,rfl,HA,aaw,kA,dW,cG,cZ,HB⟩:=hcut
             cases kq with
             |zero=>exact absurd HA.out (by simp [aG.j2])
             |succ MF=>
              have H:=HA.out
              clear HA
              simp only [aG.j2] at H
              by_cases c43:KN=true
              ·subst c43
               rw [if_pos rfl] at H
               simp only [Option.some.injEq,Prod.mk.injEq] at H
               obtain ⟨rfl,rfl,rfl,rfl,rfl,rfl,rfl⟩:=H
               have af0:=lC.out
               have af1:=nR.out
               have Rx:wc.cell? ⟨ey,0,none⟩=some (.bool lG):=(ah cG.out 0).trans rfl
               have Ry:wc.cell? ⟨ey,1,none⟩=some (.slice none 0 0):=(ah cG.out 1).trans rfl
               have Rz:wc.cell? ⟨ey,2,none⟩=some (.string kr):=(ah cG.out 2).trans rfl
               have Zw:wc.cell? ⟨ey,3,none⟩=some (.string jQ):=(ah cG.out 3).trans rfl
               have Zx:wc.cell? ⟨ey,4,none⟩=some (.bool jB):=(ah cG.out 4).trans rfl
               have RA:=af cG.out 0
               have RB:=af cG.out 1
               have RD:=af cG.out 2
               have Zy:=af cG.out 3
               have Zz:=af cG.out 4
               go_wp2
               refine bodyPost_ret (iF rfl _ _ ey 32 #[.bool false,.slice none 0 0,.string (⟨#[]⟩:ByteArray),.string (⟨#[]⟩:ByteArray),.bool false] (0,0) _ rfl (by (with_reducible repeat (first|refine ay ?_ _|refine az ?_|refine av ?_ _));refine bR (cs:=#[.bool false,.slice none 0 0,.string (⟨#[]⟩:ByteArray),.string (⟨#[]⟩:ByteArray),.bool jB]) ?_ 4 _ rfl;(with_reducible repeat (first|refine ay ?_ _|refine az ?_|refine av ?_ _));refine bR (cs:=#[.bool false,.slice none 0 0,.string (⟨#[]⟩:ByteArray),.string jQ,.bool jB]) ?_ 3 _ rfl;(with_reducible repeat (first|refine ay ?_ _|refine az ?_|refine av ?_ _));refine bR (cs:=#[.bool false,.slice none 0 0,.string kr,.string jQ,.bool jB]) ?_ 2 _ rfl;(with_reducible repeat (first|refine ay ?_ _|refine az ?_|refine av ?_ _));refine bR (cs:=#[.bool false,.slice none 0 0,.string kr,.string jQ,.bool jB]) ?_ 1 _ rfl;(with_reducible repeat (first|refine ay ?_ _|refine az ?_|refine av ?_ _));refine bR (cs:=#[.bool lG,.slice none 0 0,.string kr,.string jQ,.bool jB]) ?_ 0 _ rfl;(with_reducible repeat (first|refine ay ?_ _|refine az ?_|refine av ?_ _));exact cG.out) Tryz.underlying32 rfl aq) rfl ?_
               exact ⟨_,cH,mN,jy⟩
              ·replace c43:=Bool.eq_false_iff.mpr c43
               subst c43
               rw [if_neg (show ¬ (false=true) by decide)] at H
               obtain ⟨c46,H⟩:=iA H
               have ag8:=decide_eq_true c46
               clear c46
               obtain ⟨c47,H⟩:=iA H
               have atb:=decide_eq_true c47
               clear c47
               obtain ⟨c48,H⟩:=iA H
               have atc:=eq_true c48
               have atd:=decide_eq_true c48
               clear c48
               obtain ⟨KM,A49,H⟩:=bd_ H
               obtain ⟨c50,H⟩:=iA H
               have acC:=aa.mk c50
               clear c50
               obtain ⟨zK,MG⟩:∃ y_:List ByteArray,y_=(nS ++ [KM]):=⟨_,rfl⟩
               replace H:(if OO=true then (aG.l0 MF xh qp true xg jU (wrap64 (fF + 1)) false zK (⟨#[]⟩:ByteArray) (⟨#[]⟩:ByteArray) false) else ((bE.f MF ((cV ByteArray.empty jU fF).extract 1 (cV ByteArray.empty jU fF).size)).bind fun TT=>(aG.l0 MF xh qp (!TT) xg jU (wrap64 (fF + 1)) false zK (⟨#[]⟩:ByteArray) (⟨#[]⟩:ByteArray) false)))=some (r1,r2,r3,r4,r5,r6,r7):=by first|(rw [MG];with_reducible exact H)|(have uY:=(Option.bind_some _ _).symm.trans H;rw [MG];with_reducible exact uY)|(have uY:=(Option.bind_some _ _).symm.trans H;with_reducible exact uY)|with_reducible exact H|(rw [MG];exact H)|exact H
               have acD:=aa.mk MG
               clear MG
               by_cases c51:OO=true
               ·subst c51
                rw [if_pos rfl] at H
                have H':=aa.mk H
                clear H
                try go_wp2
                have lJ:=aa.mk (Kd.dV kA.out)
                have lK:=aa.mk (Kd.dV dW.out)
                have qb:=aa.mk (az cG.out)
                have sS:=aa.mk (az cZ.out)
                have sU:=aa.mk (bf HB.out)
                clear kA
                clear dW
                clear cG
                clear cZ
                clear HB
                have kA:=lJ
                have dW:=lK
                have cG:=qb
                have cZ:=sS
                have HB:=sU
                clear lJ lK qb sS sU
                have OS: 0≤(fF:Int):=of_decide_eq_true bp
                have OT:fF < (jU.length:Int):=of_decide_eq_true bp
                obtain ⟨FU,aef,Bl⟩:=Kd.cY (Kd.cP kA.out).2.2 fF OS OT
                cases aef
                replace OS:=eq_true OS
                replace OT:=eq_true OT
                refine rE (n:=12) (S:=fun w'=>w'.cell? ⟨fT,0,none⟩=some (.bool false)∧w'.cell? ⟨fT,1,none⟩=some (jf)∧w'.cell? ⟨fT,2,none⟩=some (.string (⟨#[]⟩:ByteArray))∧w'.cell? ⟨fT,3,none⟩=some (.string (⟨#[]⟩:ByteArray))∧w'.cell? ⟨fT,4,none⟩=some (.bool false)∧w'.cell? (FU.add (fF).toNat)=some (.string (cV ByteArray.empty jU fF))) (ds:=[9,11]) #[false,false,false,false,false,false,false,false,false,false,false,false] aq (by rfl) (by rfl) ⟨(ah cZ.out 0).trans rfl,(ah cZ.out 1).trans rfl,(ah cZ.out 2).trans rfl,(ah cZ.out 3).trans rfl,(ah cZ.out 4).trans rfl,Bl⟩ (fun hHeld=>?_);refine nj aG.acv aG.W4 (fun iE zh=>?_)
                generalize wc.drew=w52 at kA dW cG cZ HB Bl hHeld ⊢
                refine cO (i:=0) (N:=some 78) #[true,false,false,false,false,false,false,false,false,false,false,false] rfl rfl (cW iE.out aq) (fun _ _ _ h=>h) (Or.inl ⟨by rfl,dK⟩) dL ?_
                refine cO (i:=2) (N:=some 80) #[true,false,true,false,false,false,false,false,false,false,false,false] rfl rfl (cW iE.out aq) (fun _ _ _ h=>h) (Or.inl ⟨by rfl,dK⟩) dL ?_
                refine cO (i:=3) (N:=some 81) #[true,false,true,true,false,false,false,false,false,false,false,false] rfl rfl (cW iE.out aq) (fun _ _ _ h=>h) (Or.inl ⟨by rfl,dK⟩) dL ?_
                refine cO (i:=4) (N:=some 82) #[true,false,true,true,true,false,false,false,false,false,false,false] rfl rfl (cW iE.out aq) (fun _ _ _ h=>h) (Or.inl ⟨by rfl,dK⟩) dL ?_
                refine ke (i:=1) (N:=some 79) #[true,true,true,true,true,false,false,false,false,false,false,false] rfl rfl (iO iE.out zh.out aq) (fun _ _ _ h=>h) (Or.inl ⟨by rfl,tI⟩) hHeld dL ?_
                refine ke (i:=5) (N:=some 83) #[true,true,true,true,true,true,false,false,false,false,false,false] rfl rfl (iO iE.out zh.out aq) (fun _ _ _ h=>h) (Or.inl ⟨by rfl,tI⟩) hHeld dL ?_
                refine cO (i:=6) (N:=some 84) #[true,true,true,true,true,true,true,false,false,false,false,false] rfl rfl (cW iE.out aq) (fun _ _ _ h=>h) (Or.inl ⟨by rfl,dK⟩) dL ?_
                refine zx (i:=7) (N:=some 85) #[true,true,true,true,true,true,true,true,false,false,false,false] rfl rfl (nA iE.out aq) bh (fun K hK=>?_)
                refine vV Tryz.func73 aq rfl #[.string ((cV ByteArray.empty jU fF).extract 1 (cV ByteArray.empty jU fF).size)] (by rfl) rfl rfl cz ?_
                with_reducible refine (aY.calls MF ((cV ByteArray.empty jU fF).extract 1 (cV ByteArray.empty jU fF).size) KM _ A49.out).mono ?_
                rintro e w53 ⟨rfl,hb⟩
                have aeg:=(hb.cell (World.block_lt_of_cell? _ _ (hHeld.2.2.2.2.2))).trans (hHeld.2.2.2.2.2)
                refine ⟨_,rfl,?_⟩
                have lJ:=aa.mk (Kd.ck tF hb)
                have lK:=aa.mk (Kd.ck ny hb)
                have qb:=aa.mk (aC (g:=ey) (o:= .cells #[.bool lG,.slice none 0 0,.string kr,.string jQ,.bool jB] 32 (0,0)) jJ hb)
                have sS:=aa.mk (aC (g:=fT) (o:= .cells #[.bool false,jf,.string (⟨#[]⟩:ByteArray),.string (⟨#[]⟩:ByteArray),.bool false] 32 (0,0)) ld hb)
                have sU:=aa.mk (aA jy hb)
                clear kA
                clear dW
                clear cG
                clear cZ
                clear HB
                have kA:=lJ
                have dW:=lK
                have cG:=qb
                have cZ:=sS
                have HB:=sU
                clear lJ lK qb sS sU
                refine hK.out _ _ ⟨(ah cZ.out 0).trans rfl,(ah cZ.out 1).trans rfl,(ah cZ.out 2).trans rfl,(ah cZ.out 3).trans rfl,(ah cZ.out 4).trans rfl,aeg⟩ (fun hHeld=>?_)
                clear hK K
                refine rL (a':=?_) ?_ ?_
                rotate_left
                ·show Act.put _ (some 85) _=_
                 simp only [Act.put,List.setIfInBounds_toArray,List.set_cons_zero,List.set_cons_succ,cU,dh]
                 rfl
                refine zx (i:=8) (N:=some 86) #[true,true,true,true,true,true,true,true,true,false,false,false] rfl rfl (nA iE.out aq) bh (fun K hK=>?_)
                refine Vi (w1:=?_) (v:=?_) (by rfl) rfl ?_ ?_
                rotate_left 2
                ·go_simp
                 constructor
                 ·rfl
                 ·rfl
                refine hK.out _ _ ⟨(ah (av cZ.out _) 0).trans rfl,(ah (av cZ.out _) 1).trans rfl,(ah (av cZ.out _) 2).trans rfl,(ah (av cZ.out _) 3).trans rfl,(ah (av cZ.out _) 4).trans rfl,(World.cell?_alloc_lt _ _ _ (World.block_lt_of_cell? _ _ (hHeld.2.2.2.2.2))).trans (hHeld.2.2.2.2.2)⟩ (fun hHeld=>?_)
                clear hK K
                refine rL (a':=?_) ?_ ?_
                rotate_left
                ·show Act.put _ (some 86) _=_
                 simp only [Act.put,List.setIfInBounds_toArray,List.set_cons_zero,List.set_cons_succ,cU,dh]
                 rfl
                refine QS (i:=9) (N:=some 87) #[true,true,true,true,true,true,true,true,true,true,false,false] rfl rfl (nA iE.out aq) bh (fun K hK=>?_)
                refine Kd.yZ Kd.string (w0:=w) w.heap.size (by rfl) (.tmp 79) (.tmp 86) 28 9 (.string ⟨#[]⟩) 16 rfl Tryz.underlying28 Vp rfl bh ak jf nS KM [.string KM] (fun k_ =>some k_≠(.slice (some FU) jU.length kV:Value).ownBlock) (fun _ =>False) rfl rfl ?aP (fun _ hk=>hk.elim) ?aF ?aO ?aB ?aS ?aL ?_
                (case aP=>exact rfl)
                (case aB=>exact jy)
                (case aF=>exact (fun k_ hk=>Kd.fresh' (Kd.Vf tF) k_ hk))
                (case aO=>exact ny)
                (case aS=>exact (dm jy))
                (case aL=>have:=acC.out;omega)
                intro aqa w54 ho hb hg hat
                rw [← acD.out] at ho
                have lJ:=aa.mk (Kd.QM (ok:=(fun _ =>True)) Qz hg hat)
                have lK:=aa.mk (ni (g:=ey) (o:= .cells #[.bool lG,.slice none 0 0,.string kr,.string jQ,.bool jB] 32 (0,0)) jJ hg (Kd.EW dW.out cG.out bh))
                have qb:=aa.mk (ni (g:=fT) (o:= .cells #[.bool false,jf,.string (⟨#[]⟩:ByteArray),.string (⟨#[]⟩:ByteArray),.bool false] 32 (0,0)) ld hg (Kd.EW dW.out cZ.out bh))
                have sS:=aa.mk (hb)
                have sU:=aa.mk (ho)
                clear kA
                clear cG
                clear cZ
                clear HB
                clear dW
                have kA:=lJ
                have cG:=lK
                have cZ:=qb
                have HB:=sS
                have FV:=sU
                clear lJ lK qb sS sU
                clear ho hb hg hat
                obtain ⟨aeh,aei,ag9⟩:=Kd.gQ FV.out
                (first|subst ag9|(injection ag9 with f1_ f2_ f3_;have f4_ :=f1_.symm;have f5_ :=f3_.symm;clear f1_ f2_ f3_;subst f4_;subst f5_))
                refine hK.out _ _ ?_
                clear hK K
                refine rL (a':=?_) ?_ ?_
                rotate_left
                ·show Act.put _ (some 87) _=_
                 simp only [Act.put,List.setIfInBounds_toArray,List.set_cons_zero,List.set_cons_succ,cU,dh]
                 rfl
                refine cO (i:=10) (N:=some 88) #[true,true,true,true,true,true,true,true,true,true,true,false] rfl rfl (cW iE.out aq) (fun _ _ _ h=>h) (Or.inl ⟨by rfl,dK⟩) dL ?_
                refine QS (i:=11) (N:=none) #[true,true,true,true,true,true,true,true,true,true,true,true] rfl rfl (nA iE.out aq) bh (fun K hK=>?_)
                have ape:w54.cell? ⟨fT,1,none⟩=some (jf):=(ah cZ.out 1).trans rfl
                have af2:=af cZ.out 1
                have amh:=lC.out
                have ami:=nR.out
                refine Vj (w1:=?_) (by rfl) rfl ?_ ?_
                rotate_left
                ·go_simp
                 rfl
                refine hK.out _ _ ?_
                clear hK K
                refine vU (qC iE.out aq) ?_
                try go_wp2
                go_roundg MF
                case measure=>have:=Lp.out;have:=uI.out;have:=aaw.out;omega
                case rel=>exact ⟨(true),(wrap64 (fF + 1)),(lG),(kr),(jQ),(jB),(zK),(.slice aeh zK.length aei),b9,b9,H',⟨by have:=Lp.out;have:=uI.out;have:=aaw.out;omega⟩,⟨by (with_reducible repeat (first|apply Kd.dQ|apply Kd.dR|apply Kd.dV));exact Kd.fS (Kd.eB (p:=⟨fT,1,none⟩) (Kd.jW kA.out cZ.out bh) (fun _ hk=>hk.2) (.slice aeh zK.length aei)) (fun _ hk=>hk.1.2)⟩,⟨by (with_reducible repeat (first|apply Kd.dQ|apply Kd.dR|apply Kd.dV));exact Kd.fS (Kd.eB (p:=⟨fT,1,none⟩) (Kd.jW FV.out cZ.out bh) (fun _ hk=>hk.2) (.slice aeh zK.length aei)) (fun _ hk=>hk.1)⟩,⟨Qg⟩,⟨Qb⟩,⟨jy⟩⟩
               ·replace c51:=Bool.eq_false_iff.mpr c51
                subst c51
                rw [if_neg (show ¬ (false=true) by decide)] at H
                have atg:=eq_true (of_decide_eq_true bp: 1≤((cV ByteArray.empty jU fF).size:Int))
                obtain ⟨TT,A58,H⟩:=bd_ H
                have H':=aa.mk H
                clear H
                try go_wp2
                have lJ:=aa.mk (Kd.dV kA.out)
                have lK:=aa.mk (Kd.dV dW.out)
                have qb:=aa.mk (az cG.out)
                have sS:=aa.mk (az cZ.out)
                have sU:=aa.mk (bf HB.out)
                clear kA
                clear dW
                clear cG
                clear cZ
                clear HB
                have kA:=lJ
                have dW:=lK
                have cG:=qb
                have cZ:=sS
                have HB:=sU
                clear lJ lK qb sS sU
                have OS: 0≤(fF:Int):=of_decide_eq_true bp
                have OT:fF < (jU.length:Int):=of_decide_eq_true bp
                obtain ⟨FU,aef,Bl⟩:=Kd.cY (Kd.cP kA.out).2.2 fF OS OT
                cases aef
                replace OS:=eq_true OS
                replace OT:=eq_true OT
                refine rE (n:=12) (S:=fun w'=>w'.cell? ⟨fT,0,none⟩=some (.bool false)∧w'.cell? ⟨fT,1,none⟩=some (jf)∧w'.cell? ⟨fT,2,none⟩=some (.string (⟨#[]⟩:ByteArray))∧w'.cell? ⟨fT,3,none⟩=some (.string (⟨#[]⟩:ByteArray))∧w'.cell? ⟨fT,4,none⟩=some (.bool false)∧w'.cell? (FU.add (fF).toNat)=some (.string (cV ByteArray.empty jU fF))) (ds:=[9,11]) #[false,false,false,false,false,false,false,false,false,false,false,false] aq (by rfl) (by rfl) ⟨(ah cZ.out 0).trans rfl,(ah cZ.out 1).trans rfl,(ah cZ.out 2).trans rfl,(ah cZ.out 3).trans rfl,(ah cZ.out 4).trans rfl,Bl⟩ (fun hHeld=>?_);refine nj aG.acv aG.W4 (fun iE zh=>?_)
                generalize wc.drew=w59 at kA dW cG cZ HB Bl hHeld ⊢
                refine cO (i:=0) (N:=some 78) #[true,false,false,false,false,false,false,false,false,false,false,false] rfl rfl (cW iE.out aq) (fun _ _ _ h=>h) (Or.inl ⟨by rfl,dK⟩) dL ?_
                refine cO (i:=2) (N:=some 80) #[true,false,true,false,false,false,false,false,false,false,false,false] rfl rfl (cW iE.out aq) (fun _ _ _ h=>h) (Or.inl ⟨by rfl,dK⟩) dL ?_
                refine cO (i:=3) (N:=some 81) #[true,false,true,true,false,false,false,false,false,false,false,false] rfl rfl (cW iE.out aq) (fun _ _ _ h=>h) (Or.inl ⟨by rfl,dK⟩) dL ?_
                refine cO (i:=4) (N:=some 82) #[true,false,true,true,true,false,false,false,false,false,false,false] rfl rfl (cW iE.out aq) (fun _ _ _ h=>h) (Or.inl ⟨by rfl,dK⟩) dL ?_
                refine ke (i:=1) (N:=some 79) #[true,true,true,true,true,false,false,false,false,false,false,false] rfl rfl (iO iE.out zh.out aq) (fun _ _ _ h=>h) (Or.inl ⟨by rfl,tI⟩) hHeld dL ?_
                refine ke (i:=5) (N:=some 83) #[true,true,true,true,true,true,false,false,false,false,false,false] rfl rfl (iO iE.out zh.out aq) (fun _ _ _ h=>h) (Or.inl ⟨by rfl,tI⟩) hHeld dL ?_
                refine cO (i:=6) (N:=some 84) #[true,true,true,true,true,true,true,false,false,false,false,false] rfl rfl (cW iE.out aq) (fun _ _ _ h=>h) (Or.inl ⟨by rfl,dK⟩) dL ?_
                refine zx (i:=7) (N:=some 85) #[true,true,true,true,true,true,true,true,false,false,false,false] rfl rfl (nA iE.out aq) bh (fun K hK=>?_)
                refine vV Tryz.func73 aq rfl #[.string ((cV ByteArray.empty jU fF).extract 1 (cV ByteArray.empty jU fF).size)] (by rfl) rfl rfl cz ?_
                with_reducible refine (aY.calls MF ((cV ByteArray.empty jU fF).extract 1 (cV ByteArray.empty jU fF).size) KM _ A49.out).mono ?_
                rintro e w60 ⟨rfl,hb⟩
                have aeg:=(hb.cell (World.block_lt_of_cell? _ _ (hHeld.2.2.2.2.2))).trans (hHeld.2.2.2.2.2)
                refine ⟨_,rfl,?_⟩
                have lJ:=aa.mk (Kd.ck tF hb)
                have lK:=aa.mk (Kd.ck ny hb)
                have qb:=aa.mk (aC (g:=ey) (o:= .cells #[.bool lG,.slice none 0 0,.string kr,.string jQ,.bool jB] 32 (0,0)) jJ hb)
                have sS:=aa.mk (aC (g:=fT) (o:= .cells #[.bool false,jf,.string (⟨#[]⟩:ByteArray),.string (⟨#[]⟩:ByteArray),.bool false] 32 (0,0)) ld hb)
                have sU:=aa.mk (aA jy hb)
                clear kA
                clear dW
                clear cG
                clear cZ
                clear HB
                have kA:=lJ
                have dW:=lK
                have cG:=qb
                have cZ:=sS
                have HB:=sU
                clear lJ lK qb sS sU
                refine hK.out _ _ ⟨(ah cZ.out 0).trans rfl,(ah cZ.out 1).trans rfl,(ah cZ.out 2).trans rfl,(ah cZ.out 3).trans rfl,(ah cZ.out 4).trans rfl,aeg⟩ (fun hHeld=>?_)
                clear hK K
                refine rL (a':=?_) ?_ ?_
                rotate_left
                ·show Act.put _ (some 85) _=_
                 simp only [Act.put,List.setIfInBounds_toArray,List.set_cons_zero,List.set_cons_succ,cU,dh]
                 rfl
                refine zx (i:=8) (N:=some 86) #[true,true,true,true,true,true,true,true,true,false,false,false] rfl rfl (nA iE.out aq) bh (fun K hK=>?_)
                refine Vi (w1:=?_) (v:=?_) (by rfl) rfl ?_ ?_
                rotate_left 2
                ·go_simp
                 constructor
                 ·rfl
                 ·rfl
                refine hK.out _ _ ⟨(ah (av cZ.out _) 0).trans rfl,(ah (av cZ.out _) 1).trans rfl,(ah (av cZ.out _) 2).trans rfl,(ah (av cZ.out _) 3).trans rfl,(ah (av cZ.out _) 4).trans rfl,(World.cell?_alloc_lt _ _ _ (World.block_lt_of_cell? _ _ (hHeld.2.2.2.2.2))).trans (hHeld.2.2.2.2.2)⟩ (fun hHeld=>?_)
                clear hK K
                refine rL (a':=?_) ?_ ?_
                rotate_left
                ·show Act.put _ (some 86) _=_
                 simp only [Act.put,List.setIfInBounds_toArray,List.set_cons_zero,List.set_cons_succ,cU,dh]
                 rfl
                refine QS (i:=9) (N:=some 87) #[true,true,true,true,true,true,true,true,true,true,false,false] rfl rfl (nA iE.out aq) bh (fun K hK=>?_)
                refine Kd.yZ Kd.string (w0:=w) w.heap.size (by rfl) (.tmp 79) (.tmp 86) 28 9 (.string ⟨#[]⟩) 16 rfl Tryz.underlying28 Vp rfl bh ak jf nS KM [.string KM] (fun k_ =>some k_≠(.slice (some FU) jU.length kV:Value).ownBlock) (fun _ =>False) rfl rfl ?aP (fun _ hk=>hk.elim) ?aF ?aO ?aB ?aS ?aL ?_
                (case aP=>exact rfl)
                (case aB=>exact jy)
                (case aF=>exact (fun k_ hk=>Kd.fresh' (Kd.Vf tF) k_ hk))
                (case aO=>exact ny)
                (case aS=>exact (dm jy))
                (case aL=>have:=acC.out;omega)
                intro aqa w61 ho hb hg hat
                rw [← acD.out] at ho
                have lJ:=aa.mk (Kd.QM (ok:=(fun _ =>True)) Qz hg hat)
                have lK:=aa.mk (ni (g:=ey) (o:= .cells #[.bool lG,.slice none 0 0,.string kr,.string jQ,.bool jB] 32 (0,0)) jJ hg (Kd.EW dW.out cG.out bh))
                have qb:=aa.mk (ni (g:=fT) (o:= .cells #[.bool false,jf,.string (⟨#[]⟩:ByteArray),.string (⟨#[]⟩:ByteArray),.bool false] 32 (0,0)) ld hg (Kd.EW dW.out cZ.out bh))
                have sS:=aa.mk (hb)
                have sU:=aa.mk (ho)
                clear kA
                clear cG
                clear cZ
                clear HB
                clear dW
                have kA:=lJ
                have cG:=lK
                have cZ:=qb
                have HB:=sS
                have FV:=sU
                clear lJ lK qb sS sU
                clear ho hb hg hat
                obtain ⟨W8,W9,ahc⟩:=Kd.gQ FV.out
                (first|subst ahc|(injection ahc with f1_ f2_ f3_;have f4_ :=f1_.symm;have f5_ :=f3_.symm;clear f1_ f2_ f3_;subst f4_;subst f5_))
                refine hK.out _ _ ?_
                clear hK K
                refine rL (a':=?_) ?_ ?_
                rotate_left
                ·show Act.put _ (some 87) _=_
                 simp only [Act.put,List.setIfInBounds_toArray,List.set_cons_zero,List.set_cons_succ,cU,dh]
                 rfl
                refine cO (i:=10) (N:=some 88) #[true,true,true,true,true,true,true,true,true,true,true,false] rfl rfl (cW iE.out aq) (fun _ _ _ h=>h) (Or.inl ⟨by rfl,dK⟩) dL ?_
                refine QS (i:=11) (N:=none) #[true,true,true,true,true,true,true,true,true,true,true,true] rfl rfl (nA iE.out aq) bh (fun K hK=>?_)
                have awk:w61.cell? ⟨fT,1,none⟩=some (jf):=(ah cZ.out 1).trans rfl
                have ath:=af cZ.out 1
                have amj:=lC.out
                have amk:=nR.out
                refine Vj (w1:=?_) (by rfl) rfl ?_ ?_
                rotate_left
                ·go_simp
                 rfl
                refine hK.out _ _ ?_
                clear hK K
                refine vU (qC iE.out aq) ?_
                have aej: 0≤(fF:Int):=of_decide_eq_true bp
                have aek:fF < (jU.length:Int):=of_decide_eq_true bp
                obtain ⟨ahd,aqe,SI⟩:=Kd.cY (Kd.cP kA.out).2.2 fF aej aek
                obtain rfl:FU=ahd:=(by injection aqe)
                have EA:FU.block≠fT:=Kd.QN (Kd.EW kA.out cZ.out bh)
                replace SI:=(cell_far (p:=⟨fT,1,none⟩) (by first|(rw [add_block];exact EA)|(show (Addr.add _ _).block≠_;rw [add_block];exact EA)|exact EA) (.slice W8 zK.length W9)).trans SI
                clear EA
                replace aej:=eq_true aej
                replace aek:=eq_true aek
                try go_wp2_with (first|(go_at_call 77;(with_reducible refine (bE.calls MF ((cV ByteArray.empty jU fF).extract 1 (cV ByteArray.empty jU fF).size) TT _ ?aT A58.out).mono ?_);(case aT=>exact aJ.below HG.out jy);rintro e w64 ⟨rfl,hb⟩;replace kA:=aa.mk (Kd.ck (by (with_reducible repeat (first|apply Kd.dQ|apply Kd.dR|apply Kd.dV));exact (Kd.fS (Kd.eB (p:=⟨fT,1,none⟩) (Kd.jW kA.out cZ.out bh) (fun _ hk=>hk.2) (.slice W8 zK.length W9)) (fun _ h_ =>h_.1))) hb);replace FV:=aa.mk (Kd.ck (by (with_reducible repeat (first|apply Kd.dQ|apply Kd.dR|apply Kd.dV));exact (Kd.fS (Kd.eB (p:=⟨fT,1,none⟩) (Kd.jW FV.out cZ.out bh) (fun _ hk=>hk.2) (.slice W8 zK.length W9)) (fun _ h_ =>h_.1))) hb);replace cG:=aa.mk (aC (g:=ey) (o:= .cells #[.bool lG,.slice none 0 0,.string kr,.string jQ,.bool jB] 32 (0,0)) Qg hb);replace cZ:=aa.mk (aC (g:=fT) (o:= .cells #[.bool false,.slice W8 zK.length W9,.string (⟨#[]⟩:ByteArray),.string (⟨#[]⟩:ByteArray),.bool false] 32 (0,0)) Qb hb);replace HB:=aa.mk (aA jy hb);(try clear hb);(try clear hk)))
                go_roundg MF
                case measure=>have:=Lp.out;have:=uI.out;have:=aaw.out;omega
                case rel=>exact ⟨(!TT),(wrap64 (fF + 1)),(lG),(kr),(jQ),(jB),(zK),(.slice W8 zK.length W9),b9,b9,H',⟨by have:=Lp.out;have:=uI.out;have:=aaw.out;omega⟩,⟨by (with_reducible repeat (first|apply Kd.dQ|apply Kd.dR|apply Kd.dV));exact Kd.fS kA.out (fun _ hk=>hk.2)⟩,⟨by (with_reducible repeat (first|apply Kd.dQ|apply Kd.dR|apply Kd.dV));exact FV.out⟩,⟨jJ⟩,⟨ld⟩,⟨jy⟩⟩
           ·rw [if_neg Hy] at H
            have Sv:=decide_eq_false Hy
            clear Hy
            obtain ⟨ahe,SJ⟩:∃ j_:Int,(wrap64 (xg + 1))=j_ :=⟨_,rfl⟩
            (first|rw [SJ] at H|simp only [SJ] at H)
            have aqf:(IntKind.i64.wrap (xg + 1))=ahe:=(cU _).trans SJ
            obtain ⟨c66,H⟩:=iA H
            have ati:=eq_true c66
            have atj:=decide_eq_true c66
            clear c66
            obtain ⟨c67,H⟩:=iA H
            have atk:=eq_true c67
            have atl:=decide_eq_true c67
            clear c67
            have H':=aa.mk H
            clear H
            obtain ⟨awl,awm,aqi⟩:=Kd.gQ kA.out
            subst aqi
            go_wp2
            go_meet
            case rel=>exact ⟨_,(qp.extract ((ahe):Int).toNat qp.size),(OO),(lG),(kr),(jQ),(jB),(nS),(jf),(by first|rfl|(simp;done)|(simp only [← SJ]<;>(first|rfl|simp))|(simp [*];done)),b9,H',⟨rO⟩,⟨by (with_reducible repeat (first|apply Kd.dQ|apply Kd.dR|apply Kd.dV));exact Kd.fS dW.out (fun _ hk=>trivial)⟩,⟨jJ⟩,⟨ld⟩,⟨jy⟩⟩
       ·rw [if_neg BO] at H
        have wX:=beq_eq_false_iff_ne.mpr BO
        have SB:=bne_iff_ne.mpr BO
        (first|rw [wX]|(simp only [cU,dh];rw [wX])|skip)
        have H':=aa.mk H
        clear H
        go_wp2
        go_meet
        case rel=>exact ⟨_,qp,(false),(false),((⟨#[]⟩:ByteArray)),((⟨#[]⟩:ByteArray)),(false),(([]:List ByteArray)),(.slice none 0 0),b9,b9,H',⟨by have:=Lp.out;first|omega|exact Nat.le_refl _⟩,⟨mN⟩,⟨jJ⟩,⟨ld⟩,⟨jy⟩⟩
      case rest=>
       clear ad9
       obtain ⟨kq,uA,SG,kW,iH,gM,fU,jc,jf,rfl,rfl,HA,awn,dW,cG,cZ,HB⟩:=hcut
       cases kq with
       |zero=>exact absurd HA.out (by simp [aG.j3])
       |succ OU=>
        have H:=HA.out
        clear HA
        simp only [aG.j3] at H
        obtain ⟨⟨vZ,yU,Aq,aqj⟩,A69,H⟩:=bd_ H
        (try dsimp only at H)
        by_cases c70:aqj=true
        ·subst c70
         rw [if_pos rfl] at H
         by_cases c71:SG=true
         ·subst c71
          rw [if_pos rfl] at H
          simp only [Option.some.injEq,Prod.mk.injEq] at H
          obtain ⟨rfl,rfl,rfl,rfl,rfl,rfl,rfl⟩:=H
          go_wp2_with (first|((with_reducible refine aK (f:=78) rfl ?_);refine bU (some 105) rfl rfl Tryz.func78 aq rfl #[.string uA] rfl cz ?_;(with_reducible refine (bI.calls OU uA vZ yU Aq true _ ?aT A69.out).mono ?_);(case aT=>exact aJ.below HG.out jy);rintro e w72 ⟨rfl,hb⟩;refine ⟨_,rfl,?_⟩;replace dW:=aa.mk (Kd.ck ny hb);replace cG:=aa.mk (aC jJ hb);replace cZ:=aa.mk (aC ld hb);replace HB:=aa.mk (aA jy hb);(try clear hb))|((with_reducible refine cB (N:=12) rfl ?_);(try (refine cL (by rfl) ?_;dsimp only));refine cj ?hg (N:=12) ?hd (cs:=#[.string (⟨#[]⟩:ByteArray),.string (⟨#[]⟩:ByteArray),.bool false]) (t:=30) ?hr ?_;(case hd=>rfl);(case hg=>rfl);(case hr=>first|(go_simp;done)|(go_simp;rfl));intro gS hg w73 cE hb;replace dW:=aa.mk (Kd.ck ny hb);have jd:=aa.mk (cE);have SK:=aa.mk ((ug:w.heap.size≤gS));have Li:=aa.mk ((ug:w.heap.size≤gS));replace HB:=aa.mk (aA jy hb);have kf:=aa.mk ((BX:ey≠gS));have nT:=aa.mk ((BZ:gS≠ey));replace cG:=aa.mk (aC jJ hb);have lV:=aa.mk ((Aj:fT≠gS));have nU:=aa.mk ((Ak:gS≠fT));replace cZ:=aa.mk (aC ld hb);clear hb cE hg;have ahg:=nT.out;have ahh:=kf.out;have ahi:=nU.out;have ahj:=lV.out;have aay:w73.cell? ⟨gS,0,none⟩=some (.string (⟨#[]⟩:ByteArray)):=(ah jd.out 0).trans rfl;have aaz:w73.cell? ⟨gS,1,none⟩=some (.string (⟨#[]⟩:ByteArray)):=(ah jd.out 1).trans rfl;have aaA:w73.cell? ⟨gS,2,none⟩=some (.bool false):=(ah jd.out 2).trans rfl;have aaB:=af jd.out 0;have aaC:=af jd.out 1;have aaD:=af jd.out 2;have ahk:=lC.out;have ahl:=nR.out;have aaE:w73.cell? ⟨ey,0,none⟩=some (.bool kW):=(ah cG.out 0).trans rfl;have aaF:w73.cell? ⟨ey,1,none⟩=some (.slice none 0 0):=(ah cG.out 1).trans rfl;have aaG:w73.cell? ⟨ey,2,none⟩=some (.string iH):=(ah cG.out 2).trans rfl;have aaH:w73.cell? ⟨ey,3,none⟩=some (.string gM):=(ah cG.out 3).trans rfl;have aaI:w73.cell? ⟨ey,4,none⟩=some (.bool fU):=(ah cG.out 4).trans rfl;have aaJ:=af cG.out 0;have aaK:=af cG.out 1;have aaL:=af cG.out 2;have aaM:=af cG.out 3;have aaN:=af cG.out 4))
          refine bodyPost_ret (iF rfl _ _ ey 32 #[.bool false,.slice none 0 0,.string (⟨#[]⟩:ByteArray),.string (⟨#[]⟩:ByteArray),.bool false] (0,0) _ rfl Ns Tryz.underlying32 rfl aq) rfl ?_
          exact ⟨_,cH,mN,uL⟩
         ·replace c71:=Bool.eq_false_iff.mpr c71
          subst c71
          rw [if_neg (show ¬ (false=true) by decide)] at H
          by_cases c79:(jc.length:Int) > 20
          ·rw [if_pos c79] at H
           have ahm:decide (20 < (jc.length:Int))=true:=decide_eq_true c79
           have ahn:decide (20 < jc.length)=true:=decide_eq_true ak
           clear c79
           simp only [Option.some.injEq,Prod.mk.injEq] at H
           obtain ⟨rfl,rfl,rfl,rfl,rfl,rfl,rfl⟩:=H
           go_wp2_with (first|((with_reducible refine aK (f:=78) rfl ?_);refine bU (some 105) rfl rfl Tryz.func78 aq rfl #[.string uA] rfl cz ?_;(with_reducible refine (bI.calls OU uA vZ yU Aq true _ ?aT A69.out).mono ?_);(case aT=>exact aJ.below HG.out jy);rintro e w80 ⟨rfl,hb⟩;refine ⟨_,rfl,?_⟩;replace dW:=aa.mk (Kd.ck ny hb);replace cG:=aa.mk (aC jJ hb);replace cZ:=aa.mk (aC ld hb);replace HB:=aa.mk (aA jy hb);(try clear hb))|((with_reducible refine cB (N:=12) rfl ?_);(try (refine cL (by rfl) ?_;dsimp only));refine cj ?hg (N:=12) ?hd (cs:=#[.string (⟨#[]⟩:ByteArray),.string (⟨#[]⟩:ByteArray),.bool false]) (t:=30) ?hr ?_;(case hd=>rfl);(case hg=>rfl);(case hr=>first|(go_simp;done)|(go_simp;rfl));intro gS hg TU cE hb;replace dW:=aa.mk (Kd.ck ny hb);have jd:=aa.mk (cE);have SK:=aa.mk ((ug:w.heap.size≤gS));have Li:=aa.mk ((ug:w.heap.size≤gS));replace HB:=aa.mk (aA jy hb);have kf:=aa.mk ((BX:ey≠gS));have nT:=aa.mk ((BZ:gS≠ey));replace cG:=aa.mk (aC jJ hb);have lV:=aa.mk ((Aj:fT≠gS));have nU:=aa.mk ((Ak:gS≠fT));replace cZ:=aa.mk (aC ld hb);clear hb cE hg;have atm:=nT.out;have atn:=kf.out;have ato:=nU.out;have atp:=lV.out;have amm:TU.cell? ⟨gS,0,none⟩=some (.string (⟨#[]⟩:ByteArray)):=(ah jd.out 0).trans rfl;have amn:TU.cell? ⟨gS,1,none⟩=some (.string (⟨#[]⟩:ByteArray)):=(ah jd.out 1).trans rfl;have amo:TU.cell? ⟨gS,2,none⟩=some (.bool false):=(ah jd.out 2).trans rfl;have amq:=af jd.out 0;have amr:=af jd.out 1;have ams:=af jd.out 2;have atq:=nR.out;have atr:=lC.out;have amt:TU.cell? ⟨fT,0,none⟩=some (.bool false):=(ah cZ.out 0).trans rfl;have amu:TU.cell? ⟨fT,1,none⟩=some (jf):=(ah cZ.out 1).trans rfl;have amv:TU.cell? ⟨fT,2,none⟩=some (.string (⟨#[]⟩:ByteArray)):=(ah cZ.out 2).trans rfl;have amw:TU.cell? ⟨fT,3,none⟩=some (.string (⟨#[]⟩:ByteArray)):=(ah cZ.out 3).trans rfl;have amx:TU.cell? ⟨fT,4,none⟩=some (.bool false):=(ah cZ.out 4).trans rfl;have amy:=af cZ.out 0;have amz:=af cZ.out 1;have amA:=af cZ.out 2;have amB:=af cZ.out 3;have amC:=af cZ.out 4;obtain ⟨awo,awp,aqk⟩:=Kd.gQ dW.out;subst aqk;have amD:TU.cell? ⟨ey,0,none⟩=some (.bool kW):=(ah cG.out 0).trans rfl;have amE:TU.cell? ⟨ey,1,none⟩=some (.slice none 0 0):=(ah cG.out 1).trans rfl;have amF:TU.cell? ⟨ey,2,none⟩=some (.string iH):=(ah cG.out 2).trans rfl;have amG:TU.cell? ⟨ey,3,none⟩=some (.string gM):=(ah cG.out 3).trans rfl;have amH:TU.cell? ⟨ey,4,none⟩=some (.bool fU):=(ah cG.out 4).trans rfl;have amI:=af cG.out 0;have amJ:=af cG.out 1;have amK:=af cG.out 2;have amL:=af cG.out 3;have amM:=af cG.out 4))
           refine bodyPost_ret (iF rfl _ _ ey 32 #[.bool false,.slice none 0 0,.string (⟨#[]⟩:ByteArray),.string (⟨#[]⟩:ByteArray),.bool false] (0,0) _ rfl Ns Tryz.underlying32 rfl aq) rfl ?_
           exact ⟨_,cH,mN,uL⟩
          ·rw [if_neg c79] at H
           have ahm:decide (20 < (jc.length:Int))=false:=decide_eq_false c79
           have ahn:decide (20 < jc.length)=false:=decide_eq_false ak
           clear c79
           obtain ⟨WZ,A89,H⟩:=bd_ H
           by_cases c90:WZ=true
           ·subst c90
            rw [if_pos rfl] at H
            simp only [Option.some.injEq,Prod.mk.injEq] at H
            obtain ⟨rfl,rfl,rfl,rfl,rfl,rfl,rfl⟩:=H
            go_wp2_with (first|((with_reducible refine aK (f:=78) rfl ?_);refine bU (some 105) rfl rfl Tryz.func78 aq rfl #[.string uA] rfl cz ?_;(with_reducible refine (bI.calls OU uA vZ yU Aq true _ ?aT A69.out).mono ?_);(case aT=>exact aJ.below HG.out jy);rintro e zL ⟨rfl,hb⟩;refine ⟨_,rfl,?_⟩;replace dW:=aa.mk (Kd.ck ny hb);replace cG:=aa.mk (aC jJ hb);replace cZ:=aa.mk (aC ld hb);replace HB:=aa.mk (aA jy hb);(try clear hb))|((with_reducible refine cB (N:=12) rfl ?_);(try (refine cL (by rfl) ?_;dsimp only));refine cj ?hg (N:=12) ?hd (cs:=#[.string (⟨#[]⟩:ByteArray),.string (⟨#[]⟩:ByteArray),.bool false]) (t:=30) ?hr ?_;(case hd=>rfl);(case hg=>rfl);(case hr=>first|(go_simp;done)|(go_simp;rfl));intro gS hg w92 cE hb;replace dW:=aa.mk (Kd.ck ny hb);have jd:=aa.mk (cE);have SK:=aa.mk ((ug:w.heap.size≤gS));have Li:=aa.mk ((ug:w.heap.size≤gS));replace HB:=aa.mk (aA jy hb);have kf:=aa.mk ((BX:ey≠gS));have nT:=aa.mk ((BZ:gS≠ey));replace cG:=aa.mk (aC jJ hb);have lV:=aa.mk ((Aj:fT≠gS));have nU:=aa.mk ((Ak:gS≠fT));replace cZ:=aa.mk (aC ld hb);clear hb cE hg;have aho:=nT.out;have ahp:=kf.out;have ahq:=nU.out;have ahr:=lV.out;have amO:w92.cell? ⟨gS,0,none⟩=some (.string (⟨#[]⟩:ByteArray)):=(ah jd.out 0).trans rfl;have amP:w92.cell? ⟨gS,1,none⟩=some (.string (⟨#[]⟩:ByteArray)):=(ah jd.out 1).trans rfl;have amQ:w92.cell? ⟨gS,2,none⟩=some (.bool false):=(ah jd.out 2).trans rfl;have amR:=af jd.out 0;have amS:=af jd.out 1;have amT:=af jd.out 2;have atu:=nR.out;have atv:=lC.out;have amU:w92.cell? ⟨fT,0,none⟩=some (.bool false):=(ah cZ.out 0).trans rfl;have amV:w92.cell? ⟨fT,1,none⟩=some (jf):=(ah cZ.out 1).trans rfl;have amW:w92.cell? ⟨fT,2,none⟩=some (.string (⟨#[]⟩:ByteArray)):=(ah cZ.out 2).trans rfl;have amX:w92.cell? ⟨fT,3,none⟩=some (.string (⟨#[]⟩:ByteArray)):=(ah cZ.out 3).trans rfl;have amY:w92.cell? ⟨fT,4,none⟩=some (.bool false):=(ah cZ.out 4).trans rfl;have amZ:=af cZ.out 0;have am0:=af cZ.out 1;have am1:=af cZ.out 2;have am2:=af cZ.out 3;have am3:=af cZ.out 4;obtain ⟨OV,OW,aql⟩:=Kd.gQ dW.out;subst aql)|(go_at_call 79;(with_reducible refine (cF.calls OU vZ yU Aq true _ ?aT A89.out).mono ?_);(case aT=>exact aJ.below HG.out uL);rintro e SL ⟨rfl,hb⟩;replace dW:=aa.mk (Kd.ck Qa hb);replace cG:=aa.mk (aC (g:=ey) (o:= .cells #[.bool kW,.slice none 0 0,.string iH,.string gM,.bool fU] 32 (0,0)) P7 hb);replace cZ:=aa.mk (aC (g:=fT) (o:= .cells #[.bool false,.slice OV jc.length OW,.string (⟨#[]⟩:ByteArray),.string (⟨#[]⟩:ByteArray),.bool false] 32 (0,0)) P8 hb);replace jd:=aa.mk (aC (g:=gS) (o:= .cells #[.string vZ,.string yU,.bool Aq] 30 (0,0)) PU hb);replace HB:=aa.mk (aA uL hb);(try clear hb);(try clear hk);have ahs:SL.cell? ⟨gS,0,none⟩=some (.string vZ):=(ah jd.out 0).trans rfl;have aht:SL.cell? ⟨gS,1,none⟩=some (.string yU):=(ah jd.out 1).trans rfl;have ahu:SL.cell? ⟨gS,2,none⟩=some (.bool Aq):=(ah jd.out 2).trans rfl;have ahv:=af jd.out 0;have ahw:=af jd.out 1;have ahx:=af jd.out 2;have ahy:SL.cell? ⟨fT,0,none⟩=some (.bool false):=(ah cZ.out 0).trans rfl;have ahz:SL.cell? ⟨fT,1,none⟩=some (.slice OV jc.length OW):=(ah cZ.out 1).trans rfl;have ahA:SL.cell? ⟨fT,2,none⟩=some (.string (⟨#[]⟩:ByteArray)):=(ah cZ.out 2).trans rfl;have ahB:SL.cell? ⟨fT,3,none⟩=some (.string (⟨#[]⟩:ByteArray)):=(ah cZ.out 3).trans rfl;have ahC:SL.cell? ⟨fT,4,none⟩=some (.bool false):=(ah cZ.out 4).trans rfl;have ahD:=af cZ.out 0;have ahE:=af cZ.out 1;have ahF:=af cZ.out 2;have ahG:=af cZ.out 3;have ahH:=af cZ.out 4;have ahI:SL.cell? ⟨ey,0,none⟩=some (.bool kW):=(ah cG.out 0).trans rfl;have ahJ:SL.cell? ⟨ey,1,none⟩=some (.slice none 0 0):=(ah cG.out 1).trans rfl;have ahK:SL.cell? ⟨ey,2,none⟩=some (.string iH):=(ah cG.out 2).trans rfl;have ahL:SL.cell? ⟨ey,3,none⟩=some (.string gM):=(ah cG.out 3).trans rfl;have ahM:SL.cell? ⟨ey,4,none⟩=some (.bool fU):=(ah cG.out 4).trans rfl;have ahN:=af cG.out 0;have ahO:=af cG.out 1;have ahP:=af cG.out 2;have ahQ:=af cG.out 3;have ahR:=af cG.out 4))
            refine bodyPost_ret (iF rfl _ _ ey 32 #[.bool false,.slice OV jc.length OW,.string vZ,.string yU,.bool Aq] (0,0) _ rfl (by (with_reducible repeat (first|refine ay ?_ _|refine az ?_|refine av ?_ _));refine bR (cs:=#[.bool false,.slice OV jc.length OW,.string vZ,.string yU,.bool fU]) ?_ 4 _ rfl;(with_reducible repeat (first|refine ay ?_ _|refine az ?_|refine av ?_ _));refine bR (cs:=#[.bool false,.slice OV jc.length OW,.string vZ,.string gM,.bool fU]) ?_ 3 _ rfl;(with_reducible repeat (first|refine ay ?_ _|refine az ?_|refine av ?_ _));refine bR (cs:=#[.bool false,.slice OV jc.length OW,.string iH,.string gM,.bool fU]) ?_ 2 _ rfl;(with_reducible repeat (first|refine ay ?_ _|refine az ?_|refine av ?_ _));refine bR (cs:=#[.bool false,.slice none 0 0,.string iH,.string gM,.bool fU]) ?_ 1 _ rfl;(with_reducible repeat (first|refine ay ?_ _|refine az ?_|refine av ?_ _));refine bR (cs:=#[.bool kW,.slice none 0 0,.string iH,.string gM,.bool fU]) ?_ 0 _ rfl;(with_reducible repeat (first|refine ay ?_ _|refine az ?_|refine av ?_ _));refine cQ ?_ lC.out _;(with_reducible repeat (first|refine ay ?_ _|refine az ?_|refine av ?_ _));refine cQ ?_ lC.out _;(with_reducible repeat (first|refine ay ?_ _|refine az ?_|refine av ?_ _));refine cQ ?_ lC.out _;(with_reducible repeat (first|refine ay ?_ _|refine az ?_|refine av ?_ _));exact cG.out) Tryz.underlying32 rfl aq) rfl ?_
            exact ⟨_,cH,by (with_reducible repeat (first|apply Kd.dQ|apply Kd.dR|apply Kd.dV));exact Kd.fS (Kd.eB (p:=⟨ey,4,none⟩) (Kd.eB (p:=⟨ey,3,none⟩) (Kd.eB (p:=⟨ey,2,none⟩) (Kd.eB (p:=⟨ey,1,none⟩) (Kd.eB (p:=⟨ey,0,none⟩) (Kd.eB (p:=⟨fT,4,none⟩) (Kd.eB (p:=⟨fT,3,none⟩) (Kd.eB (p:=⟨fT,2,none⟩) (Kd.jW (Kd.jW dW.out cZ.out bh) cG.out bh) (fun _ hk=>hk.1.2) (.string vZ)) (fun _ hk=>hk.1.2) (.string yU)) (fun _ hk=>hk.1.2) (.bool Aq)) (fun _ hk=>hk.2) (.bool false)) (fun _ hk=>hk.2) (.slice OV jc.length OW)) (fun _ hk=>hk.2) (.string vZ)) (fun _ hk=>hk.2) (.string yU)) (fun _ hk=>hk.2) (.bool Aq)) (fun _ hk=>trivial),uL⟩
           ·replace c90:=Bool.eq_false_iff.mpr c90
            subst c90
            rw [if_neg (show ¬ (false=true) by decide)] at H
            simp only [Option.some.injEq,Prod.mk.injEq] at H
            obtain ⟨rfl,rfl,rfl,rfl,rfl,rfl,rfl⟩:=H
            go_wp2_with (first|((with_reducible refine aK (f:=78) rfl ?_);refine bU (some 105) rfl rfl Tryz.func78 aq rfl #[.string uA] rfl cz ?_;(with_reducible refine (bI.calls OU uA vZ yU Aq true _ ?aT A69.out).mono ?_);(case aT=>exact aJ.below HG.out jy);rintro e ahS ⟨rfl,hb⟩;refine ⟨_,rfl,?_⟩;replace dW:=aa.mk (Kd.ck ny hb);replace cG:=aa.mk (aC jJ hb);replace cZ:=aa.mk (aC ld hb);replace HB:=aa.mk (aA jy hb);(try clear hb))|((with_reducible refine cB (N:=12) rfl ?_);(try (refine cL (by rfl) ?_;dsimp only));refine cj ?hg (N:=12) ?hd (cs:=#[.string (⟨#[]⟩:ByteArray),.string (⟨#[]⟩:ByteArray),.bool false]) (t:=30) ?hr ?_;(case hd=>rfl);(case hg=>rfl);(case hr=>first|(go_simp;done)|(go_simp;rfl));intro gS hg KO cE hb;replace dW:=aa.mk (Kd.ck ny hb);have jd:=aa.mk (cE);have SK:=aa.mk ((ug:w.heap.size≤gS));have Li:=aa.mk ((ug:w.heap.size≤gS));replace HB:=aa.mk (aA jy hb);have kf:=aa.mk ((BX:ey≠gS));have nT:=aa.mk ((BZ:gS≠ey));replace cG:=aa.mk (aC jJ hb);have lV:=aa.mk ((Aj:fT≠gS));have nU:=aa.mk ((Ak:gS≠fT));replace cZ:=aa.mk (aC ld hb);clear hb cE hg;have aqm:=nT.out;have aqn:=kf.out;have aqo:=nU.out;have aqp:=lV.out;have ahT:KO.cell? ⟨gS,0,none⟩=some (.string (⟨#[]⟩:ByteArray)):=(ah jd.out 0).trans rfl;have ahU:KO.cell? ⟨gS,1,none⟩=some (.string (⟨#[]⟩:ByteArray)):=(ah jd.out 1).trans rfl;have ahV:KO.cell? ⟨gS,2,none⟩=some (.bool false):=(ah jd.out 2).trans rfl;have ahW:=af jd.out 0;have ahX:=af jd.out 1;have ahY:=af jd.out 2;have aqq:=nR.out;have aqr:=lC.out;have ahZ:KO.cell? ⟨fT,0,none⟩=some (.bool false):=(ah cZ.out 0).trans rfl;have ah0:KO.cell? ⟨fT,1,none⟩=some (jf):=(ah cZ.out 1).trans rfl;have ah1:KO.cell? ⟨fT,2,none⟩=some (.string (⟨#[]⟩:ByteArray)):=(ah cZ.out 2).trans rfl;have ah2:KO.cell? ⟨fT,3,none⟩=some (.string (⟨#[]⟩:ByteArray)):=(ah cZ.out 3).trans rfl;have ah3:KO.cell? ⟨fT,4,none⟩=some (.bool false):=(ah cZ.out 4).trans rfl;have ah4:=af cZ.out 0;have ah5:=af cZ.out 1;have ah6:=af cZ.out 2;have ah7:=af cZ.out 3;have ah8:=af cZ.out 4;obtain ⟨ah9,aia,aib⟩:=Kd.gQ dW.out;subst aib)|(go_at_call 79;(with_reducible refine (cF.calls OU vZ yU Aq false _ ?aT A89.out).mono ?_);(case aT=>exact aJ.below HG.out uL);rintro e Xa ⟨rfl,hb⟩;replace dW:=aa.mk (Kd.ck Qa hb);replace cG:=aa.mk (aC (g:=ey) (o:= .cells #[.bool kW,.slice none 0 0,.string iH,.string gM,.bool fU] 32 (0,0)) P7 hb);replace cZ:=aa.mk (aC (g:=fT) (o:= .cells #[.bool false,.slice ah9 jc.length aia,.string (⟨#[]⟩:ByteArray),.string (⟨#[]⟩:ByteArray),.bool false] 32 (0,0)) P8 hb);replace jd:=aa.mk (aC (g:=gS) (o:= .cells #[.string vZ,.string yU,.bool Aq] 30 (0,0)) PU hb);replace HB:=aa.mk (aA uL hb);(try clear hb);(try clear hk);have aic:Xa.cell? ⟨ey,0,none⟩=some (.bool kW):=(ah cG.out 0).trans rfl;have aid:Xa.cell? ⟨ey,1,none⟩=some (.slice none 0 0):=(ah cG.out 1).trans rfl;have aie:Xa.cell? ⟨ey,2,none⟩=some (.string iH):=(ah cG.out 2).trans rfl;have aif:Xa.cell? ⟨ey,3,none⟩=some (.string gM):=(ah cG.out 3).trans rfl;have aih:Xa.cell? ⟨ey,4,none⟩=some (.bool fU):=(ah cG.out 4).trans rfl;have aii:=af cG.out 0;have aij:=af cG.out 1;have aik:=af cG.out 2;have ail:=af cG.out 3;have aim:=af cG.out 4))
            refine bodyPost_ret (iF rfl _ _ ey 32 #[.bool false,.slice none 0 0,.string (⟨#[]⟩:ByteArray),.string (⟨#[]⟩:ByteArray),.bool false] (0,0) _ rfl (by (with_reducible repeat (first|refine ay ?_ _|refine az ?_|refine av ?_ _));refine bR (cs:=#[.bool false,.slice none 0 0,.string (⟨#[]⟩:ByteArray),.string (⟨#[]⟩:ByteArray),.bool fU]) ?_ 4 _ rfl;(with_reducible repeat (first|refine ay ?_ _|refine az ?_|refine av ?_ _));refine bR (cs:=#[.bool false,.slice none 0 0,.string (⟨#[]⟩:ByteArray),.string gM,.bool fU]) ?_ 3 _ rfl;(with_reducible repeat (first|refine ay ?_ _|refine az ?_|refine av ?_ _));refine bR (cs:=#[.bool false,.slice none 0 0,.string iH,.string gM,.bool fU]) ?_ 2 _ rfl;(with_reducible repeat (first|refine ay ?_ _|refine az ?_|refine av ?_ _));refine bR (cs:=#[.bool false,.slice none 0 0,.string iH,.string gM,.bool fU]) ?_ 1 _ rfl;(with_reducible repeat (first|refine ay ?_ _|refine az ?_|refine av ?_ _));refine bR (cs:=#[.bool kW,.slice none 0 0,.string iH,.string gM,.bool fU]) ?_ 0 _ rfl;(with_reducible repeat (first|refine ay ?_ _|refine az ?_|refine av ?_ _));exact cG.out) Tryz.underlying32 rfl aq) rfl ?_
            exact ⟨_,cH,mN,uL⟩
        ·replace c70:=Bool.eq_false_iff.mpr c70
         subst c70
         rw [if_neg (show ¬ (false=true) by decide)] at H
         simp only [Option.some.injEq,Prod.mk.injEq] at H
         obtain ⟨rfl,rfl,rfl,rfl,rfl,rfl,rfl⟩:=H
         go_wp2_with (first|((with_reducible refine aK (f:=78) rfl ?_);refine bU (some 105) rfl rfl Tryz.func78 aq rfl #[.string uA] rfl cz ?_;(with_reducible refine (bI.calls OU uA vZ yU Aq false _ ?aT A69.out).mono ?_);(case aT=>exact aJ.below HG.out jy);rintro e awq ⟨rfl,hb⟩;refine ⟨_,rfl,?_⟩;replace dW:=aa.mk (Kd.ck ny hb);replace cG:=aa.mk (aC jJ hb);replace cZ:=aa.mk (aC ld hb);replace HB:=aa.mk (aA jy hb);(try clear hb))|((with_reducible refine cB (N:=12) rfl ?_);(try (refine cL (by rfl) ?_;dsimp only));refine cj ?hg (N:=12) ?hd (cs:=#[.string (⟨#[]⟩:ByteArray),.string (⟨#[]⟩:ByteArray),.bool false]) (t:=30) ?hr ?_;(case hd=>rfl);(case hg=>rfl);(case hr=>first|(go_simp;done)|(go_simp;rfl));intro gS hg MH cE hb;replace dW:=aa.mk (Kd.ck ny hb);have jd:=aa.mk (cE);have SK:=aa.mk ((ug:w.heap.size≤gS));have Li:=aa.mk ((ug:w.heap.size≤gS));replace HB:=aa.mk (aA jy hb);have kf:=aa.mk ((BX:ey≠gS));have nT:=aa.mk ((BZ:gS≠ey));replace cG:=aa.mk (aC jJ hb);have lV:=aa.mk ((Aj:fT≠gS));have nU:=aa.mk ((Ak:gS≠fT));replace cZ:=aa.mk (aC ld hb);clear hb cE hg;have ael:=nT.out;have aem:=kf.out;have aen:=nU.out;have aeo:=lV.out;have Xb:MH.cell? ⟨gS,0,none⟩=some (.string (⟨#[]⟩:ByteArray)):=(ah jd.out 0).trans rfl;have Xc:MH.cell? ⟨gS,1,none⟩=some (.string (⟨#[]⟩:ByteArray)):=(ah jd.out 1).trans rfl;have Xd:MH.cell? ⟨gS,2,none⟩=some (.bool false):=(ah jd.out 2).trans rfl;have Xe:=af jd.out 0;have Xf:=af jd.out 1;have Xg:=af jd.out 2;have aqs:=lC.out;have aqt:=nR.out;have Xh:MH.cell? ⟨ey,0,none⟩=some (.bool kW):=(ah cG.out 0).trans rfl;have Xi:MH.cell? ⟨ey,1,none⟩=some (.slice none 0 0):=(ah cG.out 1).trans rfl;have Xj:MH.cell? ⟨ey,2,none⟩=some (.string iH):=(ah cG.out 2).trans rfl;have Xk:MH.cell? ⟨ey,3,none⟩=some (.string gM):=(ah cG.out 3).trans rfl;have Xl:MH.cell? ⟨ey,4,none⟩=some (.bool fU):=(ah cG.out 4).trans rfl;have Xm:=af cG.out 0;have Xn:=af cG.out 1;have Xo:=af cG.out 2;have Xp:=af cG.out 3;have Xq:=af cG.out 4))
         refine bodyPost_ret (iF rfl _ _ ey 32 #[.bool false,.slice none 0 0,.string (⟨#[]⟩:ByteArray),.string (⟨#[]⟩:ByteArray),.bool false] (0,0) _ rfl Ns Tryz.underlying32 rfl aq) rfl ?_
         exact ⟨_,cH,mN,uL⟩
end Go.Proofs.YtokpnfljjjjikaaGreatDoor.mY
