import Derived.Test.YtokpnfljjjjikaaGreatDoorQPtx6
set_option maxHeartbeats 8000000
set_option maxRecDepth 100000
namespace Go.Proofs.YtokpnfljjjjikaaGreatDoor.mY
open Go.RowKit Go.Proofs.YtokpnfljjjjikaaGreatDoor.qP Go.Proofs.aj.bO Go.Proofs.aj.fA Go.Proofs.aj.cK
attribute [local go_sem] ia ig iU iV gf gh ij iq
set_option linter.unusedVariables false
set_option linter.unusedSimpArgs false
def gI.j0:Nat→Bool→ByteArray→ByteArray→Bool→Option (ByteArray×ByteArray×Bool×Int)
 | 0,_,_,_,_ =>none
 |k + 1,x15,Sn,Sp,Sq=>if x15=true then (some ((⟨#[]⟩:ByteArray),(⟨#[]⟩:ByteArray),false,150)) else ((eD.f k Sn Sp Sq).bind fun adL=>(if adL=true then (some (Sn,Sp,Sq,0)) else (some ((⟨#[]⟩:ByteArray),(⟨#[]⟩:ByteArray),false,3))))
def gI.f (k:Nat) (a0:ByteArray):Option (ByteArray×ByteArray×Bool×Int):=(cA.f k a0 0).bind fun q9=>(if q9.2.2.2.1=true then (gI.j0 k (q9.2.2.2.2.2 != (a0.size:Int)) q9.1 q9.2.1 q9.2.2.1) else (gI.j0 k true q9.1 q9.2.1 q9.2.2.1))
theorem gI.calls (k:Nat) (a0:ByteArray) (r1:ByteArray) (r2:ByteArray) (r3:Bool) (r4:Int) (w:World) (hG:aJ w) (h:gI.f k a0=some (r1,r2,r3,r4)):
 Calls Tryz.prog 23 #[.string a0] w fun e w'=>e= .returned (.tuple #[.agg #[.string r1,.string r2,.bool r3],.int .i64 r4])∧Below w.heap.size w w':=by
 have wT:=Tryz.underlying30
 have afW:=Tryz.underlying82
 have HB:=aa.mk (Below.refl w.heap.size w)
 have HG:=aa.mk hG
 clear hG
 have H:((cA.f k a0 0).bind fun q9=>(if q9.2.2.2.1=true then (gI.j0 k (q9.2.2.2.2.2 != (a0.size:Int)) q9.1 q9.2.1 q9.2.2.1) else (gI.j0 k true q9.1 q9.2.1 q9.2.2.1)))=some (r1,r2,r3,r4):=h
 clear h
 obtain ⟨⟨zu,B0,FH,agB,adM,aan⟩,A2,H⟩:=bd_ H
 (try dsimp only at H)
 have Fk:=aa.mk H
 clear H
 go_enter Tryz.func23,Tryz.ntmps23
 go_upto_region 3 with (first|((with_reducible refine cB (N:=2) rfl ?_);(try (refine cL (by rfl) ?_;dsimp only));refine cj ?hg (N:=2) ?hd (cs:=#[.string (⟨#[]⟩:ByteArray),.string (⟨#[]⟩:ByteArray),.bool false]) (t:=30) ?hr ?_;(case hd=>rfl);(case hg=>rfl);(case hr=>first|(go_simp;done)|(go_simp;rfl));intro o9 hg w4 cE hb;have lR:=aa.mk (cE);have asJ:=aa.mk ((dI:w.heap.size≤o9));have EM:=aa.mk ((dI:w.heap.size≤o9));replace HB:=aa.mk (aA bG hb);clear hb cE hg)|((with_reducible refine cB (N:=9) rfl ?_);(try (refine cL (by rfl) ?_;dsimp only));refine cj ?hg (N:=9) ?hd (cs:=#[.string a0,.int .i64 0]) (t:=82) ?hr ?_;(case hd=>rfl);(case hg=>rfl);(case hr=>first|(go_simp;done)|(go_simp;rfl));intro xe hg w5 cE hb;have sH:=aa.mk ((⟨cE,IP⟩:aD w w5 xe a0 0));have asK:=aa.mk ((IP:w.heap.size≤xe));have asL:=aa.mk ((IP:w.heap.size≤xe));replace HB:=aa.mk (aA Yy hb);have TL:=aa.mk ((Qv:o9≠xe));have yJ:=aa.mk ((Qw:xe≠o9));replace lR:=aa.mk (aC EN hb);clear hb cE hg)|((with_reducible refine aK (f:=71) rfl ?_);refine bU (some 12) rfl rfl Tryz.func71 aq rfl #[.pointer (some ⟨xe,0,none⟩)] rfl cz ?_;(with_reducible refine (cA.calls k xe a0 0 zu B0 FH agB adM aan w _ ?aT ?cw ?fO A2.out).mono ?_);(case aT=>repeat (first|(with_reducible first|exact sH.out|apply aD.alloc|apply aD.drewN|apply aD.drew|apply aD.gm|apply aD.gi|refine aD.far ?_ yJ.out _)|exact sH.out));(case cw=>repeat (first|(with_reducible first|exact HB.out|apply aV|apply aN|apply bf|refine aZ ?_ (aD.ge sH.out)|refine aZ ?_ EM.out)|exact HB.out));(case fO=>exact HG.out);rintro e w6 ⟨rfl,hi,hb,hk⟩;refine ⟨_,rfl,?_⟩;replace lR:=aa.mk (bM.blk hk (g':=o9) (o:= .cells #[.string (⟨#[]⟩:ByteArray),.string (⟨#[]⟩:ByteArray),.bool false] 30 (0,0)) EN TL.out bw);replace HB:=aa.mk (hb);replace sH:=aa.mk (hi);(try clear hb);(try clear hk);(try clear hi))|((with_reducible refine cB (N:=5) rfl ?_);(try (refine cL (by rfl) ?_;dsimp only));refine cj ?hg (N:=5) ?hd (cs:=#[.string (⟨#[]⟩:ByteArray),.string (⟨#[]⟩:ByteArray),.bool false]) (t:=30) ?hr ?_;(case hd=>rfl);(case hg=>rfl);(case hr=>first|(go_simp;done)|(go_simp;rfl));intro pV hg w7 cE hb;have lY:=aa.mk (cE);have asM:=aa.mk ((Qi:w.heap.size≤pV));have abx:=aa.mk ((Qi:w.heap.size≤pV));replace HB:=aa.mk (aA YA hb);have qh:=aa.mk ((Qv:o9≠pV));have yK:=aa.mk ((Qw:pV≠o9));replace lR:=aa.mk (aC EN hb);have TM:=aa.mk ((by rw [hg];exact Nat.ne_of_lt (aD.lt (show aD w _ xe adM aan from by repeat (first|(with_reducible first|exact sH.out|apply aD.alloc|apply aD.drewN|apply aD.drew|apply aD.gm|apply aD.gi|refine aD.far ?_ yJ.out _)|exact sH.out))):xe≠pV));have TN:=aa.mk ((by rw [hg];exact Nat.ne_of_gt (aD.lt (show aD w _ xe adM aan from by repeat (first|(with_reducible first|exact sH.out|apply aD.alloc|apply aD.drewN|apply aD.drew|apply aD.gm|apply aD.gi|refine aD.far ?_ yJ.out _)|exact sH.out))):pV≠xe));replace sH:=aa.mk (aD.below (by repeat (first|(with_reducible first|exact sH.out|apply aD.alloc|apply aD.drewN|apply aD.drew|apply aD.gm|apply aD.gi|refine aD.far ?_ yJ.out _)|exact sH.out)) hb);clear hb cE hg;have avQ:=yK.out;have avR:=qh.out;have apC:=TN.out;have apD:=TM.out;have Es:w7.cell? ⟨pV,0,none⟩=some (.string (⟨#[]⟩:ByteArray)):=(ah lY.out 0).trans rfl;have Et:w7.cell? ⟨pV,1,none⟩=some (.string (⟨#[]⟩:ByteArray)):=(ah lY.out 1).trans rfl;have Eu:w7.cell? ⟨pV,2,none⟩=some (.bool false):=(ah lY.out 2).trans rfl;have Ew:=af lY.out 0;have Ex:=af lY.out 1;have Ey:=af lY.out 2))
 (try simp only [Act.put,List.setIfInBounds_toArray,List.set_cons_zero,List.set_cons_succ])
 go_cut [15] (fun v15 wc=>∃ (kq:Nat) (Sr:Bool),v15= .bool Sr∧aa (gI.j0 kq Sr zu B0 FH=some (r1,r2,r3,r4))∧aa (kq≤k)∧aa (wc.heap[o9]? =some (.cells #[.string (⟨#[]⟩:ByteArray),.string (⟨#[]⟩:ByteArray),.bool false] 30 (0,0)))∧aa (wc.heap[pV]? =some (.cells #[.string zu,.string B0,.bool FH] 30 (0,0)))∧aa (Below w.heap.size w wc))
 case first=>
  have H:=Fk.out
  clear Fk
  by_cases c11:agB=true
  ·subst c11
   rw [if_pos rfl] at H
   have H':=aa.mk H
   clear H
   obtain ⟨wZ,V9⟩:=sH.out
   have yu:=dU wZ
   have yw:=dP wZ
   have yx:=af wZ 0
   have yz:=af wZ 1
   clear wZ V9
   go_wp2
   go_meet
   case rel=>exact ⟨_,((aan != (a0.size:Int))),b9,H',⟨iT⟩,⟨P6⟩,⟨PT⟩,⟨Qj⟩⟩
  ·replace c11:=Bool.eq_false_iff.mpr c11
   subst c11
   rw [if_neg (show ¬ (false=true) by decide)] at H
   have H':=aa.mk H
   clear H
   go_wp2
   go_meet
   case rel=>exact ⟨_,(true),b9,H',⟨iT⟩,⟨P6⟩,⟨PT⟩,⟨Qj⟩⟩
 case rest=>
  clear Fk
  obtain ⟨kq,Sr,rfl,HA,Lp,lR,lY,HB⟩:=hcut
  cases kq with
  |zero=>exact absurd HA.out (by simp [gI.j0])
  |succ Fl=>
   have H:=HA.out
   clear HA
   simp only [gI.j0] at H
   by_cases c13:Sr=true
   ·subst c13
    rw [if_pos rfl] at H
    simp only [Option.some.injEq,Prod.mk.injEq] at H
    obtain ⟨rfl,rfl,rfl,rfl⟩:=H
    have V2:=qh.out
    have V3:=yK.out
    have J7:wc.cell? ⟨o9,0,none⟩=some (.string (⟨#[]⟩:ByteArray)):=(ah lR.out 0).trans rfl
    have J8:wc.cell? ⟨o9,1,none⟩=some (.string (⟨#[]⟩:ByteArray)):=(ah lR.out 1).trans rfl
    have J9:wc.cell? ⟨o9,2,none⟩=some (.bool false):=(ah lR.out 2).trans rfl
    have Ka:=af lR.out 0
    have Kb:=af lR.out 1
    have Ke:=af lR.out 2
    go_wp2
    refine bodyPost_ret (eY rfl _ _ o9 30 #[.string (⟨#[]⟩:ByteArray),.string (⟨#[]⟩:ByteArray),.bool false] (0,0) _ rfl PR Tryz.underlying30 rfl aq) rfl ?_
    exact ⟨cH,zn⟩
   ·replace c13:=Bool.eq_false_iff.mpr c13
    subst c13
    rw [if_neg (show ¬ (false=true) by decide)] at H
    obtain ⟨adL,A16,H⟩:=bd_ H
    by_cases c17:adL=true
    ·subst c17
     rw [if_pos rfl] at H
     simp only [Option.some.injEq,Prod.mk.injEq] at H
     obtain ⟨rfl,rfl,rfl,rfl⟩:=H
     have af5:=yK.out
     have af6:=qh.out
     have ZG:wc.cell? ⟨pV,0,none⟩=some (.string zu):=(ah lY.out 0).trans rfl
     have ZH:wc.cell? ⟨pV,1,none⟩=some (.string B0):=(ah lY.out 1).trans rfl
     have ZI:wc.cell? ⟨pV,2,none⟩=some (.bool FH):=(ah lY.out 2).trans rfl
     have ZJ:=af lY.out 0
     have ZK:=af lY.out 1
     have ZL:=af lY.out 2
     go_wp2_with (first|((with_reducible refine aK (f:=58) rfl ?_);refine bU (some 30) rfl rfl Tryz.func58 aq rfl #[.agg #[.string zu,.string B0,.bool FH]] rfl cz ?_;(with_reducible refine (eD.calls Fl zu B0 FH true _ ?aT A16.out).mono ?_);(case aT=>exact aJ.below HG.out zn);rintro e Rj ⟨rfl,hb⟩;refine ⟨_,rfl,?_⟩;replace lR:=aa.mk (aC EN hb);replace lY:=aa.mk (aC QE hb);replace HB:=aa.mk (aA zn hb);(try clear hb);have RZ:Rj.cell? ⟨pV,0,none⟩=some (.string zu):=(ah lY.out 0).trans rfl;have R3:Rj.cell? ⟨pV,1,none⟩=some (.string B0):=(ah lY.out 1).trans rfl;have R4:Rj.cell? ⟨pV,2,none⟩=some (.bool FH):=(ah lY.out 2).trans rfl;have R5:=af lY.out 0;have R6:=af lY.out 1;have R7:=af lY.out 2;have QY:Rj.cell? ⟨o9,0,none⟩=some (.string (⟨#[]⟩:ByteArray)):=(ah lR.out 0).trans rfl;have QZ:Rj.cell? ⟨o9,1,none⟩=some (.string (⟨#[]⟩:ByteArray)):=(ah lR.out 1).trans rfl;have aao:Rj.cell? ⟨o9,2,none⟩=some (.bool false):=(ah lR.out 2).trans rfl;have Q0:=af lR.out 0;have Q3:=af lR.out 1;have aap:=af lR.out 2))
     refine bodyPost_ret (eY rfl _ _ o9 30 #[.string zu,.string B0,.bool FH] (0,0) _ rfl (by (with_reducible repeat (first|refine ay ?_ _|refine az ?_|refine av ?_ _));refine bR (cs:=#[.string zu,.string B0,.bool false]) ?_ 2 _ rfl;(with_reducible repeat (first|refine ay ?_ _|refine az ?_|refine av ?_ _));refine bR (cs:=#[.string zu,.string (⟨#[]⟩:ByteArray),.bool false]) ?_ 1 _ rfl;(with_reducible repeat (first|refine ay ?_ _|refine az ?_|refine av ?_ _));refine bR (cs:=#[.string (⟨#[]⟩:ByteArray),.string (⟨#[]⟩:ByteArray),.bool false]) ?_ 0 _ rfl;(with_reducible repeat (first|refine ay ?_ _|refine az ?_|refine av ?_ _));exact lR.out) Tryz.underlying30 rfl aq) rfl ?_
     exact ⟨cH,zn⟩
    ·replace c17:=Bool.eq_false_iff.mpr c17
     subst c17
     rw [if_neg (show ¬ (false=true) by decide)] at H
     simp only [Option.some.injEq,Prod.mk.injEq] at H
     obtain ⟨rfl,rfl,rfl,rfl⟩:=H
     have afY:=yK.out
     have afZ:=qh.out
     have JD:wc.cell? ⟨pV,0,none⟩=some (.string zu):=(ah lY.out 0).trans rfl
     have JE:wc.cell? ⟨pV,1,none⟩=some (.string B0):=(ah lY.out 1).trans rfl
     have aaq:wc.cell? ⟨pV,2,none⟩=some (.bool FH):=(ah lY.out 2).trans rfl
     have JF:=af lY.out 0
     have JG:=af lY.out 1
     have aar:=af lY.out 2
     go_wp2_with (first|((with_reducible refine aK (f:=58) rfl ?_);refine bU (some 30) rfl rfl Tryz.func58 aq rfl #[.agg #[.string zu,.string B0,.bool FH]] rfl cz ?_;(with_reducible refine (eD.calls Fl zu B0 FH false _ ?aT A16.out).mono ?_);(case aT=>exact aJ.below HG.out zn);rintro e LY ⟨rfl,hb⟩;refine ⟨_,rfl,?_⟩;replace lR:=aa.mk (aC EN hb);replace lY:=aa.mk (aC QE hb);replace HB:=aa.mk (aA zn hb);(try clear hb);have Kf:LY.cell? ⟨o9,0,none⟩=some (.string (⟨#[]⟩:ByteArray)):=(ah lR.out 0).trans rfl;have Kg:LY.cell? ⟨o9,1,none⟩=some (.string (⟨#[]⟩:ByteArray)):=(ah lR.out 1).trans rfl;have Kh:LY.cell? ⟨o9,2,none⟩=some (.bool false):=(ah lR.out 2).trans rfl;have Ki:=af lR.out 0;have Kj:=af lR.out 1;have Kk:=af lR.out 2))
     refine bodyPost_ret (eY rfl _ _ o9 30 #[.string (⟨#[]⟩:ByteArray),.string (⟨#[]⟩:ByteArray),.bool false] (0,0) _ rfl PR Tryz.underlying30 rfl aq) rfl ?_
     exact ⟨cH,zn⟩
mutual
def bB.l0:Nat→ByteArray→Bool→Int→Option (Int)
 | 0,_,_,_ =>none
 |k + 1,x0,x3,x4=>if x4 < (x0.size:Int) then (if 0≤x4 then (if (bt x0 x4)=34 then (bB.l0 k x0 (!x3) (wrap64 (x4 + 1))) else (if x3=true then (bB.j1 k x0 x3 x4 ((bt x0 x4) == 92)) else (bB.j1 k x0 x3 x4 false))) else (none)) else (some (-1))
def bB.j1:Nat→ByteArray→Bool→Int→Bool→Option (Int)
 | 0,_,_,_,_ =>none
 |k + 1,x0,x3,x4,x23=>if x23=true then (bB.l0 k x0 x3 (wrap64 ((wrap64 (x4 + 1)) + 1))) else (if x3=true then (bB.l0 k x0 x3 (wrap64 (x4 + 1))) else (if 0≤x4 then (if x4 < (x0.size:Int) then (if (bt x0 x4)=62 then (some x4) else (bB.l0 k x0 x3 (wrap64 (x4 + 1)))) else (none)) else (none)))
end
def bB.f (k:Nat) (a0:ByteArray):Option (Int):=bB.l0 k a0 false 0
theorem bB.dF:∀ k,(∀ y0 y1 y2,bL (bB.l0 k y0 y1 y2) (bB.l0 (k + 1) y0 y1 y2))∧(∀ y0 y1 y2 y3,bL (bB.j1 k y0 y1 y2 y3) (bB.j1 (k + 1) y0 y1 y2 y3))
 | 0=>⟨fun _ _ _ r h=>by simp [bB.l0] at h,fun _ _ _ _ r h=>by simp [bB.j1] at h⟩
 |k + 1=>by
  obtain ⟨fV,ih1⟩:=bB.dF k
  refine ⟨?_,?_⟩
  ·intro y0 y1 y2
   unfold bB.l0
   repeat' first
   |(with_reducible first|exact fV _ _ _|exact ih1 _ _ _ _|exact bL.refl _|exact bL.none _|refine bL.ite ?_ ?_|refine bL.bind ?_ (fun _ =>?_))
   |exact fV _ _ _
   |exact ih1 _ _ _ _
   |exact bL.none _
   |refine bL.ite ?_ ?_
   |refine bL.bind ?_ (fun _ =>?_)
  ·intro y0 y1 y2 y3
   unfold bB.j1
   repeat' first
   |(with_reducible first|exact fV _ _ _|exact ih1 _ _ _ _|exact bL.refl _|exact bL.none _|refine bL.ite ?_ ?_|refine bL.bind ?_ (fun _ =>?_))
   |exact fV _ _ _
   |exact ih1 _ _ _ _
   |exact bL.none _
   |refine bL.ite ?_ ?_
   |refine bL.bind ?_ (fun _ =>?_)
theorem bB.mono:∀ a0 k,bL (bB.f k a0) (bB.f (k + 1) a0):=by
 intro a0 k
 obtain ⟨fV,ih1⟩:=bB.dF k
 unfold bB.f
 repeat' first
  |(with_reducible first|exact fV _ _ _|exact ih1 _ _ _ _|exact bL.refl _|exact bL.none _|refine bL.ite ?_ ?_|refine bL.bind ?_ (fun _ =>?_))
  |exact fV _ _ _
  |exact ih1 _ _ _ _
  |exact bL.none _
  |refine bL.ite ?_ ?_
  |refine bL.bind ?_ (fun _ =>?_)
theorem bB.calls (k:Nat) (a0:ByteArray) (r:Int) (w:World) (h:bB.f k a0=some r):
 Calls Tryz.prog 72 #[.string a0] w fun e w'=>e= .returned (.int .i64 r)∧iC w w':=by
 have H:(bB.l0 k a0 false 0)=some r:=h
 clear h
 have H':=aa.mk H
 clear H
 go_enter Tryz.func72,Tryz.ntmps72
 go_wp2
 go_loopg [3,4] k (fun kq v3 v4 w'=>∃ (kE:Bool) (cJ:Int),v3= .bool kE∧v4= .int .i64 cJ∧aa (bB.l0 kq a0 kE cJ=some r)∧aa (kq≤k)∧iC w w')
 case atStart=>exact ⟨(false),(0),b9,b9,H',⟨Nat.le_refl _⟩,dJ⟩
 case round=>
  clear H'
  obtain ⟨kE,cJ,rfl,rfl,HA,p9,⟨m1,rfl⟩⟩:=hrel
  cases gk with
  |zero=>exact absurd HA.out (by simp [bB.l0])
  |succ k1=>
   have H:=HA.out
   clear HA
   simp only [bB.l0] at H
   by_cases c2:cJ < (a0.size:Int)
   ·rw [if_pos c2] at H
    have sP:=decide_eq_true c2
    clear c2
    obtain ⟨c3,H⟩:=iA H
    have mg:=decide_eq_true c3
    clear c3
    by_cases c5:(bt a0 cJ)=34
    ·rw [if_pos c5] at H
     have lF:=beq_iff_eq.mpr c5
     have Cf:=bne_eq_false_iff_eq.mpr c5
     clear c5
     have H':=aa.mk H
     clear H
     have p4: 0≤(cJ:Int):=of_decide_eq_true bp
     have q4:cJ < (a0.size:Int):=of_decide_eq_true bp
     have Yv:=dA a0 cJ
     replace p4:=eq_true p4
     replace q4:=eq_true q4
     go_wp2
     go_roundg k1
     case measure=>have:=p9.out;omega
     case rel=>exact ⟨(!kE),(wrap64 (cJ + 1)),b9,b9,H',⟨je⟩,dJ⟩
    ·rw [if_neg c5] at H
     have lF:=beq_eq_false_iff_ne.mpr c5
     have Cf:=bne_iff_ne.mpr c5
     have HC6:=aa.mk H
     clear H
     have p4: 0≤(cJ:Int):=of_decide_eq_true bp
     have q4:cJ < (a0.size:Int):=of_decide_eq_true bp
     have Yv:=dA a0 cJ
     replace p4:=eq_true p4
     replace q4:=eq_true q4
     go_upto_region 7 with (fail)
     go_cut [23] (fun v23 wc=>∃ (kq:Nat) (Ss:Bool),v23= .bool Ss∧aa (bB.j1 kq a0 kE cJ Ss=some r)∧aa (kq≤k1)∧iC w wc)
     case first=>
      have H:=HC6.out
      clear HC6
      by_cases c7:kE=true
      ·subst c7
       rw [if_pos rfl] at H
       have H':=aa.mk H
       clear H
       have p8: 0≤(cJ:Int):=of_decide_eq_true bp
       have q8:cJ < (a0.size:Int):=of_decide_eq_true bp
       have hx8:=dA a0 cJ
       replace p8:=eq_true p8
       replace q8:=eq_true q8
       go_wp2
       go_meet
       case rel=>exact ⟨_,(((bt a0 cJ) == 92)),b9,H',⟨Ar⟩,dJ⟩
      ·replace c7:=Bool.eq_false_iff.mpr c7
       subst c7
       rw [if_neg (show ¬ (false=true) by decide)] at H
       have H':=aa.mk H
       clear H
       go_wp2
       go_meet
       case rel=>exact ⟨_,(false),b9,H',⟨Ar⟩,dJ⟩
     case rest=>
      clear HC6
      obtain ⟨kq,Ss,rfl,HA,YB,⟨mc5,rfl⟩⟩:=hcut
      cases kq with
      |zero=>exact absurd HA.out (by simp [bB.j1])
      |succ kj5=>
       have H:=HA.out
       clear HA
       simp only [bB.j1] at H
       by_cases c9:Ss=true
       ·subst c9
        rw [if_pos rfl] at H
        have H':=aa.mk H
        clear H
        go_wp2
        go_roundg kj5
        case measure=>have:=p9.out;have:=YB.out;omega
        case rel=>exact ⟨(kE),(wrap64 ((wrap64 (cJ + 1)) + 1)),b9,b9,H',⟨Jh⟩,dJ⟩
       ·replace c9:=Bool.eq_false_iff.mpr c9
        subst c9
        rw [if_neg (show ¬ (false=true) by decide)] at H
        by_cases c10:kE=true
        ·subst c10
         rw [if_pos rfl] at H
         have H':=aa.mk H
         clear H
         go_wp2
         go_roundg kj5
         case measure=>have:=p9.out;have:=YB.out;omega
         case rel=>exact ⟨(true),(wrap64 (cJ + 1)),b9,b9,H',⟨Jh⟩,dJ⟩
        ·replace c10:=Bool.eq_false_iff.mpr c10
         subst c10
         rw [if_neg (show ¬ (false=true) by decide)] at H
         obtain ⟨c11,H⟩:=iA H
         have oC:=decide_eq_true c11
         clear c11
         obtain ⟨c12,H⟩:=iA H
         have zg:=decide_eq_true c12
         clear c12
         by_cases c14:(bt a0 cJ)=62
         ·rw [if_pos c14] at H
          have CT:=beq_iff_eq.mpr c14
          have LM:=bne_eq_false_iff_eq.mpr c14
          clear c14
          obtain rfl:=Option.some.inj H
          have p13: 0≤(cJ:Int):=of_decide_eq_true bp
          have q13:cJ < (a0.size:Int):=of_decide_eq_true bp
          have apE:=dA a0 cJ
          replace p13:=eq_true p13
          replace q13:=eq_true q13
          go_wp2
          go_ret
          exact ⟨b9,dJ⟩
         ·rw [if_neg c14] at H
          have CT:=beq_eq_false_iff_ne.mpr c14
          have LM:=bne_iff_ne.mpr c14
          have H':=aa.mk H
          clear H
          have p13: 0≤(cJ:Int):=of_decide_eq_true bp
          have q13:cJ < (a0.size:Int):=of_decide_eq_true bp
          have apE:=dA a0 cJ
          replace p13:=eq_true p13
          replace q13:=eq_true q13
          go_wp2
          go_roundg kj5
          case measure=>have:=p9.out;have:=YB.out;omega
          case rel=>exact ⟨(false),(wrap64 (cJ + 1)),b9,b9,H',⟨Jh⟩,dJ⟩
   ·rw [if_neg c2] at H
    have sP:=decide_eq_false c2
    clear c2
    obtain rfl:=Option.some.inj H
    go_wp2
    go_ret
    exact ⟨b9,dJ⟩
def aY.l0:Nat→ByteArray→List Int→Int→Option (ByteArray)
 | 0,_,_,_ =>none
 |k + 1,x0,x3,x4=>if x4 < (x0.size:Int) then (if 0≤x4 then (if (bt x0 x4)≥65 then (if (bt x0 x4)≤90 then (if x3.length < 140737488355328 then (aY.l0 k x0 (x3 ++ [((bt x0 x4) + 32) % 256]) (wrap64 (x4 + 1))) else (none)) else (if x3.length < 140737488355328 then (aY.l0 k x0 (x3 ++ [bt x0 x4]) (wrap64 (x4 + 1))) else (none))) else (if x3.length < 140737488355328 then (aY.l0 k x0 (x3 ++ [bt x0 x4]) (wrap64 (x4 + 1))) else (none))) else (none)) else (some (strOfNums x3))
def aY.f (k:Nat) (a0:ByteArray):Option (ByteArray):=aY.l0 k a0 ([]:List Int) 0
theorem aY.dF:∀ k,(∀ y0 y1 y2,bL (aY.l0 k y0 y1 y2) (aY.l0 (k + 1) y0 y1 y2))
 | 0=>fun _ _ _ r h=>by simp [aY.l0] at h
 |k + 1=>by
  have fV:=aY.dF k
  ·intro y0 y1 y2
   unfold aY.l0
   repeat' first
   |(with_reducible first|exact fV _ _ _|exact bL.refl _|exact bL.none _|refine bL.ite ?_ ?_|refine bL.bind ?_ (fun _ =>?_))
   |exact fV _ _ _
   |exact bL.none _
   |refine bL.ite ?_ ?_
   |refine bL.bind ?_ (fun _ =>?_)
theorem aY.mono:∀ a0 k,bL (aY.f k a0) (aY.f (k + 1) a0):=by
 intro a0 k
 have fV:=aY.dF k
 unfold aY.f
 repeat' first
  |(with_reducible first|exact fV _ _ _|exact bL.refl _|exact bL.none _|refine bL.ite ?_ ?_|refine bL.bind ?_ (fun _ =>?_))
  |exact fV _ _ _
  |exact bL.none _
  |refine bL.ite ?_ ?_
  |refine bL.bind ?_ (fun _ =>?_)
theorem aY.calls (k:Nat) (a0:ByteArray) (r:ByteArray) (w:World) (h:aY.f k a0=some r):
 Calls Tryz.prog 73 #[.string a0] w fun e w'=>e= .returned (.string r)∧Below w.heap.size w w':=by
 have HB:=aa.mk (Below.refl w.heap.size w)
 have H:(aY.l0 k a0 ([]:List Int) 0)=some r:=h
 clear h
 have H':=aa.mk H
 clear H
 go_enter Tryz.func73,Tryz.ntmps73
 go_wp2
 go_loopg [3,4] k (fun kq v3 v4 w'=>∃ (kE:List Int) (cJ:Int),v4= .int .i64 cJ∧aa (aY.l0 kq a0 kE cJ=some r)∧aa (kq≤k)∧aa (Kd.R (Kd.int .u8) 5 w' w.heap.size (fun _ =>True) v3 kE)∧aa (Below w.heap.size w w'))
 case atStart=>exact ⟨(([]:List Int)),(0),b9,H',⟨Nat.le_refl _⟩,⟨mN⟩,⟨bG⟩⟩
 case round=>
  clear H'
  obtain ⟨kE,cJ,rfl,HA,p9,wB,HB⟩:=hrel
  cases gk with
  |zero=>exact absurd HA.out (by simp [aY.l0])
  |succ k1=>
   have H:=HA.out
   clear HA
   simp only [aY.l0] at H
   by_cases c2:cJ < (a0.size:Int)
   ·rw [if_pos c2] at H
    have sP:=decide_eq_true c2
    clear c2
    obtain ⟨c3,H⟩:=iA H
    have mg:=decide_eq_true c3
    clear c3
    by_cases c5:(bt a0 cJ)≥65
    ·rw [if_pos c5] at H
     have lF:decide (65≤(bt a0 cJ))=true:=decide_eq_true c5
     clear c5
     by_cases c6:(bt a0 cJ)≤90
     ·rw [if_pos c6] at H
      have nL:=decide_eq_true c6
      clear c6
      obtain ⟨c7,H⟩:=iA H
      have apF:=aa.mk c7
      clear c7
      obtain ⟨agE,Mv⟩:∃ y_:List Int,y_=(kE ++ [((bt a0 cJ) + 32) % 256]):=⟨_,rfl⟩
      replace H:(aY.l0 k1 a0 agE (wrap64 (cJ + 1)))=some r:=by first|(rw [Mv];with_reducible exact H)|(have uY:=(Option.bind_some _ _).symm.trans H;rw [Mv];with_reducible exact uY)|(have uY:=(Option.bind_some _ _).symm.trans H;with_reducible exact uY)|with_reducible exact H|(rw [Mv];exact H)|exact H
      have agF:=aa.mk Mv
      clear Mv
      have H':=aa.mk H
      clear H
      have p4: 0≤(cJ:Int):=of_decide_eq_true bp
      have q4:cJ < (a0.size:Int):=of_decide_eq_true bp
      have Yv:=dA a0 cJ
      replace p4:=eq_true p4
      replace q4:=eq_true q4
      go_wp2_with (first|((with_reducible refine jo (b:= .append) (xs:=#[.tmp 23,.tmp 25]) rfl ?_);at_builtin;refine Kd.mZ (Kd.int .u8) (w0:=w) w.heap.size rfl (.tmp 23) (.tmp 25) 23 5 (.int .u8 0) 1 rfl Tryz.underlying23 wH rfl bh ak u3 kE (((bt a0 cJ) + 32) % 256) [.int .u8 (((bt a0 cJ) + 32) % 256)] (fun _ =>True) (fun _ =>False) rfl rfl ?aP (fun _ hk=>hk.elim) ?aF ?aO ?aB ?aS ?aL ?_;(case aP=>exact rfl);(case aB=>exact bG);(case aF=>exact (fun _ _ =>trivial));(case aO=>exact sF);(case aS=>exact (dm bG));(case aL=>have:=apF.out;omega);intro avT w8 ho hb hg hat;rw [← agF.out] at ho;replace HB:=aa.mk (hb);have agG:=aa.mk (ho);clear wB;clear ho hb hg hat))
      go_roundg k1
      case measure=>have:=p9.out;omega
      case rel=>exact ⟨(agE),(wrap64 (cJ + 1)),b9,H',⟨je⟩,⟨by (with_reducible repeat (first|apply Kd.dQ|apply Kd.dR|apply Kd.dV));exact agG.out⟩,⟨bG⟩⟩
     ·rw [if_neg c6] at H
      have nL:=decide_eq_false c6
      clear c6
      obtain ⟨c9,H⟩:=iA H
      have apG:=aa.mk c9
      clear c9
      obtain ⟨agH,Mw⟩:∃ y_:List Int,y_=(kE ++ [bt a0 cJ]):=⟨_,rfl⟩
      replace H:(aY.l0 k1 a0 agH (wrap64 (cJ + 1)))=some r:=by first|(rw [Mw];with_reducible exact H)|(have uY:=(Option.bind_some _ _).symm.trans H;rw [Mw];with_reducible exact uY)|(have uY:=(Option.bind_some _ _).symm.trans H;with_reducible exact uY)|with_reducible exact H|(rw [Mw];exact H)|exact H
      have agI:=aa.mk Mw
      clear Mw
      have H':=aa.mk H
      clear H
      have p4: 0≤(cJ:Int):=of_decide_eq_true bp
      have q4:cJ < (a0.size:Int):=of_decide_eq_true bp
      have Yv:=dA a0 cJ
      replace p4:=eq_true p4
      replace q4:=eq_true q4
      go_wp2_with (first|((with_reducible refine jo (b:= .append) (xs:=#[.tmp 23,.tmp 25]) rfl ?_);at_builtin;refine Kd.mZ (Kd.int .u8) (w0:=w) w.heap.size rfl (.tmp 23) (.tmp 25) 23 5 (.int .u8 0) 1 rfl Tryz.underlying23 wH rfl bh ak u3 kE (bt a0 cJ) [.int .u8 (bt a0 cJ)] (fun _ =>True) (fun _ =>False) rfl rfl ?aP (fun _ hk=>hk.elim) ?aF ?aO ?aB ?aS ?aL ?_;(case aP=>exact rfl);(case aB=>exact bG);(case aF=>exact (fun _ _ =>trivial));(case aO=>exact sF);(case aS=>exact (dm bG));(case aL=>have:=apG.out;omega);intro avU um ho hb hg hat;rw [← agI.out] at ho;replace HB:=aa.mk (hb);have agJ:=aa.mk (ho);clear wB;clear ho hb hg hat))
      go_roundg k1
      case measure=>have:=p9.out;omega
      case rel=>exact ⟨(agH),(wrap64 (cJ + 1)),b9,H',⟨je⟩,⟨by (with_reducible repeat (first|apply Kd.dQ|apply Kd.dR|apply Kd.dV));exact agJ.out⟩,⟨bG⟩⟩
    ·rw [if_neg c5] at H
     have lF:decide (65≤(bt a0 cJ))=false:=decide_eq_false c5
     clear c5
     obtain ⟨c11,H⟩:=iA H
     have agK:=aa.mk c11
     clear c11
     obtain ⟨agL,Mx⟩:∃ y_:List Int,y_=(kE ++ [bt a0 cJ]):=⟨_,rfl⟩
     replace H:(aY.l0 k1 a0 agL (wrap64 (cJ + 1)))=some r:=by first|(rw [Mx];with_reducible exact H)|(have uY:=(Option.bind_some _ _).symm.trans H;rw [Mx];with_reducible exact uY)|(have uY:=(Option.bind_some _ _).symm.trans H;with_reducible exact uY)|with_reducible exact H|(rw [Mx];exact H)|exact H
     have agM:=aa.mk Mx
     clear Mx
     have H':=aa.mk H
     clear H
     have p4: 0≤(cJ:Int):=of_decide_eq_true bp
     have q4:cJ < (a0.size:Int):=of_decide_eq_true bp
     have Yv:=dA a0 cJ
     replace p4:=eq_true p4
     replace q4:=eq_true q4
     go_wp2_with (first|((with_reducible refine jo (b:= .append) (xs:=#[.tmp 23,.tmp 25]) rfl ?_);at_builtin;refine Kd.mZ (Kd.int .u8) (w0:=w) w.heap.size rfl (.tmp 23) (.tmp 25) 23 5 (.int .u8 0) 1 rfl Tryz.underlying23 wH rfl bh ak u3 kE (bt a0 cJ) [.int .u8 (bt a0 cJ)] (fun _ =>True) (fun _ =>False) rfl rfl ?aP (fun _ hk=>hk.elim) ?aF ?aO ?aB ?aS ?aL ?_;(case aP=>exact rfl);(case aB=>exact bG);(case aF=>exact (fun _ _ =>trivial));(case aO=>exact sF);(case aS=>exact (dm bG));(case aL=>have:=agK.out;omega);intro avV Ld ho hb hg hat;rw [← agM.out] at ho;replace HB:=aa.mk (hb);have agN:=aa.mk (ho);clear wB;clear ho hb hg hat))
     go_roundg k1
     case measure=>have:=p9.out;omega
     case rel=>exact ⟨(agL),(wrap64 (cJ + 1)),b9,H',⟨je⟩,⟨by (with_reducible repeat (first|apply Kd.dQ|apply Kd.dR|apply Kd.dV));exact agN.out⟩,⟨bG⟩⟩
   ·rw [if_neg c2] at H
    have sP:=decide_eq_false c2
    clear c2
    obtain rfl:=Option.some.inj H
    have asN:=uV (P:=Tryz.prog) Tryz.underlying23 Tryz.underlying5 Tryz.underlying9 (Kd.Ay wB.out)
    go_wp2
    go_ret
    exact ⟨cH,bG⟩
end Go.Proofs.YtokpnfljjjjikaaGreatDoor.mY
