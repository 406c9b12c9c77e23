import Derived.Test.YtokpnfljjjjikaaGreatDoorQPtx18
set_option maxHeartbeats 8000000
set_option maxRecDepth 100000
namespace Go.Proofs.YtokpnfljjjjikaaGreatDoor.mY
open Go.RowKit Go.Proofs.YtokpnfljjjjikaaGreatDoor.qP Go.Proofs.aj.bO Go.Proofs.aj.fA Go.Proofs.aj.cK
attribute [local go_sem] ia ig iU iV gf gh ij iq
set_option linter.unusedVariables false
set_option linter.unusedSimpArgs false
mutual
def bD.j0:Nat→ByteArray→Bool→Option (ByteArray×Bool)
 | 0,_,_ =>none
 |k + 1,x0,x16=>if x16=true then (some ((⟨#[]⟩:ByteArray),false)) else (bD.l0 k x0 ([]:List Int) 1)
def bD.l0:Nat→ByteArray→List Int→Int→Option (ByteArray×Bool)
 | 0,_,_,_ =>none
 |k + 1,x0,x4,x5=>if x5 < (wrap64 ((x0.size:Int) - 1)) then (if 0≤x5 then (if x5 < (x0.size:Int) then (if (bt x0 x5)=34 then (some ((⟨#[]⟩:ByteArray),false)) else (if (bt x0 x5)=92 then (if (wrap64 (x5 + 1))=(wrap64 ((x0.size:Int) - 1)) then (some ((⟨#[]⟩:ByteArray),false)) else (if 0≤(wrap64 (x5 + 1)) then (if (wrap64 (x5 + 1)) < (x0.size:Int) then (if (bt x0 (wrap64 (x5 + 1))) < 32 then (some ((⟨#[]⟩:ByteArray),false)) else (if (bt x0 (wrap64 (x5 + 1))) > 126 then (some ((⟨#[]⟩:ByteArray),false)) else (if x4.length < 140737488355328 then (bD.l0 k x0 (x4 ++ [bt x0 (wrap64 (x5 + 1))]) (wrap64 ((wrap64 (x5 + 1)) + 1))) else (none)))) else (none)) else (none))) else (if (bt x0 x5) < 32 then (some ((⟨#[]⟩:ByteArray),false)) else (if (bt x0 x5) > 126 then (some ((⟨#[]⟩:ByteArray),false)) else (if x4.length < 140737488355328 then (bD.l0 k x0 (x4 ++ [bt x0 x5]) (wrap64 (x5 + 1))) else (none)))))) else (none)) else (none)) else (if 0≤x5 then (if x5 < (x0.size:Int) then (some (strOfNums x4,((bt x0 x5) == 34))) else (none)) else (none))
end
def bD.f (k:Nat) (a0:ByteArray):Option (ByteArray×Bool):=(bz.f k a0).bind fun WT=>(if WT=true then (some (a0,true)) else (if (a0.size:Int) < 2 then (bD.j0 k a0 true) else (if 0 < (a0.size:Int) then (bD.j0 k a0 ((bt a0 0) != 34)) else (none))))
theorem bD.dF:∀ k,(∀ y0 y1,bL (bD.j0 k y0 y1) (bD.j0 (k + 1) y0 y1))∧(∀ y0 y1 y2,bL (bD.l0 k y0 y1 y2) (bD.l0 (k + 1) y0 y1 y2))
 | 0=>⟨fun _ _ r h=>by simp [bD.j0] at h,fun _ _ _ r h=>by simp [bD.l0] at h⟩
 |k + 1=>by
  obtain ⟨fV,ih1⟩:=bD.dF k
  refine ⟨?_,?_⟩
  ·intro y0 y1
   unfold bD.j0
   repeat' first
   |(with_reducible first|exact fV _ _|exact ih1 _ _ _|exact bz.mono _ _|exact bL.refl _|exact bL.none _|refine bL.ite ?_ ?_|refine bL.bind ?_ (fun _ =>?_))
   |exact fV _ _
   |exact ih1 _ _ _
   |exact bz.mono _ _
   |exact bL.none _
   |refine bL.ite ?_ ?_
   |refine bL.bind ?_ (fun _ =>?_)
  ·intro y0 y1 y2
   unfold bD.l0
   repeat' first
   |(with_reducible first|exact fV _ _|exact ih1 _ _ _|exact bz.mono _ _|exact bL.refl _|exact bL.none _|refine bL.ite ?_ ?_|refine bL.bind ?_ (fun _ =>?_))
   |exact fV _ _
   |exact ih1 _ _ _
   |exact bz.mono _ _
   |exact bL.none _
   |refine bL.ite ?_ ?_
   |refine bL.bind ?_ (fun _ =>?_)
theorem bD.mono:∀ a0 k,bL (bD.f k a0) (bD.f (k + 1) a0):=by
 intro a0 k
 obtain ⟨fV,ih1⟩:=bD.dF k
 unfold bD.f
 repeat' first
  |(with_reducible first|exact fV _ _|exact ih1 _ _ _|exact bz.mono _ _|exact bL.refl _|exact bL.none _|refine bL.ite ?_ ?_|refine bL.bind ?_ (fun _ =>?_))
  |exact fV _ _
  |exact ih1 _ _ _
  |exact bz.mono _ _
  |exact bL.none _
  |refine bL.ite ?_ ?_
  |refine bL.bind ?_ (fun _ =>?_)
theorem bD.calls (k:Nat) (a0:ByteArray) (r1:ByteArray) (r2:Bool) (w:World) (h:bD.f k a0=some (r1,r2)):
 Calls Tryz.prog 128 #[.string a0] w fun e w'=>e= .returned (.tuple #[.string r1,.bool r2])∧Below w.heap.size w w':=by
 have HB:=aa.mk (Below.refl w.heap.size w)
 have H:((bz.f k a0).bind fun WT=>(if WT=true then (some (a0,true)) else (if (a0.size:Int) < 2 then (bD.j0 k a0 true) else (if 0 < (a0.size:Int) then (bD.j0 k a0 ((bt a0 0) != 34)) else (none)))))=some (r1,r2):=h
 clear h
 obtain ⟨WT,A2,H⟩:=bd_ H
 by_cases c3:WT=true
 ·subst c3
  rw [if_pos rfl] at H
  simp only [Option.some.injEq,Prod.mk.injEq] at H
  obtain ⟨rfl,rfl⟩:=H
  go_enter Tryz.func128,Tryz.ntmps128
  go_wp2_with (first|(go_at_call 134;(with_reducible refine (bz.calls k a0 true _ A2.out).mono ?_);rintro e w' ⟨rfl,⟨nd,rfl⟩⟩;(try first|exact ⟨rfl,_,World.drewN_drewN _ _ _⟩|exact ⟨rfl,_,Eq.trans (World.drewN_drewN _ _ _) (congrArg (World.drewN _) (Nat.add_assoc _ _ _))⟩)))
  repeat (go_quiet (first|(go_at_call 134;(with_reducible refine (bz.calls k a0 true _ A2.out).mono ?_);rintro e w' ⟨rfl,⟨nd,rfl⟩⟩;(try first|exact ⟨rfl,_,World.drewN_drewN _ _ _⟩|exact ⟨rfl,_,Eq.trans (World.drewN_drewN _ _ _) (congrArg (World.drewN _) (Nat.add_assoc _ _ _))⟩)));try go_wp2_with (first|(go_at_call 134;(with_reducible refine (bz.calls k a0 true _ A2.out).mono ?_);rintro e w' ⟨rfl,⟨nd,rfl⟩⟩;(try first|exact ⟨rfl,_,World.drewN_drewN _ _ _⟩|exact ⟨rfl,_,Eq.trans (World.drewN_drewN _ _ _) (congrArg (World.drewN _) (Nat.add_assoc _ _ _))⟩))))
  go_ret2
  exact ⟨cH,bG⟩
 ·replace c3:=Bool.eq_false_iff.mpr c3
  subst c3
  rw [if_neg (show ¬ (false=true) by decide)] at H
  have HC4:=aa.mk H
  clear H
  go_enter Tryz.func128,Tryz.ntmps128
  go_upto_region 3 with (first|(go_at_call 134;(with_reducible refine (bz.calls k a0 false _ A2.out).mono ?_);rintro e w' ⟨rfl,⟨nd,rfl⟩⟩;(try first|exact ⟨rfl,_,World.drewN_drewN _ _ _⟩|exact ⟨rfl,_,Eq.trans (World.drewN_drewN _ _ _) (congrArg (World.drewN _) (Nat.add_assoc _ _ _))⟩)))
  repeat (go_quiet (first|(go_at_call 134;(with_reducible refine (bz.calls k a0 false _ A2.out).mono ?_);rintro e w' ⟨rfl,⟨nd,rfl⟩⟩;(try first|exact ⟨rfl,_,World.drewN_drewN _ _ _⟩|exact ⟨rfl,_,Eq.trans (World.drewN_drewN _ _ _) (congrArg (World.drewN _) (Nat.add_assoc _ _ _))⟩)));go_upto_region 3 with (first|(go_at_call 134;(with_reducible refine (bz.calls k a0 false _ A2.out).mono ?_);rintro e w' ⟨rfl,⟨nd,rfl⟩⟩;(try first|exact ⟨rfl,_,World.drewN_drewN _ _ _⟩|exact ⟨rfl,_,Eq.trans (World.drewN_drewN _ _ _) (congrArg (World.drewN _) (Nat.add_assoc _ _ _))⟩))))
  (try simp only [Act.put,List.setIfInBounds_toArray,List.set_cons_zero,List.set_cons_succ])
  go_cut [16] (fun v16 wc=>∃ (kq:Nat) (SC:Bool),v16= .bool SC∧aa (bD.j0 kq a0 SC=some (r1,r2))∧aa (kq≤k)∧aa (Below w.heap.size w wc))
  case first=>
   have H:=HC4.out
   clear HC4
   by_cases c5:(a0.size:Int) < 2
   ·rw [if_pos c5] at H
    have lF:=decide_eq_true c5
    have Cf:decide (a0.size < 2)=true:=decide_eq_true ak
    clear c5
    (first|rw [lF]|(simp only [cU,dh];rw [lF])|skip)
    have H':=aa.mk H
    clear H
    go_wp2
    repeat (go_quiet (fail);try go_wp2)
    go_meet
    case rel=>exact ⟨_,(true),b9,H',⟨iT⟩,⟨bG⟩⟩
   ·rw [if_neg c5] at H
    have lF:=decide_eq_false c5
    have Cf:decide (a0.size < 2)=false:=decide_eq_false ak
    clear c5
    (first|rw [lF]|(simp only [cU,dh];rw [lF])|skip)
    obtain ⟨c6,H⟩:=iA H
    have nL:=decide_eq_true c6
    have wK:decide (0 < a0.size)=true:=decide_eq_true ak
    clear c6
    have H':=aa.mk H
    clear H
    have p7: 0≤(0:Int):=ak
    have q7: 0 < a0.size:=(by have:(0:Int) < (a0.size:Int):=of_decide_eq_true bp;omega)
    have AO:∀ h: 0 < a0.size,((a0[0]'h).toNat:Int)=bt a0 0:=dA a0 0
    clear p7
    have qi7:(0 < (a0.size:Int))=True:=eq_true (of_decide_eq_true bp)
    replace q7:=eq_true q7
    go_wp2
    repeat (go_quiet (fail);try go_wp2)
    go_meet
    case rel=>exact ⟨_,(((bt a0 0) != 34)),b9,H',⟨iT⟩,⟨bG⟩⟩
  case rest=>
   clear HC4
   obtain ⟨kq,SC,rfl,HA,HJ3,HB⟩:=hcut
   cases kq with
   |zero=>exact absurd HA.out (by simp [bD.j0])
   |succ kj3=>
    have H:=HA.out
    clear HA
    simp only [bD.j0] at H
    by_cases c8:SC=true
    ·subst c8
     rw [if_pos rfl] at H
     simp only [Option.some.injEq,Prod.mk.injEq] at H
     obtain ⟨rfl,rfl⟩:=H
     go_wp2
     repeat (go_quiet (fail);try go_wp2)
     go_ret2
     exact ⟨cH,bG⟩
    ·replace c8:=Bool.eq_false_iff.mpr c8
     subst c8
     rw [if_neg (show ¬ (false=true) by decide)] at H
     have H':=aa.mk H
     clear H
     go_wp2
     repeat (go_quiet (fail);try go_wp2)
     go_loopg [4,5] kj3 (fun kq v4 v5 w'=>∃ (oF:List Int) (fL:Int),v5= .int .i64 fL∧aa (bD.l0 kq a0 oF fL=some (r1,r2))∧aa (kq≤kj3)∧aa (Kd.R (Kd.int .u8) 5 w' w.heap.size (fun _ =>True) v4 oF)∧aa (Below w.heap.size w w'))
     case atStart=>exact ⟨(([]:List Int)),(1),b9,H',⟨Nat.le_refl _⟩,⟨mN⟩,⟨bG⟩⟩
     case round=>
      clear H'
      obtain ⟨oF,fL,rfl,HA,uI,NL,HB⟩:=hrel
      cases gk with
      |zero=>exact absurd HA.out (by simp [bD.l0])
      |succ k2=>
       have H:=HA.out
       clear HA
       simp only [bD.l0] at H
       by_cases c9:fL < (wrap64 ((a0.size:Int) - 1))
       ·rw [if_pos c9] at H
        have Cg:=decide_eq_true c9
        clear c9
        obtain ⟨c10,H⟩:=iA H
        have pR:=decide_eq_true c10
        clear c10
        obtain ⟨c11,H⟩:=iA H
        have oC:=decide_eq_true c11
        clear c11
        by_cases c13:(bt a0 fL)=34
        ·rw [if_pos c13] at H
         have vW:=beq_iff_eq.mpr c13
         have Fb:=bne_eq_false_iff_eq.mpr c13
         clear c13
         simp only [Option.some.injEq,Prod.mk.injEq] at H
         obtain ⟨rfl,rfl⟩:=H
         have FO: 0≤(fL:Int):=of_decide_eq_true bp
         have FP:fL < (a0.size:Int):=of_decide_eq_true bp
         have OM:=dA a0 fL
         replace FO:=eq_true FO
         replace FP:=eq_true FP
         go_wp2
         repeat (go_quiet (fail);try go_wp2)
         go_ret2
         exact ⟨cH,bG⟩
        ·rw [if_neg c13] at H
         have vW:=beq_eq_false_iff_ne.mpr c13
         have Fb:=bne_iff_ne.mpr c13
         by_cases c15:(bt a0 fL)=92
         ·rw [if_pos c15] at H
          have tL:=beq_iff_eq.mpr c15
          have CU:=bne_eq_false_iff_eq.mpr c15
          clear c15
          by_cases c16:(wrap64 (fL + 1))=(wrap64 ((a0.size:Int) - 1))
          ·rw [if_pos c16] at H
           have qT:=beq_iff_eq.mpr c16
           have CV:=bne_eq_false_iff_eq.mpr c16
           clear c16
           simp only [Option.some.injEq,Prod.mk.injEq] at H
           obtain ⟨rfl,rfl⟩:=H
           have FO: 0≤(fL:Int):=of_decide_eq_true bp
           have FP:fL < (a0.size:Int):=of_decide_eq_true bp
           have OM:=dA a0 fL
           replace FO:=eq_true FO
           replace FP:=eq_true FP
           have Hz: 0≤(fL:Int):=of_decide_eq_true bp
           have HJ:fL < (a0.size:Int):=of_decide_eq_true bp
           have TR:=dA a0 fL
           replace Hz:=eq_true Hz
           replace HJ:=eq_true HJ
           go_wp2
           repeat (go_quiet (fail);try go_wp2)
           go_ret2
           exact ⟨cH,bG⟩
          ·rw [if_neg c16] at H
           have qT:=beq_eq_false_iff_ne.mpr c16
           have CV:=bne_iff_ne.mpr c16
           obtain ⟨pK,ER⟩:∃ j_:Int,(wrap64 (fL + 1))=j_ :=⟨_,rfl⟩
           (first|rw [ER] at H|simp only [ER] at H)
           (try rw [ER] at qT)
           (try rw [ER] at CV)
           have apX:(IntKind.i64.wrap (fL + 1))=pK:=(cU _).trans ER
           obtain ⟨c18,H⟩:=iA H
           have xd:=decide_eq_true c18
           clear c18
           obtain ⟨c19,H⟩:=iA H
           have zj:=decide_eq_true c19
           clear c19
           by_cases c21:(bt a0 (pK)) < 32
           ·rw [if_pos c21] at H
            have wW:=decide_eq_true c21
            clear c21
            simp only [Option.some.injEq,Prod.mk.injEq] at H
            obtain ⟨rfl,rfl⟩:=H
            have FO: 0≤(fL:Int):=of_decide_eq_true bp
            have FP:fL < (a0.size:Int):=of_decide_eq_true bp
            have OM:=dA a0 fL
            replace FO:=eq_true FO
            replace FP:=eq_true FP
            have Hz: 0≤(fL:Int):=of_decide_eq_true bp
            have HJ:fL < (a0.size:Int):=of_decide_eq_true bp
            have TR:=dA a0 fL
            replace Hz:=eq_true Hz
            replace HJ:=eq_true HJ
            have p20: 0≤((pK):Int):=of_decide_eq_true bp
            have q20:(pK) < (a0.size:Int):=of_decide_eq_true bp
            have agW:=dA a0 (pK)
            replace p20:=eq_true p20
            replace q20:=eq_true q20
            go_wp2
            repeat (go_quiet (fail);try go_wp2)
            go_ret2
            exact ⟨Qr,bG⟩
           ·rw [if_neg c21] at H
            have wW:=decide_eq_false c21
            clear c21
            by_cases BO:(bt a0 (pK)) > 126
            ·rw [if_pos BO] at H
             have wX:decide (126 < (bt a0 (pK)))=true:=decide_eq_true BO
             clear BO
             simp only [Option.some.injEq,Prod.mk.injEq] at H
             obtain ⟨rfl,rfl⟩:=H
             have FO: 0≤(fL:Int):=of_decide_eq_true bp
             have FP:fL < (a0.size:Int):=of_decide_eq_true bp
             have OM:=dA a0 fL
             replace FO:=eq_true FO
             replace FP:=eq_true FP
             have Hz: 0≤(fL:Int):=of_decide_eq_true bp
             have HJ:fL < (a0.size:Int):=of_decide_eq_true bp
             have TR:=dA a0 fL
             replace Hz:=eq_true Hz
             replace HJ:=eq_true HJ
             have p20: 0≤((pK):Int):=of_decide_eq_true bp
             have q20:(pK) < (a0.size:Int):=of_decide_eq_true bp
             have agW:=dA a0 (pK)
             replace p20:=eq_true p20
             replace q20:=eq_true q20
             have WQ: 0≤((pK):Int):=of_decide_eq_true bp
             have WR:(pK) < (a0.size:Int):=of_decide_eq_true bp
             have ad3:=dA a0 (pK)
             replace WQ:=eq_true WQ
             replace WR:=eq_true WR
             go_wp2
             repeat (go_quiet (fail);try go_wp2)
             go_ret2
             exact ⟨Qr,bG⟩
            ·rw [if_neg BO] at H
             have wX:decide (126 < (bt a0 (pK)))=false:=decide_eq_false BO
             clear BO
             obtain ⟨Hx,H⟩:=iA H
             have aci:=aa.mk Hx
             clear Hx
             obtain ⟨agX,MC⟩:∃ y_:List Int,y_=(oF ++ [bt a0 (pK)]):=⟨_,rfl⟩
             replace H:(bD.l0 k2 a0 agX (wrap64 ((pK) + 1)))=some (r1,r2):=by first|(rw [MC];with_reducible exact H)|(have uY:=(Option.bind_some _ _).symm.trans H;rw [MC];with_reducible exact uY)|(have uY:=(Option.bind_some _ _).symm.trans H;with_reducible exact uY)|with_reducible exact H|(rw [MC];exact H)|exact H
             have acj:=aa.mk MC
             clear MC
             have H':=aa.mk H
             clear H
             have FO: 0≤(fL:Int):=of_decide_eq_true bp
             have FP:fL < (a0.size:Int):=of_decide_eq_true bp
             have OM:=dA a0 fL
             replace FO:=eq_true FO
             replace FP:=eq_true FP
             have Hz: 0≤(fL:Int):=of_decide_eq_true bp
             have HJ:fL < (a0.size:Int):=of_decide_eq_true bp
             have TR:=dA a0 fL
             replace Hz:=eq_true Hz
             replace HJ:=eq_true HJ
             have p20: 0≤((pK):Int):=of_decide_eq_true bp
             have q20:(pK) < (a0.size:Int):=of_decide_eq_true bp
             have agW:=dA a0 (pK)
             replace p20:=eq_true p20
             replace q20:=eq_true q20
             have WQ: 0≤((pK):Int):=of_decide_eq_true bp
             have WR:(pK) < (a0.size:Int):=of_decide_eq_true bp
             have ad3:=dA a0 (pK)
             replace WQ:=eq_true WQ
             replace WR:=eq_true WR
             have p24: 0≤((pK):Int):=of_decide_eq_true bp
             have q24:(pK) < (a0.size:Int):=of_decide_eq_true bp
             have av5:=dA a0 (pK)
             replace p24:=eq_true p24
             replace q24:=eq_true q24
             go_wp2_with (first|((with_reducible refine jo (b:= .append) (xs:=#[.tmp 47,.tmp 51]) rfl ?_);at_builtin;refine Kd.mZ (Kd.int .u8) (w0:=w) w.heap.size rfl (.tmp 47) (.tmp 51) 23 5 (.int .u8 0) 1 rfl Tryz.underlying23 wH rfl bh ak u4 oF (bt a0 (pK)) [.int .u8 (bt a0 (pK))] (fun _ =>True) (fun _ =>False) rfl rfl ?aP (fun _ hk=>hk.elim) ?aF ?aO ?aB ?aS ?aL ?_;(case aP=>exact rfl);(case aB=>exact bG);(case aF=>exact (fun _ _ =>trivial));(case aO=>exact DW);(case aS=>exact (dm bG));(case aL=>have:=aci.out;omega);intro apY VG ho hb hg hat;rw [← acj.out] at ho;replace HB:=aa.mk (hb);have ack:=aa.mk (ho);clear NL;clear ho hb hg hat))
             repeat (go_quiet (fail);try go_wp2_with (first|((with_reducible refine jo (b:= .append) (xs:=#[.tmp 47,.tmp 51]) rfl ?_);at_builtin;refine Kd.mZ (Kd.int .u8) (w0:=w) w.heap.size rfl (.tmp 47) (.tmp 51) 23 5 (.int .u8 0) 1 rfl Tryz.underlying23 wH rfl bh ak u4 oF (bt a0 (pK)) [.int .u8 (bt a0 (pK))] (fun _ =>True) (fun _ =>False) rfl rfl ?aP (fun _ hk=>hk.elim) ?aF ?aO ?aB ?aS ?aL ?_;(case aP=>exact rfl);(case aB=>exact bG);(case aF=>exact (fun _ _ =>trivial));(case aO=>exact DW);(case aS=>exact (dm bG));(case aL=>have:=aci.out;omega);intro apY VG ho hb hg hat;rw [← acj.out] at ho;replace HB:=aa.mk (hb);have ack:=aa.mk (ho);clear NL;clear ho hb hg hat)))
             go_roundg k2
             case measure=>have:=HJ3.out;have:=uI.out;omega
             case rel=>exact ⟨(agX),(wrap64 ((pK) + 1)),(by first|rfl|(simp;done)|(simp only [← ER]<;>(first|rfl|simp))|(simp [*];done)),H',⟨by have:=HJ3.out;have:=uI.out;omega⟩,⟨by (with_reducible repeat (first|apply Kd.dQ|apply Kd.dR|apply Kd.dV));exact ack.out⟩,⟨bG⟩⟩
         ·rw [if_neg c15] at H
          have tL:=beq_eq_false_iff_ne.mpr c15
          have CU:=bne_iff_ne.mpr c15
          by_cases c28:(bt a0 fL) < 32
          ·rw [if_pos c28] at H
           have CW:=decide_eq_true c28
           clear c28
           simp only [Option.some.injEq,Prod.mk.injEq] at H
           obtain ⟨rfl,rfl⟩:=H
           have FO: 0≤(fL:Int):=of_decide_eq_true bp
           have FP:fL < (a0.size:Int):=of_decide_eq_true bp
           have OM:=dA a0 fL
           replace FO:=eq_true FO
           replace FP:=eq_true FP
           have Hz: 0≤(fL:Int):=of_decide_eq_true bp
           have HJ:fL < (a0.size:Int):=of_decide_eq_true bp
           have TR:=dA a0 fL
           replace Hz:=eq_true Hz
           replace HJ:=eq_true HJ
           have p27: 0≤(fL:Int):=of_decide_eq_true bp
           have q27:fL < (a0.size:Int):=of_decide_eq_true bp
           have agY:=dA a0 fL
           replace p27:=eq_true p27
           replace q27:=eq_true q27
           go_wp2
           repeat (go_quiet (fail);try go_wp2)
           go_ret2
           exact ⟨cH,bG⟩
          ·rw [if_neg c28] at H
           have CW:=decide_eq_false c28
           clear c28
           by_cases Fh:(bt a0 fL) > 126
           ·rw [if_pos Fh] at H
            have Mu:decide (126 < (bt a0 fL))=true:=decide_eq_true Fh
            clear Fh
            simp only [Option.some.injEq,Prod.mk.injEq] at H
            obtain ⟨rfl,rfl⟩:=H
            have FO: 0≤(fL:Int):=of_decide_eq_true bp
            have FP:fL < (a0.size:Int):=of_decide_eq_true bp
            have OM:=dA a0 fL
            replace FO:=eq_true FO
            replace FP:=eq_true FP
            have Hz: 0≤(fL:Int):=of_decide_eq_true bp
            have HJ:fL < (a0.size:Int):=of_decide_eq_true bp
            have TR:=dA a0 fL
            replace Hz:=eq_true Hz
            replace HJ:=eq_true HJ
            have p27: 0≤(fL:Int):=of_decide_eq_true bp
            have q27:fL < (a0.size:Int):=of_decide_eq_true bp
            have agY:=dA a0 fL
            replace p27:=eq_true p27
            replace q27:=eq_true q27
            have My: 0≤(fL:Int):=of_decide_eq_true bp
            have Mz:fL < (a0.size:Int):=of_decide_eq_true bp
            have WI:=dA a0 fL
            replace My:=eq_true My
            replace Mz:=eq_true Mz
            go_wp2
            repeat (go_quiet (fail);try go_wp2)
            go_ret2
            exact ⟨cH,bG⟩
           ·rw [if_neg Fh] at H
            have Mu:decide (126 < (bt a0 fL))=false:=decide_eq_false Fh
            clear Fh
            obtain ⟨Hy,H⟩:=iA H
            have aco:=aa.mk Hy
            clear Hy
            obtain ⟨agZ,MD⟩:∃ y_:List Int,y_=(oF ++ [bt a0 fL]):=⟨_,rfl⟩
            replace H:(bD.l0 k2 a0 agZ (wrap64 (fL + 1)))=some (r1,r2):=by first|(rw [MD];with_reducible exact H)|(have uY:=(Option.bind_some _ _).symm.trans H;rw [MD];with_reducible exact uY)|(have uY:=(Option.bind_some _ _).symm.trans H;with_reducible exact uY)|with_reducible exact H|(rw [MD];exact H)|exact H
            have acp:=aa.mk MD
            clear MD
            have H':=aa.mk H
            clear H
            have FO: 0≤(fL:Int):=of_decide_eq_true bp
            have FP:fL < (a0.size:Int):=of_decide_eq_true bp
            have OM:=dA a0 fL
            replace FO:=eq_true FO
            replace FP:=eq_true FP
            have Hz: 0≤(fL:Int):=of_decide_eq_true bp
            have HJ:fL < (a0.size:Int):=of_decide_eq_true bp
            have TR:=dA a0 fL
            replace Hz:=eq_true Hz
            replace HJ:=eq_true HJ
            have p27: 0≤(fL:Int):=of_decide_eq_true bp
            have q27:fL < (a0.size:Int):=of_decide_eq_true bp
            have agY:=dA a0 fL
            replace p27:=eq_true p27
            replace q27:=eq_true q27
            have My: 0≤(fL:Int):=of_decide_eq_true bp
            have Mz:fL < (a0.size:Int):=of_decide_eq_true bp
            have WI:=dA a0 fL
            replace My:=eq_true My
            replace Mz:=eq_true Mz
            have WK: 0≤(fL:Int):=of_decide_eq_true bp
            have WL:fL < (a0.size:Int):=of_decide_eq_true bp
            have adV:=dA a0 fL
            replace WK:=eq_true WK
            replace WL:=eq_true WL
            go_wp2_with (first|((with_reducible refine jo (b:= .append) (xs:=#[.tmp 47,.tmp 51]) rfl ?_);at_builtin;refine Kd.mZ (Kd.int .u8) (w0:=w) w.heap.size rfl (.tmp 47) (.tmp 51) 23 5 (.int .u8 0) 1 rfl Tryz.underlying23 wH rfl bh ak u4 oF (bt a0 fL) [.int .u8 (bt a0 fL)] (fun _ =>True) (fun _ =>False) rfl rfl ?aP (fun _ hk=>hk.elim) ?aF ?aO ?aB ?aS ?aL ?_;(case aP=>exact rfl);(case aB=>exact bG);(case aF=>exact (fun _ _ =>trivial));(case aO=>exact DW);(case aS=>exact (dm bG));(case aL=>have:=aco.out;omega);intro apZ TC ho hb hg hat;rw [← acp.out] at ho;replace HB:=aa.mk (hb);have acq:=aa.mk (ho);clear NL;clear ho hb hg hat))
            repeat (go_quiet (fail);try go_wp2_with (first|((with_reducible refine jo (b:= .append) (xs:=#[.tmp 47,.tmp 51]) rfl ?_);at_builtin;refine Kd.mZ (Kd.int .u8) (w0:=w) w.heap.size rfl (.tmp 47) (.tmp 51) 23 5 (.int .u8 0) 1 rfl Tryz.underlying23 wH rfl bh ak u4 oF (bt a0 fL) [.int .u8 (bt a0 fL)] (fun _ =>True) (fun _ =>False) rfl rfl ?aP (fun _ hk=>hk.elim) ?aF ?aO ?aB ?aS ?aL ?_;(case aP=>exact rfl);(case aB=>exact bG);(case aF=>exact (fun _ _ =>trivial));(case aO=>exact DW);(case aS=>exact (dm bG));(case aL=>have:=aco.out;omega);intro apZ TC ho hb hg hat;rw [← acp.out] at ho;replace HB:=aa.mk (hb);have acq:=aa.mk (ho);clear NL;clear ho hb hg hat)))
            go_roundg k2
            case measure=>have:=HJ3.out;have:=uI.out;omega
            case rel=>exact ⟨(agZ),(wrap64 (fL + 1)),b9,H',⟨by have:=HJ3.out;have:=uI.out;omega⟩,⟨by (with_reducible repeat (first|apply Kd.dQ|apply Kd.dR|apply Kd.dV));exact acq.out⟩,⟨bG⟩⟩
       ·rw [if_neg c9] at H
        have Cg:=decide_eq_false c9
        clear c9
        obtain ⟨Ez,H⟩:=iA H
        have ag0:=decide_eq_true Ez
        clear Ez
        obtain ⟨Hr,H⟩:=iA H
        have Fi:=decide_eq_true Hr
        clear Hr
        simp only [Option.some.injEq,Prod.mk.injEq] at H
        obtain ⟨rfl,rfl⟩:=H
        have asX:=uV (P:=Tryz.prog) Tryz.underlying23 Tryz.underlying5 Tryz.underlying9 (Kd.Ay NL.out)
        have p36: 0≤(fL:Int):=of_decide_eq_true bp
        have q36:fL < (a0.size:Int):=of_decide_eq_true bp
        have av6:=dA a0 fL
        replace p36:=eq_true p36
        replace q36:=eq_true q36
        go_wp2
        refine rE (n:=8) (S:=fun w'=>(convert 23 9 u4).run Tryz.prog w'= .ok (.string (strOfNums oF)) w') (ds:=[]) #[false,false,false,false,false,false,false,false] aq (by rfl) (by rfl) (uV (P:=Tryz.prog) Tryz.underlying23 Tryz.underlying5 Tryz.underlying9 (Kd.Ay (Kd.dV NL.out))) (fun hHeld=>?_)
        refine cO (i:=0) (N:=some 55) #[true,false,false,false,false,false,false,false] rfl rfl aq (fun _ _ _ h=>h) (Or.inl ⟨by rfl,dK⟩) dL ?_
        refine cO (i:=2) (N:=some 57) #[true,false,true,false,false,false,false,false] rfl rfl aq (fun _ _ _ h=>h) (Or.inl ⟨by rfl,dK⟩) dL ?_
        refine cO (i:=3) (N:=some 58) #[true,false,true,true,false,false,false,false] rfl rfl aq (fun _ _ _ h=>h) (Or.inl ⟨by rfl,dK⟩) dL ?_
        refine ke (i:=1) (N:=some 56) #[true,true,true,true,false,false,false,false] rfl rfl aq (fun _ _ _ h=>h) (Or.inl ⟨by rfl,(by intro w' s0;go_simp;with_reducible rfl)⟩) hHeld dL ?_
        refine cO (i:=6) (N:=some 2) #[true,true,true,true,false,false,true,false] rfl rfl aq (fun _ _ _ h=>h) (Or.inl ⟨by rfl,dK⟩) dL ?_
        refine ke (i:=4) (N:=some 59) #[true,true,true,true,true,false,true,false] rfl rfl aq (fun _ _ _ h=>h) (Or.inl ⟨by rfl,(by intro w' s0;go_simp;with_reducible rfl)⟩) hHeld dL ?_
        refine cO (i:=5) (N:=some 60) #[true,true,true,true,true,true,true,false] rfl rfl aq (fun _ _ _ h=>h) (Or.inl ⟨by rfl,dK⟩) dL ?_
        refine cO (i:=7) (N:=some 3) #[true,true,true,true,true,true,true,true] rfl rfl aq (fun _ _ _ h=>h) (Or.inl ⟨by rfl,dK⟩) dL ?_
        refine vU aq ?_
        go_wp2
        go_ret2
        exact ⟨cH,bG⟩
end Go.Proofs.YtokpnfljjjjikaaGreatDoor.mY
namespace Go.Proofs.YtokpnfljjjjikaaGreatDoor.mY
open Go.RowKit Go.Proofs.YtokpnfljjjjikaaGreatDoor.qP Go.Proofs.aj.bO Go.Proofs.aj.fA Go.Proofs.aj.cK
attribute [local go_sem] ia ig iU iV gf gh ij iq
set_option linter.unusedVariables false
set_option linter.unusedSimpArgs false
def bI.j0:Nat→ByteArray→ByteArray→Bool→Option (ByteArray×ByteArray×Bool×Bool)
 | 0,_,_,_ =>none
 |k + 1,x5,x7,x43=>if x43=true then (if 1≤(wrap64 ((x7.size:Int) - 1)) then (if (wrap64 ((x7.size:Int) - 1))≤(x7.size:Int) then ((aU.f k (x7.extract 1 ((wrap64 ((x7.size:Int) - 1)):Int).toNat)).bind fun ad6=>(if ad6=true then ((aY.f k (x7.extract 1 ((wrap64 ((x7.size:Int) - 1)):Int).toNat)).bind fun WU=>(some (x5,WU,true,true))) else (some ((⟨#[]⟩:ByteArray),(⟨#[]⟩:ByteArray),false,false)))) else (none)) else (none)) else ((aQ.f k x7).bind fun ad7=>(if ad7=true then ((aY.f k x7).bind fun WV=>(some (x5,WV,false,true))) else (some ((⟨#[]⟩:ByteArray),(⟨#[]⟩:ByteArray),false,false))))
def bI.f (k:Nat) (a0:ByteArray):Option (ByteArray×ByteArray×Bool×Bool):=(iB.f a0 (⟨#[64]⟩:ByteArray)).bind fun lQ=>(if lQ < 0 then (some ((⟨#[]⟩:ByteArray),(⟨#[]⟩:ByteArray),false,false)) else (if 0≤lQ then (if lQ≤(a0.size:Int) then ((bD.f k (a0.extract 0 (lQ:Int).toNat)).bind fun Bk=>(if 0≤(wrap64 (lQ + 1)) then (if (wrap64 (lQ + 1))≤(a0.size:Int) then (if Bk.2=true then (if ((a0.extract ((wrap64 (lQ + 1)):Int).toNat a0.size).size:Int)≥2 then (if 0 < ((a0.extract ((wrap64 (lQ + 1)):Int).toNat a0.size).size:Int) then (if (bt (a0.extract ((wrap64 (lQ + 1)):Int).toNat a0.size) 0)=91 then (if 0≤(wrap64 (((a0.extract ((wrap64 (lQ + 1)):Int).toNat a0.size).size:Int) - 1)) then (if (wrap64 (((a0.extract ((wrap64 (lQ + 1)):Int).toNat a0.size).size:Int) - 1)) < ((a0.extract ((wrap64 (lQ + 1)):Int).toNat a0.size).size:Int) then (bI.j0 k Bk.1 (a0.extract ((wrap64 (lQ + 1)):Int).toNat a0.size) ((bt (a0.extract ((wrap64 (lQ + 1)):Int).toNat a0.size) (wrap64 (((a0.extract ((wrap64 (lQ + 1)):Int).toNat a0.size).size:Int) - 1))) == 93)) else (none)) else (none)) else (bI.j0 k Bk.1 (a0.extract ((wrap64 (lQ + 1)):Int).toNat a0.size) false)) else (none)) else (bI.j0 k Bk.1 (a0.extract ((wrap64 (lQ + 1)):Int).toNat a0.size) false)) else (some ((⟨#[]⟩:ByteArray),(⟨#[]⟩:ByteArray),false,false))) else (none)) else (none))) else (none)) else (none)))
theorem bI.dF:∀ k,(∀ y0 y1 y2,bL (bI.j0 k y0 y1 y2) (bI.j0 (k + 1) y0 y1 y2))
 | 0=>fun _ _ _ r h=>by simp [bI.j0] at h
 |k + 1=>by
  have fV:=bI.dF k
  ·intro y0 y1 y2
   unfold bI.j0
   repeat' first
   |(with_reducible first|exact fV _ _ _|exact aU.mono _ _|exact aY.mono _ _|exact aQ.mono _ _|exact bD.mono _ _|exact bL.refl _|exact bL.none _|refine bL.ite ?_ ?_|refine bL.bind ?_ (fun _ =>?_))
   |exact fV _ _ _
   |exact aU.mono _ _
   |exact aY.mono _ _
   |exact aQ.mono _ _
   |exact bD.mono _ _
   |exact bL.none _
   |refine bL.ite ?_ ?_
   |refine bL.bind ?_ (fun _ =>?_)
theorem bI.mono:∀ a0 k,bL (bI.f k a0) (bI.f (k + 1) a0):=by
 intro a0 k
 have fV:=bI.dF k
 unfold bI.f
 repeat' first
  |(with_reducible first|exact fV _ _ _|exact aU.mono _ _|exact aY.mono _ _|exact aQ.mono _ _|exact bD.mono _ _|exact bL.refl _|exact bL.none _|refine bL.ite ?_ ?_|refine bL.bind ?_ (fun _ =>?_))
  |exact fV _ _ _
  |exact aU.mono _ _
  |exact aY.mono _ _
  |exact aQ.mono _ _
  |exact bD.mono _ _
  |exact bL.none _
  |refine bL.ite ?_ ?_
  |refine bL.bind ?_ (fun _ =>?_)
theorem bI.calls (k:Nat) (a0:ByteArray) (r1:ByteArray) (r2:ByteArray) (r3:Bool) (r4:Bool) (w:World) (hG:aJ w) (h:bI.f k a0=some (r1,r2,r3,r4)):
 Calls Tryz.prog 78 #[.string a0] w fun e w'=>e= .returned (.tuple #[.agg #[.string r1,.string r2,.bool r3],.bool r4])∧Below w.heap.size w w':=by
 have wT:=Tryz.underlying30
 have HB:=aa.mk (Below.refl w.heap.size w)
 have HG:=aa.mk hG
 clear hG
 have H:((iB.f a0 (⟨#[64]⟩:ByteArray)).bind fun lQ=>(if lQ < 0 then (some ((⟨#[]⟩:ByteArray),(⟨#[]⟩:ByteArray),false,false)) else (if 0≤lQ then (if lQ≤(a0.size:Int) then ((bD.f k (a0.extract 0 (lQ:Int).toNat)).bind fun Bk=>(if 0≤(wrap64 (lQ + 1)) then (if (wrap64 (lQ + 1))≤(a0.size:Int) then (if Bk.2=true then (if ((a0.extract ((wrap64 (lQ + 1)):Int).toNat a0.size).size:Int)≥2 then (if 0 < ((a0.extract ((wrap64 (lQ + 1)):Int).toNat a0.size).size:Int) then (if (bt (a0.extract ((wrap64 (lQ + 1)):Int).toNat a0.size) 0)=91 then (if 0≤(wrap64 (((a0.extract ((wrap64 (lQ + 1)):Int).toNat a0.size).size:Int) - 1)) then (if (wrap64 (((a0.extract ((wrap64 (lQ + 1)):Int).toNat a0.size).size:Int) - 1)) < ((a0.extract ((wrap64 (lQ + 1)):Int).toNat a0.size).size:Int) then (bI.j0 k Bk.1 (a0.extract ((wrap64 (lQ + 1)):Int).toNat a0.size) ((bt (a0.extract ((wrap64 (lQ + 1)):Int).toNat a0.size) (wrap64 (((a0.extract ((wrap64 (lQ + 1)):Int).toNat a0.size).size:Int) - 1))) == 93)) else (none)) else (none)) else (bI.j0 k Bk.1 (a0.extract ((wrap64 (lQ + 1)):Int).toNat a0.size) false)) else (none)) else (bI.j0 k Bk.1 (a0.extract ((wrap64 (lQ + 1)):Int).toNat a0.size) false)) else (some ((⟨#[]⟩:ByteArray),(⟨#[]⟩:ByteArray),false,false))) else (none)) else (none))) else (none)) else (none))))=some (r1,r2,r3,r4):=h
 clear h
 obtain ⟨lQ,A2,H⟩:=bd_ H
 by_cases c3:lQ < 0
 ·rw [if_pos c3] at H
  have mg:=decide_eq_true c3
  clear c3
  simp only [Option.some.injEq,Prod.mk.injEq] at H
  obtain ⟨rfl,rfl,rfl,rfl⟩:=H
  go_enter Tryz.func78,Tryz.ntmps78
  go_wp2_with (first|((with_reducible refine cB (N:=2) rfl ?_);(try (refine cL (by rfl) ?_;dsimp only));refine cj ?hg (N:=2) ?hd (cs:=#[.string (⟨#[]⟩:ByteArray),.string (⟨#[]⟩:ByteArray),.bool false]) (t:=30) ?hr ?_;(case hd=>rfl);(case hg=>rfl);(case hr=>first|(go_simp;done)|(go_simp;rfl));intro kM hg w4 cE hb;have gU:=aa.mk (cE);have acr:=aa.mk ((dI:w.heap.size≤kM));have PO:=aa.mk ((dI:w.heap.size≤kM));replace HB:=aa.mk (aA bG hb);clear hb cE hg)|((with_reducible refine aK (f:=46) rfl ?_);refine bU (some 10) rfl rfl Tryz.func46 aq rfl #[.string a0,.string (⟨#[64]⟩:ByteArray)] rfl cz ?_;(with_reducible refine (iB.calls a0 (⟨#[64]⟩:ByteArray) lQ _ A2.out).mono ?_);rintro e w' ⟨rfl,⟨nd,rfl⟩⟩;refine ⟨_,rfl,?_⟩;(try (rw [sN w4];generalize Nq:World.drewN w4 _=w4;have lJ:aa (w4.heap[kM]? =some (.cells #[.string (⟨#[]⟩:ByteArray),.string (⟨#[]⟩:ByteArray),.bool false] 30 (0,0))):=⟨QB⟩;have lK:aa (Below w.heap.size w w4):=⟨Qq⟩;clear gU HB Nq;have gU:=lJ;have HB:=lK;clear lJ lK));have Ch:w4.cell? ⟨kM,0,none⟩=some (.string (⟨#[]⟩:ByteArray)):=(ah gU.out 0).trans rfl;have Ci:w4.cell? ⟨kM,1,none⟩=some (.string (⟨#[]⟩:ByteArray)):=(ah gU.out 1).trans rfl;have Fm:w4.cell? ⟨kM,2,none⟩=some (.bool false):=(ah gU.out 2).trans rfl;have Cj:=af gU.out 0;have Ck:=af gU.out 1;have Fp:=af gU.out 2))
  refine bodyPost_ret (eY rfl _ _ kM 30 #[.string (⟨#[]⟩:ByteArray),.string (⟨#[]⟩:ByteArray),.bool false] (0,0) _ rfl IJ Tryz.underlying30 rfl aq) rfl ?_
  exact ⟨cH,l8⟩
 ·rw [if_neg c3] at H
  have mg:=decide_eq_false c3
  clear c3
  obtain ⟨c6,H⟩:=iA H
  have nL:=eq_true c6
  have wK:=decide_eq_true c6
  clear c6
  obtain ⟨c7,H⟩:=iA H
  have TA:=eq_true c7
  have agO:=decide_eq_true c7
  clear c7
  obtain ⟨⟨KH,ap0⟩,A8,H⟩:=bd_ H
  (try dsimp only at H)
  obtain ⟨ji9,Lm⟩:∃ j_:Int,(wrap64 (lQ + 1))=j_ :=⟨_,rfl⟩
  (first|rw [Lm] at H|simp only [Lm] at H)
  (try rw [Lm] at A2)
  (try rw [Lm] at A8)
  have as1:(IntKind.i64.wrap (lQ + 1))=ji9:=(cU _).trans Lm
  obtain ⟨tD,ap1⟩:∃ z_:ByteArray,(a0.extract ((ji9):Int).toNat a0.size)=z_ :=⟨_,rfl⟩
  rw [ap1] at H
  obtain ⟨c10,H⟩:=iA H
  have pR:=eq_true c10
  have AK:=decide_eq_true c10
  clear c10
  obtain ⟨c11,H⟩:=iA H
  have oC:=eq_true c11
  have wM:=decide_eq_true c11
  clear c11
  by_cases c12:ap0=true
  ·subst c12
   rw [if_pos rfl] at H
   have ad8:=aa.mk H
   clear H
   go_enter Tryz.func78,Tryz.ntmps78
   go_upto_region 8 with (first|((with_reducible refine cB (N:=2) rfl ?_);(try (refine cL (by rfl) ?_;dsimp only));refine cj ?hg (N:=2) ?hd (cs:=#[.string (⟨#[]⟩:ByteArray),.string (⟨#[]⟩:ByteArray),.bool false]) (t:=30) ?hr ?_;(case hd=>rfl);(case hg=>rfl);(case hr=>first|(go_simp;done)|(go_simp;rfl));intro kM hg w14 cE hb;have gU:=aa.mk (cE);have acr:=aa.mk ((dI:w.heap.size≤kM));have PO:=aa.mk ((dI:w.heap.size≤kM));replace HB:=aa.mk (aA bG hb);clear hb cE hg)|((with_reducible refine aK (f:=46) rfl ?_);refine bU (some 10) rfl rfl Tryz.func46 aq rfl #[.string a0,.string (⟨#[64]⟩:ByteArray)] rfl cz ?_;(with_reducible refine (iB.calls a0 (⟨#[64]⟩:ByteArray) lQ _ A2.out).mono ?_);rintro e w' ⟨rfl,⟨nd,rfl⟩⟩;refine ⟨_,rfl,?_⟩)|((with_reducible refine aK (f:=128) rfl ?_);refine bU (some 18) rfl rfl Tryz.func128 aq rfl #[.string (a0.extract 0 (lQ:Int).toNat)] rfl cz ?_;(with_reducible refine (bD.calls k (a0.extract 0 (lQ:Int).toNat) KH true _ A8.out).mono ?_);rintro e QX ⟨rfl,hb⟩;refine ⟨_,rfl,?_⟩;replace gU:=aa.mk (aC sB hb);replace HB:=aa.mk (aA l8 hb);(try clear hb)))
   (try simp only [Act.put,List.setIfInBounds_toArray,List.set_cons_zero,List.set_cons_succ])
   go_cut [43] (fun v43 wc=>∃ (kq:Nat) (KJ:Bool),v43= .bool KJ∧aa (bI.j0 kq KH tD KJ=some (r1,r2,r3,r4))∧aa (kq≤k)∧aa (wc.heap[kM]? =some (.cells #[.string (⟨#[]⟩:ByteArray),.string (⟨#[]⟩:ByteArray),.bool false] 30 (0,0)))∧aa (Below w.heap.size w wc))
   case first=>
    have H:=ad8.out
    clear ad8
    by_cases c16:(tD.size:Int)≥2
    ·rw [if_pos c16] at H
     have qT:decide (2≤(tD.size:Int))=true:=decide_eq_true c16
     have CV:decide (2≤tD.size)=true:=decide_eq_true ak
     clear c16
     (first|rw [qT]|(simp only [cU,dh];rw [qT])|skip)
     obtain ⟨c17,H⟩:=iA H
     have wO:=decide_eq_true c17
     have ab6:decide (0 < tD.size)=true:=decide_eq_true ak
     clear c17
     by_cases c19:(bt tD 0)=91
     ·rw [if_pos c19] at H
      have zj:=beq_iff_eq.mpr c19
      have Sc:=bne_eq_false_iff_eq.mpr c19
      clear c19
      obtain ⟨WW,SD⟩:∃ j_:Int,(wrap64 ((tD.size:Int) - 1))=j_ :=⟨_,rfl⟩
      (first|rw [SD] at H|simp only [SD] at H)
      have ap2:(IntKind.i64.wrap ((tD.size:Int) - 1))=WW:=(cU _).trans SD
      obtain ⟨c21,H⟩:=iA H
      have wW:=decide_eq_true c21
      clear c21
      obtain ⟨GU,H⟩:=iA H
      have V7:=decide_eq_true GU
      clear GU
      have H':=aa.mk H
      clear H
      have UM: 0≤(0:Int):=ak
      have SE: 0 < tD.size:=(by have:(0:Int) < (tD.size:Int):=of_decide_eq_true bp;omega)
      have aat:∀ h: 0 < tD.size,((tD[0]'h).toNat:Int)=bt tD 0:=dA tD 0
      clear UM
      have ap3:(0 < (tD.size:Int))=True:=eq_true (of_decide_eq_true bp)
      replace SE:=eq_true SE
      have p23: 0≤((WW):Int):=of_decide_eq_true bp
      have q23:(WW) < (tD.size:Int):=of_decide_eq_true bp
      have av7:=dA tD (WW)
      replace p23:=eq_true p23
      replace q23:=eq_true q23
      go_wp2
      go_meet
      case rel=>exact ⟨_,(((bt tD (WW)) == 93)),(by first|rfl|(simp;done)|(simp only [← Lm,← SD]<;>(first|rfl|simp))|(simp [*];done)),H',⟨iT⟩,⟨sB⟩,⟨l8⟩⟩
     ·rw [if_neg c19] at H
      have zj:=beq_eq_false_iff_ne.mpr c19
      have Sc:=bne_iff_ne.mpr c19
      have H':=aa.mk H
      clear H
      have UM: 0≤(0:Int):=ak
      have SE: 0 < tD.size:=(by have:(0:Int) < (tD.size:Int):=of_decide_eq_true bp;omega)
      have aat:∀ h: 0 < tD.size,((tD[0]'h).toNat:Int)=bt tD 0:=dA tD 0
      clear UM
      have ap3:(0 < (tD.size:Int))=True:=eq_true (of_decide_eq_true bp)
      replace SE:=eq_true SE
      go_wp2
      go_meet
      case rel=>exact ⟨_,(false),b9,H',⟨iT⟩,⟨sB⟩,⟨l8⟩⟩
    ·rw [if_neg c16] at H
     have qT:decide (2≤(tD.size:Int))=false:=decide_eq_false c16
     have CV:decide (2≤tD.size)=false:=decide_eq_false ak
     clear c16
     (first|rw [qT]|(simp only [cU,dh];rw [qT])|skip)
     have H':=aa.mk H
     clear H
     go_wp2
     go_meet
     case rel=>exact ⟨_,(false),b9,H',⟨iT⟩,⟨sB⟩,⟨l8⟩⟩
   case rest=>
    clear ad8
    obtain ⟨kq,KJ,rfl,HA,av8,gU,HB⟩:=hcut
    cases kq with
    |zero=>exact absurd HA.out (by simp [bI.j0])
    |succ TS=>
     have H:=HA.out
     clear HA
     simp only [bI.j0] at H
     by_cases c24:KJ=true
     ·subst c24
      rw [if_pos rfl] at H
      obtain ⟨Hx,H⟩:=iA H
      have Su:=eq_true Hx
      have ag1:=decide_eq_true Hx
      clear Hx
      obtain ⟨LZ,H⟩:=iA H
      have Q5:=eq_true LZ
      have ag2:=decide_eq_true LZ
      clear LZ
      obtain ⟨ad6,A27,H⟩:=bd_ H
      by_cases c28:ad6=true
      ·subst c28
       rw [if_pos rfl] at H
       obtain ⟨WU,A29,H⟩:=bd_ H
       simp only [Option.some.injEq,Prod.mk.injEq] at H
       obtain ⟨rfl,rfl,rfl,rfl⟩:=H
       go_wp2_with (first|((with_reducible refine aK (f:=28) rfl ?_);refine bU (some 50) rfl rfl Tryz.func28 aq rfl #[.string (tD.extract 1 ((wrap64 ((tD.size:Int) - 1)):Int).toNat)] rfl BW ?_;(with_reducible refine (aU.calls TS (tD.extract 1 ((wrap64 ((tD.size:Int) - 1)):Int).toNat) true _ ?aT A27.out).mono ?_);(case aT=>exact aJ.below HG.out l8);rintro e pX ⟨rfl,hb⟩;refine ⟨_,rfl,?_⟩;replace gU:=aa.mk (aC sB hb);replace HB:=aa.mk (aA l8 hb);(try clear hb))|((with_reducible refine aK (f:=73) rfl ?_);refine bU (some 55) rfl rfl Tryz.func73 aq rfl #[.string (tD.extract 1 ((wrap64 ((tD.size:Int) - 1)):Int).toNat)] rfl BW ?_;(with_reducible refine (aY.calls TS (tD.extract 1 ((wrap64 ((tD.size:Int) - 1)):Int).toNat) WU _ A29.out).mono ?_);rintro e TF ⟨rfl,hb⟩;refine ⟨_,rfl,?_⟩;replace gU:=aa.mk (aC sB hb);replace HB:=aa.mk (aA l8 hb);(try clear hb);have Z7:TF.cell? ⟨kM,0,none⟩=some (.string (⟨#[]⟩:ByteArray)):=(ah gU.out 0).trans rfl;have Z8:TF.cell? ⟨kM,1,none⟩=some (.string (⟨#[]⟩:ByteArray)):=(ah gU.out 1).trans rfl;have Z9:TF.cell? ⟨kM,2,none⟩=some (.bool false):=(ah gU.out 2).trans rfl;have aaa:=af gU.out 0;have aab:=af gU.out 1;have aac:=af gU.out 2))
       refine bodyPost_ret (eY rfl _ _ kM 30 #[.string KH,.string WU,.bool true] (0,0) _ rfl (by (with_reducible repeat (first|refine ay ?_ _|refine az ?_|refine av ?_ _));refine bR (cs:=#[.string KH,.string WU,.bool false]) ?_ 2 _ rfl;(with_reducible repeat (first|refine ay ?_ _|refine az ?_|refine av ?_ _));refine bR (cs:=#[.string KH,.string (⟨#[]⟩:ByteArray),.bool false]) ?_ 1 _ rfl;(with_reducible repeat (first|refine ay ?_ _|refine az ?_|refine av ?_ _));refine bR (cs:=#[.string (⟨#[]⟩:ByteArray),.string (⟨#[]⟩:ByteArray),.bool false]) ?_ 0 _ rfl;(with_reducible repeat (first|refine ay ?_ _|refine az ?_|refine av ?_ _));exact gU.out) Tryz.underlying30 rfl aq) rfl ?_
       exact ⟨Ag,l8⟩
      ·replace c28:=Bool.eq_false_iff.mpr c28
       subst c28
       rw [if_neg (show ¬ (false=true) by decide)] at H
       simp only [Option.some.injEq,Prod.mk.injEq] at H
       obtain ⟨rfl,rfl,rfl,rfl⟩:=H
       go_wp2_with (first|((with_reducible refine aK (f:=28) rfl ?_);refine bU (some 50) rfl rfl Tryz.func28 aq rfl #[.string (tD.extract 1 ((wrap64 ((tD.size:Int) - 1)):Int).toNat)] rfl BW ?_;(with_reducible refine (aU.calls TS (tD.extract 1 ((wrap64 ((tD.size:Int) - 1)):Int).toNat) false _ ?aT A27.out).mono ?_);(case aT=>exact aJ.below HG.out l8);rintro e TC ⟨rfl,hb⟩;refine ⟨_,rfl,?_⟩;replace gU:=aa.mk (aC sB hb);replace HB:=aa.mk (aA l8 hb);(try clear hb);have Sh:TC.cell? ⟨kM,0,none⟩=some (.string (⟨#[]⟩:ByteArray)):=(ah gU.out 0).trans rfl;have Si:TC.cell? ⟨kM,1,none⟩=some (.string (⟨#[]⟩:ByteArray)):=(ah gU.out 1).trans rfl;have Sj:TC.cell? ⟨kM,2,none⟩=some (.bool false):=(ah gU.out 2).trans rfl;have Sk:=af gU.out 0;have Sl:=af gU.out 1;have Sm:=af gU.out 2))
       refine bodyPost_ret (eY rfl _ _ kM 30 #[.string (⟨#[]⟩:ByteArray),.string (⟨#[]⟩:ByteArray),.bool false] (0,0) _ rfl IJ Tryz.underlying30 rfl aq) rfl ?_
       exact ⟨Ag,l8⟩
     ·replace c24:=Bool.eq_false_iff.mpr c24
      subst c24
      rw [if_neg (show ¬ (false=true) by decide)] at H
      obtain ⟨ad7,A35,H⟩:=bd_ H
      by_cases zC:ad7=true
      ·subst zC
       rw [if_pos rfl] at H
       obtain ⟨WV,A37,H⟩:=bd_ H
       simp only [Option.some.injEq,Prod.mk.injEq] at H
       obtain ⟨rfl,rfl,rfl,rfl⟩:=H
       go_wp2_with (first|((with_reducible refine aK (f:=76) rfl ?_);refine bU (some 58) rfl rfl Tryz.func76 aq rfl #[.string tD] rfl BW ?_;(with_reducible refine (aQ.calls TS tD true _ ?aT A35.out).mono ?_);(case aT=>exact aJ.below HG.out l8);rintro e w38 ⟨rfl,hb⟩;refine ⟨_,rfl,?_⟩;replace gU:=aa.mk (aC sB hb);replace HB:=aa.mk (aA l8 hb);(try clear hb))|((with_reducible refine aK (f:=73) rfl ?_);refine bU (some 63) rfl rfl Tryz.func73 aq rfl #[.string tD] rfl BW ?_;(with_reducible refine (aY.calls TS tD WV _ A37.out).mono ?_);rintro e w39 ⟨rfl,hb⟩;refine ⟨_,rfl,?_⟩;replace gU:=aa.mk (aC sB hb);replace HB:=aa.mk (aA l8 hb);(try clear hb);have Zi:w39.cell? ⟨kM,0,none⟩=some (.string (⟨#[]⟩:ByteArray)):=(ah gU.out 0).trans rfl;have Zj:w39.cell? ⟨kM,1,none⟩=some (.string (⟨#[]⟩:ByteArray)):=(ah gU.out 1).trans rfl;have Zk:w39.cell? ⟨kM,2,none⟩=some (.bool false):=(ah gU.out 2).trans rfl;have Zl:=af gU.out 0;have Zm:=af gU.out 1;have Zn:=af gU.out 2))
       refine bodyPost_ret (eY rfl _ _ kM 30 #[.string KH,.string WV,.bool false] (0,0) _ rfl (by (with_reducible repeat (first|refine ay ?_ _|refine az ?_|refine av ?_ _));refine bR (cs:=#[.string KH,.string WV,.bool false]) ?_ 2 _ rfl;(with_reducible repeat (first|refine ay ?_ _|refine az ?_|refine av ?_ _));refine bR (cs:=#[.string KH,.string (⟨#[]⟩:ByteArray),.bool false]) ?_ 1 _ rfl;(with_reducible repeat (first|refine ay ?_ _|refine az ?_|refine av ?_ _));refine bR (cs:=#[.string (⟨#[]⟩:ByteArray),.string (⟨#[]⟩:ByteArray),.bool false]) ?_ 0 _ rfl;(with_reducible repeat (first|refine ay ?_ _|refine az ?_|refine av ?_ _));exact gU.out) Tryz.underlying30 rfl aq) rfl ?_
       exact ⟨Ag,l8⟩
      ·replace zC:=Bool.eq_false_iff.mpr zC
       subst zC
       rw [if_neg (show ¬ (false=true) by decide)] at H
       simp only [Option.some.injEq,Prod.mk.injEq] at H
       obtain ⟨rfl,rfl,rfl,rfl⟩:=H
       go_wp2_with (first|((with_reducible refine aK (f:=76) rfl ?_);refine bU (some 58) rfl rfl Tryz.func76 aq rfl #[.string tD] rfl BW ?_;(with_reducible refine (aQ.calls TS tD false _ ?aT A35.out).mono ?_);(case aT=>exact aJ.below HG.out l8);rintro e Zo ⟨rfl,hb⟩;refine ⟨_,rfl,?_⟩;replace gU:=aa.mk (aC sB hb);replace HB:=aa.mk (aA l8 hb);(try clear hb);have Zp:Zo.cell? ⟨kM,0,none⟩=some (.string (⟨#[]⟩:ByteArray)):=(ah gU.out 0).trans rfl;have Zq:Zo.cell? ⟨kM,1,none⟩=some (.string (⟨#[]⟩:ByteArray)):=(ah gU.out 1).trans rfl;have Zr:Zo.cell? ⟨kM,2,none⟩=some (.bool false):=(ah gU.out 2).trans rfl;have Zt:=af gU.out 0;have Zu:=af gU.out 1;have Zv:=af gU.out 2))
       refine bodyPost_ret (eY rfl _ _ kM 30 #[.string (⟨#[]⟩:ByteArray),.string (⟨#[]⟩:ByteArray),.bool false] (0,0) _ rfl IJ Tryz.underlying30 rfl aq) rfl ?_
       exact ⟨Ag,l8⟩
  ·replace c12:=Bool.eq_false_iff.mpr c12
   subst c12
   rw [if_neg (show ¬ (false=true) by decide)] at H
   simp only [Option.some.injEq,Prod.mk.injEq] at H
   obtain ⟨rfl,rfl,rfl,rfl⟩:=H
   go_enter Tryz.func78,Tryz.ntmps78
   go_wp2_with (first|((with_reducible refine cB (N:=2) rfl ?_);(try (refine cL (by rfl) ?_;dsimp only));refine cj ?hg (N:=2) ?hd (cs:=#[.string (⟨#[]⟩:ByteArray),.string (⟨#[]⟩:ByteArray),.bool false]) (t:=30) ?hr ?_;(case hd=>rfl);(case hg=>rfl);(case hr=>first|(go_simp;done)|(go_simp;rfl));intro kM hg V5 cE hb;have gU:=aa.mk (cE);have acr:=aa.mk ((dI:w.heap.size≤kM));have PO:=aa.mk ((dI:w.heap.size≤kM));replace HB:=aa.mk (aA bG hb);clear hb cE hg)|((with_reducible refine aK (f:=46) rfl ?_);refine bU (some 10) rfl rfl Tryz.func46 aq rfl #[.string a0,.string (⟨#[64]⟩:ByteArray)] rfl cz ?_;(with_reducible refine (iB.calls a0 (⟨#[64]⟩:ByteArray) lQ _ A2.out).mono ?_);rintro e w' ⟨rfl,⟨nd,rfl⟩⟩;refine ⟨_,rfl,?_⟩;(try (rw [sN V5];generalize Nq:World.drewN V5 _=V5;have lJ:aa (V5.heap[kM]? =some (.cells #[.string (⟨#[]⟩:ByteArray),.string (⟨#[]⟩:ByteArray),.bool false] 30 (0,0))):=⟨QB⟩;have lK:aa (Below w.heap.size w V5):=⟨Qq⟩;clear gU HB Nq;have gU:=lJ;have HB:=lK;clear lJ lK)))|((with_reducible refine aK (f:=128) rfl ?_);refine bU (some 18) rfl rfl Tryz.func128 aq rfl #[.string (a0.extract 0 (lQ:Int).toNat)] rfl cz ?_;(with_reducible refine (bD.calls k (a0.extract 0 (lQ:Int).toNat) KH false _ A8.out).mono ?_);rintro e w44 ⟨rfl,hb⟩;refine ⟨_,rfl,?_⟩;replace gU:=aa.mk (aC sB hb);replace HB:=aa.mk (aA l8 hb);(try clear hb);have Rx:w44.cell? ⟨kM,0,none⟩=some (.string (⟨#[]⟩:ByteArray)):=(ah gU.out 0).trans rfl;have Ry:w44.cell? ⟨kM,1,none⟩=some (.string (⟨#[]⟩:ByteArray)):=(ah gU.out 1).trans rfl;have Rz:w44.cell? ⟨kM,2,none⟩=some (.bool false):=(ah gU.out 2).trans rfl;have RA:=af gU.out 0;have RB:=af gU.out 1;have RD:=af gU.out 2))
   refine bodyPost_ret (eY rfl _ _ kM 30 #[.string (⟨#[]⟩:ByteArray),.string (⟨#[]⟩:ByteArray),.bool false] (0,0) _ rfl IJ Tryz.underlying30 rfl aq) rfl ?_
   exact ⟨Ag,l8⟩
def cF.f (k:Nat) (bS:ByteArray) (dZ:ByteArray) (cg:Bool):Option (Bool):=if (bS.size:Int)≤64 then (if cg=true then (some true) else ((bE.f k dZ).bind fun WX=>(some WX))) else (some false)
theorem cF.mono:∀ a0 a1 a2 k,bL (cF.f k a0 a1 a2) (cF.f (k + 1) a0 a1 a2):=by
 intro a0 a1 a2 k
 unfold cF.f
 repeat' first
  |(with_reducible first|exact bE.mono _ _|exact bL.refl _|exact bL.none _|refine bL.ite ?_ ?_|refine bL.bind ?_ (fun _ =>?_))
  |exact bE.mono _ _
  |exact bL.none _
  |refine bL.ite ?_ ?_
  |refine bL.bind ?_ (fun _ =>?_)
theorem cF.calls (k:Nat) (bS:ByteArray) (dZ:ByteArray) (cg:Bool) (r:Bool) (w:World) (hG:aJ w) (h:cF.f k bS dZ cg=some r):
 Calls Tryz.prog 79 #[.agg #[.string bS,.string dZ,.bool cg]] w fun e w'=>e= .returned (.bool r)∧Below w.heap.size w w':=by
 have wT:=Tryz.underlying30
 have HB:=aa.mk (Below.refl w.heap.size w)
 have HG:=aa.mk hG
 clear hG
 have H:(if (bS.size:Int)≤64 then (if cg=true then (some true) else ((bE.f k dZ).bind fun WX=>(some WX))) else (some false))=some r:=h
 clear h
 by_cases c2:(bS.size:Int)≤64
 ·rw [if_pos c2] at H
  have sP:=decide_eq_true c2
  have JM:decide (bS.size≤64)=true:=decide_eq_true ak
  clear c2
  by_cases c3:cg=true
  ·subst c3
   rw [if_pos rfl] at H
   obtain rfl:=Option.some.inj H
   go_enter Tryz.func79,Tryz.ntmps79
   go_wp2_with (first|((with_reducible refine cB (N:=1) rfl ?_);refine cj ?hg (N:=1) ?hd (cs:=#[.string bS,.string dZ,.bool true]) (t:=30) ?hr ?_;(case hd=>rfl);(case hg=>rfl);(case hr=>first|(go_simp;done)|(go_simp;rfl));intro ry hg w4 cE hb;have n7:=aa.mk (cE);have acu:=aa.mk ((dI:w.heap.size≤ry));have U4:=aa.mk ((dI:w.heap.size≤ry));replace HB:=aa.mk (aA bG hb);clear hb cE hg;have Ch:w4.cell? ⟨ry,0,none⟩=some (.string bS):=(ah n7.out 0).trans rfl;have Ci:w4.cell? ⟨ry,1,none⟩=some (.string dZ):=(ah n7.out 1).trans rfl;have Fm:w4.cell? ⟨ry,2,none⟩=some (.bool true):=(ah n7.out 2).trans rfl;have Cj:=af n7.out 0;have Ck:=af n7.out 1;have Fp:=af n7.out 2))
   go_ret
   exact ⟨cH,Ai⟩
  ·replace c3:=Bool.eq_false_iff.mpr c3
   subst c3
   rw [if_neg (show ¬ (false=true) by decide)] at H
   obtain ⟨WX,A6,H⟩:=bd_ H
   obtain rfl:=Option.some.inj H
   go_enter Tryz.func79,Tryz.ntmps79
   go_wp2_with (first|((with_reducible refine cB (N:=1) rfl ?_);refine cj ?hg (N:=1) ?hd (cs:=#[.string bS,.string dZ,.bool false]) (t:=30) ?hr ?_;(case hd=>rfl);(case hg=>rfl);(case hr=>first|(go_simp;done)|(go_simp;rfl));intro ry hg w7 cE hb;have n7:=aa.mk (cE);have acu:=aa.mk ((dI:w.heap.size≤ry));have U4:=aa.mk ((dI:w.heap.size≤ry));replace HB:=aa.mk (aA bG hb);clear hb cE hg;have zy:w7.cell? ⟨ry,0,none⟩=some (.string bS):=(ah n7.out 0).trans rfl;have zz:w7.cell? ⟨ry,1,none⟩=some (.string dZ):=(ah n7.out 1).trans rfl;have Fq:w7.cell? ⟨ry,2,none⟩=some (.bool false):=(ah n7.out 2).trans rfl;have zA:=af n7.out 0;have zB:=af n7.out 1;have Fu:=af n7.out 2)|(go_at_call 77;(with_reducible refine (bE.calls k dZ WX _ ?aT A6.out).mono ?_);(case aT=>exact aJ.below HG.out Ai);rintro e w9 ⟨rfl,hb⟩;replace n7:=aa.mk (aC (by (with_reducible repeat (first|refine ay ?_ _|refine az ?_|refine av ?_ _));exact n7.out) hb);replace HB:=aa.mk (aA Ai hb);(try clear hb)))
   go_ret
   exact ⟨cH,Ai⟩
 ·rw [if_neg c2] at H
  have sP:=decide_eq_false c2
  have JM:decide (bS.size≤64)=false:=decide_eq_false ak
  clear c2
  obtain rfl:=Option.some.inj H
  go_enter Tryz.func79,Tryz.ntmps79
  go_wp2_with (first|((with_reducible refine cB (N:=1) rfl ?_);refine cj ?hg (N:=1) ?hd (cs:=#[.string bS,.string dZ,.bool cg]) (t:=30) ?hr ?_;(case hd=>rfl);(case hg=>rfl);(case hr=>first|(go_simp;done)|(go_simp;rfl));intro ry hg um cE hb;have n7:=aa.mk (cE);have acu:=aa.mk ((dI:w.heap.size≤ry));have U4:=aa.mk ((dI:w.heap.size≤ry));replace HB:=aa.mk (aA bG hb);clear hb cE hg;have AZ:um.cell? ⟨ry,0,none⟩=some (.string bS):=(ah n7.out 0).trans rfl;have Ba:um.cell? ⟨ry,1,none⟩=some (.string dZ):=(ah n7.out 1).trans rfl;have Bb:um.cell? ⟨ry,2,none⟩=some (.bool cg):=(ah n7.out 2).trans rfl;have Bc:=af n7.out 0;have Bd:=af n7.out 1;have Be:=af n7.out 2))
  go_ret
  exact ⟨cH,Ai⟩
end Go.Proofs.YtokpnfljjjjikaaGreatDoor.mY
