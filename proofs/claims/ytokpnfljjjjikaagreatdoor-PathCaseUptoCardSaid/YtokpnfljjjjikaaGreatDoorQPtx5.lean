import Derived.Test.YtokpnfljjjjikaaGreatDoorQPtx4
set_option maxHeartbeats 8000000
set_option maxRecDepth 100000
namespace Go.Proofs.YtokpnfljjjjikaaGreatDoor.lO
open Go.RowKit Go.Proofs.YtokpnfljjjjikaaGreatDoor.sL Go.Proofs.aj.bw Go.Proofs.aj.eU Go.Proofs.aj.cj
attribute [local go_sem] gL gM iL iM fZ gf gP gQ
set_option linter.unusedVariables false
set_option linter.unusedSimpArgs false
def bF.l0:Nat→List Int→ByteArray→Int→Option (ByteArray×Bool×ByteArray×Int)
 | 0,_,_,_ =>none
 |k + 1,x6,eO,dM=>if dM < (eO.size:Int) then (if 0≤dM then (if (bt eO dM)=34 then (some (strOfNums x6,true,eO,wrap64 (dM + 1))) else (if (bt eO dM)=92 then ((ck.f eO (wrap64 (dM + 1))).bind fun rN=>(if rN.1 < 32 then (some ((⟨#[]⟩:ByteArray),false,rN.2.1,wrap64 (rN.2.2 + 1))) else (if rN.1 > 126 then (some ((⟨#[]⟩:ByteArray),false,rN.2.1,wrap64 (rN.2.2 + 1))) else (if x6.length < 140737488355328 then (bF.l0 k (x6 ++ [rN.1]) rN.2.1 (wrap64 (rN.2.2 + 1))) else (none))))) else (if (bt eO dM) < 32 then (some ((⟨#[]⟩:ByteArray),false,eO,wrap64 (dM + 1))) else (if (bt eO dM) > 126 then (some ((⟨#[]⟩:ByteArray),false,eO,wrap64 (dM + 1))) else (if x6.length < 140737488355328 then (bF.l0 k (x6 ++ [bt eO dM]) eO (wrap64 (dM + 1))) else (none)))))) else (none)) else (some ((⟨#[]⟩:ByteArray),false,eO,dM))
def bF.f (k:Nat) (dm:ByteArray) (cP:Int):Option (ByteArray×Bool×ByteArray×Int):=(bu.f dm cP 34).bind fun lH=>(if lH.1=true then (bF.l0 k ([]:List Int) lH.2.1 lH.2.2) else ((aC.f k lH.2.1 lH.2.2 46).bind fun lI=>(if 0≤lH.2.2 then (if lH.2.2≤lI.2.2 then (if lI.2.2≤(lI.2.1.size:Int) then (some (lI.2.1.extract (lH.2.2:Int).toNat (lI.2.2:Int).toNat,lI.1,lI.2.1,lI.2.2)) else (none)) else (none)) else (none))))
theorem bF.eD:∀ k,(∀ y0 y1 y2,bZ (bF.l0 k y0 y1 y2) (bF.l0 (k + 1) y0 y1 y2))
 | 0=>fun _ _ _ r h=>by simp [bF.l0] at h
 |k + 1=>by
  have iJ:=bF.eD k
  ·intro y0 y1 y2
   unfold bF.l0
   repeat' first
   |(with_reducible first|exact iJ _ _ _|exact aC.mono _ _ _ _|exact bZ.refl _|exact bZ.none _|refine bZ.ite ?_ ?_|refine bZ.bind ?_ (fun _ =>?_))
   |exact iJ _ _ _
   |exact aC.mono _ _ _ _
   |exact bZ.none _
   |refine bZ.ite ?_ ?_
   |refine bZ.bind ?_ (fun _ =>?_)
theorem bF.mono:∀ a0 a1 k,bZ (bF.f k a0 a1) (bF.f (k + 1) a0 a1):=by
 intro a0 a1 k
 have iJ:=bF.eD k
 unfold bF.f
 repeat' first
  |(with_reducible first|exact iJ _ _ _|exact aC.mono _ _ _ _|exact bZ.refl _|exact bZ.none _|refine bZ.ite ?_ ?_|refine bZ.bind ?_ (fun _ =>?_))
  |exact iJ _ _ _
  |exact aC.mono _ _ _ _
  |exact bZ.none _
  |refine bZ.ite ?_ ?_
  |refine bZ.bind ?_ (fun _ =>?_)
theorem bF.calls (k:Nat) (g:Nat) (dm:ByteArray) (cP:Int) (r1:ByteArray) (r2:Bool) (r3:ByteArray) (r4:Int) (w0 w:World) (hI:aq w0 w g dm cP) (hB:Below w0.heap.size w0 w) (h:bF.f k dm cP=some (r1,r2,r3,r4)):
 Calls Tryz.prog 123 #[.pointer (some ⟨g,0,none⟩)] w fun e w'=>e= .returned (.tuple #[.string r1,.bool r2])∧aq w0 w' g r3 r4∧Below w0.heap.size w0 w'∧bh w w' g none:=by
 have cV:=af.mk hI
 have HK:=af.mk (bh.refl w g none)
 have HL:=af.mk hB.size
 clear hI
 have Hp:=af.mk hB.size
 have HB:=af.mk hB
 clear hB
 have H:((bu.f dm cP 34).bind fun lH=>(if lH.1=true then (bF.l0 k ([]:List Int) lH.2.1 lH.2.2) else ((aC.f k lH.2.1 lH.2.2 46).bind fun lI=>(if 0≤lH.2.2 then (if lH.2.2≤lI.2.2 then (if lI.2.2≤(lI.2.1.size:Int) then (some (lI.2.1.extract (lH.2.2:Int).toNat (lI.2.2:Int).toNat,lI.1,lI.2.1,lI.2.2)) else (none)) else (none)) else (none)))))=some (r1,r2,r3,r4):=h
 clear h
 obtain ⟨⟨t147,t148,t149⟩,A2,H⟩:=bd_ H
 (try dsimp only at H)
 by_cases c3:t147=true
 ·subst c3
  rw [if_pos rfl] at H
  have H':=af.mk H
  clear H
  go_enter Tryz.func123,Tryz.ntmps123
  go_wp2_with (first|(go_at_call 56;(with_reducible refine (bu.calls g dm cP 34 true t148 t149 w0 _ ?aX ?bL A2.out).mono ?_);(case aX=>repeat (first|(with_reducible first|exact cV.out|apply aq.alloc|apply aq.drewN|apply aq.drew|apply aq.dR|apply aq.dQ)|exact cV.out));(case bL=>repeat (first|(with_reducible first|exact HB.out|apply aJ|apply aK|apply aW|refine bn ?_ (aq.ge cV.out))|exact HB.out));rintro e w4 ⟨rfl,hi,hb,hk⟩;replace HK:=af.mk (bh.trans cZ hk (.inl rfl));replace HB:=af.mk (hb);replace cV:=af.mk (hi);(try clear hb);(try clear hk);(try clear hi)))
  repeat (go_quiet (fail);try go_wp2_with (first|(go_at_call 56;(with_reducible refine (bu.calls g dm cP 34 true t148 t149 w0 _ ?aX ?bL A2.out).mono ?_);(case aX=>repeat (first|(with_reducible first|exact cV.out|apply aq.alloc|apply aq.drewN|apply aq.drew|apply aq.dR|apply aq.dQ)|exact cV.out));(case bL=>repeat (first|(with_reducible first|exact HB.out|apply aJ|apply aK|apply aW|refine bn ?_ (aq.ge cV.out))|exact HB.out));rintro e w4 ⟨rfl,hi,hb,hk⟩;replace HK:=af.mk (bh.trans cZ hk (.inl rfl));replace HB:=af.mk (hb);replace cV:=af.mk (hi);(try clear hb);(try clear hk);(try clear hi))))
  go_loopg [6] k (fun kq v6 w'=>∃ (xj:List Int) (bE:ByteArray) (bz:Int),af (bF.l0 kq xj bE bz=some (r1,r2,r3,r4))∧af (kq≤k)∧af (Kd.R (Kd.int .u8) 5 w' w.heap.size (fun _ =>True) v6 xj)∧af (aq w0 w' g bE bz)∧af (bh w w' g none)∧af (Below w0.heap.size w0 w'))
  case atStart=>exact ⟨(([]:List Int)),(t148),(t149),H',⟨Nat.le_refl _⟩,⟨sF⟩,⟨fk⟩,⟨cZ⟩,⟨eZ⟩⟩
  case round=>
   clear H'
   obtain ⟨xj,bE,bz,HA,sI,ju,cV,HK,HB⟩:=hrel
   cases gk with
   |zero=>exact absurd HA.out (by simp [bF.l0])
   |succ k1=>
    have H:=HA.out
    clear HA
    simp only [bF.l0] at H
    by_cases c5:bz < (bE.size:Int)
    ·rw [if_pos c5] at H
     have pG:=decide_eq_true c5
     clear c5
     obtain ⟨c6,H⟩:=jA H
     have qo:=decide_eq_true c6
     clear c6
     by_cases c8:(bt bE bz)=34
     ·rw [if_pos c8] at H
      have qN:=beq_iff_eq.mpr c8
      have zz:=bne_eq_false_iff_eq.mpr c8
      clear c8
      simp only [Option.some.injEq,Prod.mk.injEq] at H
      obtain ⟨rfl,rfl,rfl,rfl⟩:=H
      obtain ⟨kD,zx⟩:=cV.out
      have nM:=cH kD
      have nN:=cG kD
      have nO:=aa kD 0
      have nP:=aa kD 1
      clear kD zx
      have p7: 0≤(bz:Int):=of_decide_eq_true cE
      have q7:bz < (bE.size:Int):=of_decide_eq_true cE
      have K7:=iW bE bz
      replace p7:=eq_true p7
      replace q7:=eq_true q7
      have abM:∀ n_:Nat,Sem.run Tryz.prog (convert 23 9 u6) ((wr.drewN n_).setCell ⟨g,1,none⟩ (.int .i64 (wrap64 (bz + 1))))= .ok (.string (strOfNums xj)) ((wr.drewN n_).setCell ⟨g,1,none⟩ (.int .i64 (wrap64 (bz + 1)))):=fun n_ =>CF (P:=Tryz.prog) Tryz.underlying23 Tryz.underlying5 Tryz.underlying9 (Kd.Iw qH)
      go_wp2
      repeat (go_quiet (fail);try go_wp2)
      go_ret2
      exact ⟨cM,fk,eZ,cZ⟩
     ·rw [if_neg c8] at H
      have qN:=beq_eq_false_iff_ne.mpr c8
      have zz:=bne_iff_ne.mpr c8
      by_cases c11:(bt bE bz)=92
      ·rw [if_pos c11] at H
       have xL:=beq_iff_eq.mpr c11
       have EA:=bne_eq_false_iff_eq.mpr c11
       clear c11
       obtain ⟨⟨t153,t154,t155⟩,Gy,H⟩:=bd_ H
       (try dsimp only at H)
       by_cases c13:t153 < 32
       ·rw [if_pos c13] at H
        have tE:=decide_eq_true c13
        clear c13
        simp only [Option.some.injEq,Prod.mk.injEq] at H
        obtain ⟨rfl,rfl,rfl,rfl⟩:=H
        obtain ⟨AU,Qh⟩:=cV.out
        have EF:=cH AU
        have EG:=cG AU
        have EH:=aa AU 0
        have EI:=aa AU 1
        clear AU Qh
        have p7: 0≤(bz:Int):=of_decide_eq_true cE
        have q7:bz < (bE.size:Int):=of_decide_eq_true cE
        have K7:=iW bE bz
        replace p7:=eq_true p7
        replace q7:=eq_true q7
        go_wp2_with (first|(go_at_call 115;(with_reducible refine (ck.calls g bE (wrap64 (bz + 1)) t153 t154 t155 w0 _ ?aX ?bL Gy.out).mono ?_);(case aX=>repeat (first|(with_reducible first|exact cV.out|apply aq.alloc|apply aq.drewN|apply aq.drew|apply aq.dR|apply aq.dQ)|exact cV.out));(case bL=>repeat (first|(with_reducible first|exact HB.out|apply aJ|apply aK|apply aW|refine bn ?_ (aq.ge cV.out))|exact HB.out));rintro e Kw ⟨rfl,hi,hb,hk⟩;replace ju:=af.mk (Kd.fA (Kd.o9 (aq.apart (show aq w0 _ g bE (wrap64 (bz + 1)) from by repeat (first|(with_reducible first|exact cV.out|apply aq.alloc|apply aq.drewN|apply aq.drew|apply aq.dR|apply aq.dQ)|exact cV.out)) qH bg) hk (fun _ h=>h.2)) (fun _ h=>h.1));replace HK:=af.mk (bh.trans cZ hk (.inl rfl));replace HB:=af.mk (hb);replace cV:=af.mk (hi);(try clear hb);(try clear hk);(try clear hi);obtain ⟨pI,I0⟩:=cV.out;have uC:=cH pI;have uD:=cG pI;have uE:=aa pI 0;have uF:=aa pI 1;clear pI I0))
        repeat (go_quiet (fail);try go_wp2_with (first|(go_at_call 115;(with_reducible refine (ck.calls g bE (wrap64 (bz + 1)) t153 t154 t155 w0 _ ?aX ?bL Gy.out).mono ?_);(case aX=>repeat (first|(with_reducible first|exact cV.out|apply aq.alloc|apply aq.drewN|apply aq.drew|apply aq.dR|apply aq.dQ)|exact cV.out));(case bL=>repeat (first|(with_reducible first|exact HB.out|apply aJ|apply aK|apply aW|refine bn ?_ (aq.ge cV.out))|exact HB.out));rintro e Kw ⟨rfl,hi,hb,hk⟩;replace ju:=af.mk (Kd.fA (Kd.o9 (aq.apart (show aq w0 _ g bE (wrap64 (bz + 1)) from by repeat (first|(with_reducible first|exact cV.out|apply aq.alloc|apply aq.drewN|apply aq.drew|apply aq.dR|apply aq.dQ)|exact cV.out)) qH bg) hk (fun _ h=>h.2)) (fun _ h=>h.1));replace HK:=af.mk (bh.trans cZ hk (.inl rfl));replace HB:=af.mk (hb);replace cV:=af.mk (hi);(try clear hb);(try clear hk);(try clear hi);obtain ⟨pI,I0⟩:=cV.out;have uC:=cH pI;have uD:=cG pI;have uE:=aa pI 0;have uF:=aa pI 1;clear pI I0)))
        go_ret2
        exact ⟨cM,fk,eZ,cZ⟩
       ·rw [if_neg c13] at H
        have tE:=decide_eq_false c13
        clear c13
        by_cases c17:t153 > 126
        ·rw [if_pos c17] at H
         have AV:decide (126 < t153)=true:=decide_eq_true c17
         clear c17
         simp only [Option.some.injEq,Prod.mk.injEq] at H
         obtain ⟨rfl,rfl,rfl,rfl⟩:=H
         obtain ⟨AW,Qi⟩:=cV.out
         have K8:=cH AW
         have K9:=cG AW
         have La:=aa AW 0
         have Lb:=aa AW 1
         clear AW Qi
         have p7: 0≤(bz:Int):=of_decide_eq_true cE
         have q7:bz < (bE.size:Int):=of_decide_eq_true cE
         have K7:=iW bE bz
         replace p7:=eq_true p7
         replace q7:=eq_true q7
         go_wp2_with (first|(go_at_call 115;(with_reducible refine (ck.calls g bE (wrap64 (bz + 1)) t153 t154 t155 w0 _ ?aX ?bL Gy.out).mono ?_);(case aX=>repeat (first|(with_reducible first|exact cV.out|apply aq.alloc|apply aq.drewN|apply aq.drew|apply aq.dR|apply aq.dQ)|exact cV.out));(case bL=>repeat (first|(with_reducible first|exact HB.out|apply aJ|apply aK|apply aW|refine bn ?_ (aq.ge cV.out))|exact HB.out));rintro e Qj ⟨rfl,hi,hb,hk⟩;replace ju:=af.mk (Kd.fA (Kd.o9 (aq.apart (show aq w0 _ g bE (wrap64 (bz + 1)) from by repeat (first|(with_reducible first|exact cV.out|apply aq.alloc|apply aq.drewN|apply aq.drew|apply aq.dR|apply aq.dQ)|exact cV.out)) qH bg) hk (fun _ h=>h.2)) (fun _ h=>h.1));replace HK:=af.mk (bh.trans cZ hk (.inl rfl));replace HB:=af.mk (hb);replace cV:=af.mk (hi);(try clear hb);(try clear hk);(try clear hi);obtain ⟨pJ,I1⟩:=cV.out;have EJ:=cH pJ;have EK:=cG pJ;have EL:=aa pJ 0;have EM:=aa pJ 1;clear pJ I1))
         repeat (go_quiet (fail);try go_wp2_with (first|(go_at_call 115;(with_reducible refine (ck.calls g bE (wrap64 (bz + 1)) t153 t154 t155 w0 _ ?aX ?bL Gy.out).mono ?_);(case aX=>repeat (first|(with_reducible first|exact cV.out|apply aq.alloc|apply aq.drewN|apply aq.drew|apply aq.dR|apply aq.dQ)|exact cV.out));(case bL=>repeat (first|(with_reducible first|exact HB.out|apply aJ|apply aK|apply aW|refine bn ?_ (aq.ge cV.out))|exact HB.out));rintro e Qj ⟨rfl,hi,hb,hk⟩;replace ju:=af.mk (Kd.fA (Kd.o9 (aq.apart (show aq w0 _ g bE (wrap64 (bz + 1)) from by repeat (first|(with_reducible first|exact cV.out|apply aq.alloc|apply aq.drewN|apply aq.drew|apply aq.dR|apply aq.dQ)|exact cV.out)) qH bg) hk (fun _ h=>h.2)) (fun _ h=>h.1));replace HK:=af.mk (bh.trans cZ hk (.inl rfl));replace HB:=af.mk (hb);replace cV:=af.mk (hi);(try clear hb);(try clear hk);(try clear hi);obtain ⟨pJ,I1⟩:=cV.out;have EJ:=cH pJ;have EK:=cG pJ;have EL:=aa pJ 0;have EM:=aa pJ 1;clear pJ I1)))
         go_ret2
         exact ⟨cM,fk,eZ,cZ⟩
        ·rw [if_neg c17] at H
         have AV:decide (126 < t153)=false:=decide_eq_false c17
         clear c17
         obtain ⟨c21,H⟩:=jA H
         have Nw:=af.mk c21
         clear c21
         obtain ⟨Qk,AX⟩:∃ y_:List Int,y_=(xj ++ [t153]):=⟨_,rfl⟩
         replace H:(bF.l0 k1 Qk t154 (wrap64 (t155 + 1)))=some (r1,r2,r3,r4):=by first|(rw [AX];with_reducible exact H)|(have C9:=(Option.bind_some _ _).symm.trans H;rw [AX];with_reducible exact C9)|(have C9:=(Option.bind_some _ _).symm.trans H;with_reducible exact C9)|with_reducible exact H|(rw [AX];exact H)|exact H
         have Ny:=af.mk AX
         clear AX
         have H':=af.mk H
         clear H
         obtain ⟨AY,Ql⟩:=cV.out
         have S8:=cH AY
         have S9:=cG AY
         have Ta:=aa AY 0
         have Tb:=aa AY 1
         clear AY Ql
         have p7: 0≤(bz:Int):=of_decide_eq_true cE
         have q7:bz < (bE.size:Int):=of_decide_eq_true cE
         have K7:=iW bE bz
         replace p7:=eq_true p7
         replace q7:=eq_true q7
         go_wp2_with (first|(go_at_call 115;(with_reducible refine (ck.calls g bE (wrap64 (bz + 1)) t153 t154 t155 w0 _ ?aX ?bL Gy.out).mono ?_);(case aX=>repeat (first|(with_reducible first|exact cV.out|apply aq.alloc|apply aq.drewN|apply aq.drew|apply aq.dR|apply aq.dQ)|exact cV.out));(case bL=>repeat (first|(with_reducible first|exact HB.out|apply aJ|apply aK|apply aW|refine bn ?_ (aq.ge cV.out))|exact HB.out));rintro e PA ⟨rfl,hi,hb,hk⟩;replace ju:=af.mk (Kd.fA (Kd.o9 (aq.apart (show aq w0 _ g bE (wrap64 (bz + 1)) from by repeat (first|(with_reducible first|exact cV.out|apply aq.alloc|apply aq.drewN|apply aq.drew|apply aq.dR|apply aq.dQ)|exact cV.out)) qH bg) hk (fun _ h=>h.2)) (fun _ h=>h.1));replace HK:=af.mk (bh.trans cZ hk (.inl rfl));replace HB:=af.mk (hb);replace cV:=af.mk (hi);(try clear hb);(try clear hk);(try clear hi);obtain ⟨pK,I2⟩:=cV.out;have Lc:=cH pK;have Ld:=cG pK;have Le:=aa pK 0;have Lf:=aa pK 1;clear pK I2)|((with_reducible refine kB (b:= .append) (xs:=#[.tmp 77,.tmp 79]) rfl ?_);at_builtin;refine Kd.pg (Kd.int .u8) w.heap.size rfl (.tmp 77) (.tmp 79) 23 5 (.int .u8 0) 1 rfl Tryz.underlying23 Ey rfl bg ak u6 xj t153 [.int .u8 t153] (fun _ =>True) (fun _ =>False) rfl ry ?aP (fun _ hk=>hk.elim) ?aF ?aO (Below.refl _ _) ?aS ?aL ?_;(case aP=>exact rfl);(case aF=>exact (fun _ _ =>trivial));(case aO=>exact Ig);(case aS=>exact (mB (w:=w) (g:=g) (row:=none) cZ));(case aL=>have:=Nw.out;omega);intro v157 w25 ho hb hg hat;rw [← Ny.out] at ho;replace HB:=af.mk (dn eZ HL.out hb);replace cV:=af.mk (aq.grown fk hg (aq.own_ne cV.out ju.out bg));replace HK:=af.mk (bh.trans cZ (bh.mU hg g) (Kd.rA ju.out));have Nz:=af.mk (ho);clear ju;clear ho hb hg hat))
         repeat (go_quiet (fail);try go_wp2_with (first|(go_at_call 115;(with_reducible refine (ck.calls g bE (wrap64 (bz + 1)) t153 t154 t155 w0 _ ?aX ?bL Gy.out).mono ?_);(case aX=>repeat (first|(with_reducible first|exact cV.out|apply aq.alloc|apply aq.drewN|apply aq.drew|apply aq.dR|apply aq.dQ)|exact cV.out));(case bL=>repeat (first|(with_reducible first|exact HB.out|apply aJ|apply aK|apply aW|refine bn ?_ (aq.ge cV.out))|exact HB.out));rintro e PA ⟨rfl,hi,hb,hk⟩;replace ju:=af.mk (Kd.fA (Kd.o9 (aq.apart (show aq w0 _ g bE (wrap64 (bz + 1)) from by repeat (first|(with_reducible first|exact cV.out|apply aq.alloc|apply aq.drewN|apply aq.drew|apply aq.dR|apply aq.dQ)|exact cV.out)) qH bg) hk (fun _ h=>h.2)) (fun _ h=>h.1));replace HK:=af.mk (bh.trans cZ hk (.inl rfl));replace HB:=af.mk (hb);replace cV:=af.mk (hi);(try clear hb);(try clear hk);(try clear hi);obtain ⟨pK,I2⟩:=cV.out;have Lc:=cH pK;have Ld:=cG pK;have Le:=aa pK 0;have Lf:=aa pK 1;clear pK I2)|((with_reducible refine kB (b:= .append) (xs:=#[.tmp 77,.tmp 79]) rfl ?_);at_builtin;refine Kd.pg (Kd.int .u8) w.heap.size rfl (.tmp 77) (.tmp 79) 23 5 (.int .u8 0) 1 rfl Tryz.underlying23 Ey rfl bg ak u6 xj t153 [.int .u8 t153] (fun _ =>True) (fun _ =>False) rfl ry ?aP (fun _ hk=>hk.elim) ?aF ?aO (Below.refl _ _) ?aS ?aL ?_;(case aP=>exact rfl);(case aF=>exact (fun _ _ =>trivial));(case aO=>exact Ig);(case aS=>exact (mB (w:=w) (g:=g) (row:=none) cZ));(case aL=>have:=Nw.out;omega);intro v157 w25 ho hb hg hat;rw [← Ny.out] at ho;replace HB:=af.mk (dn eZ HL.out hb);replace cV:=af.mk (aq.grown fk hg (aq.own_ne cV.out ju.out bg));replace HK:=af.mk (bh.trans cZ (bh.mU hg g) (Kd.rA ju.out));have Nz:=af.mk (ho);clear ju;clear ho hb hg hat)))
         go_roundg k1
         case measure=>have:=sI.out;omega
         case rel=>exact ⟨(Qk),(t154),(wrap64 (t155 + 1)),H',⟨kV⟩,⟨by (with_reducible repeat (first|apply Kd.fB|apply Kd.fC|apply Kd.gz));exact Nz.out⟩,⟨fk⟩,⟨cZ⟩,⟨eZ⟩⟩
      ·rw [if_neg c11] at H
       have xL:=beq_eq_false_iff_ne.mpr c11
       have EA:=bne_iff_ne.mpr c11
       by_cases EN:(bt bE bz) < 32
       ·rw [if_pos EN] at H
        have EO:=decide_eq_true EN
        clear EN
        simp only [Option.some.injEq,Prod.mk.injEq] at H
        obtain ⟨rfl,rfl,rfl,rfl⟩:=H
        obtain ⟨AZ,Qm⟩:=cV.out
        have EP:=cH AZ
        have ER:=cG AZ
        have ES:=aa AZ 0
        have ET:=aa AZ 1
        clear AZ Qm
        have p7: 0≤(bz:Int):=of_decide_eq_true cE
        have q7:bz < (bE.size:Int):=of_decide_eq_true cE
        have K7:=iW bE bz
        replace p7:=eq_true p7
        replace q7:=eq_true q7
        go_wp2
        repeat (go_quiet (fail);try go_wp2)
        go_ret2
        exact ⟨cM,fk,eZ,cZ⟩
       ·rw [if_neg EN] at H
        have EO:=decide_eq_false EN
        clear EN
        by_cases c28:(bt bE bz) > 126
        ·rw [if_pos c28] at H
         have xM:decide (126 < (bt bE bz))=true:=decide_eq_true c28
         clear c28
         simp only [Option.some.injEq,Prod.mk.injEq] at H
         obtain ⟨rfl,rfl,rfl,rfl⟩:=H
         obtain ⟨A8,Qn⟩:=cV.out
         have EU:=cH A8
         have EW:=cG A8
         have EX:=aa A8 0
         have EY:=aa A8 1
         clear A8 Qn
         have p7: 0≤(bz:Int):=of_decide_eq_true cE
         have q7:bz < (bE.size:Int):=of_decide_eq_true cE
         have K7:=iW bE bz
         replace p7:=eq_true p7
         replace q7:=eq_true q7
         go_wp2
         repeat (go_quiet (fail);try go_wp2)
         go_ret2
         exact ⟨cM,fk,eZ,cZ⟩
        ·rw [if_neg c28] at H
         have xM:decide (126 < (bt bE bz))=false:=decide_eq_false c28
         clear c28
         obtain ⟨PB,H⟩:=jA H
         have NA:=af.mk PB
         clear PB
         obtain ⟨Qo,Ba⟩:∃ y_:List Int,y_=(xj ++ [bt bE bz]):=⟨_,rfl⟩
         replace H:(bF.l0 k1 Qo bE (wrap64 (bz + 1)))=some (r1,r2,r3,r4):=by first|(rw [Ba];with_reducible exact H)|(have C9:=(Option.bind_some _ _).symm.trans H;rw [Ba];with_reducible exact C9)|(have C9:=(Option.bind_some _ _).symm.trans H;with_reducible exact C9)|with_reducible exact H|(rw [Ba];exact H)|exact H
         have NB:=af.mk Ba
         clear Ba
         have H':=af.mk H
         clear H
         obtain ⟨Bb,Qp⟩:=cV.out
         have EZ:=cH Bb
         have E0:=cG Bb
         have E1:=aa Bb 0
         have E2:=aa Bb 1
         clear Bb Qp
         have p7: 0≤(bz:Int):=of_decide_eq_true cE
         have q7:bz < (bE.size:Int):=of_decide_eq_true cE
         have K7:=iW bE bz
         replace p7:=eq_true p7
         replace q7:=eq_true q7
         go_wp2_with (first|((with_reducible refine kB (b:= .append) (xs:=#[.tmp 77,.tmp 79]) rfl ?_);at_builtin;refine Kd.pg (Kd.int .u8) w.heap.size rfl (.tmp 77) (.tmp 79) 23 5 (.int .u8 0) 1 rfl Tryz.underlying23 Ey rfl bg ak u6 xj (bt bE bz) [.int .u8 (bt bE bz)] (fun _ =>True) (fun _ =>False) rfl ry ?aP (fun _ hk=>hk.elim) ?aF ?aO (Below.refl _ _) ?aS ?aL ?_;(case aP=>exact rfl);(case aF=>exact (fun _ _ =>trivial));(case aO=>exact Ie);(case aS=>exact (mB (w:=w) (g:=g) (row:=none) cZ));(case aL=>have:=NA.out;omega);intro v160 Gz ho hb hg hat;rw [← NB.out] at ho;replace HB:=af.mk (dn eZ HL.out hb);replace cV:=af.mk (aq.grown fk hg (aq.own_ne cV.out ju.out bg));replace HK:=af.mk (bh.trans cZ (bh.mU hg g) (Kd.rA ju.out));have NC:=af.mk (ho);clear ju;clear ho hb hg hat))
         repeat (go_quiet (fail);try go_wp2_with (first|((with_reducible refine kB (b:= .append) (xs:=#[.tmp 77,.tmp 79]) rfl ?_);at_builtin;refine Kd.pg (Kd.int .u8) w.heap.size rfl (.tmp 77) (.tmp 79) 23 5 (.int .u8 0) 1 rfl Tryz.underlying23 Ey rfl bg ak u6 xj (bt bE bz) [.int .u8 (bt bE bz)] (fun _ =>True) (fun _ =>False) rfl ry ?aP (fun _ hk=>hk.elim) ?aF ?aO (Below.refl _ _) ?aS ?aL ?_;(case aP=>exact rfl);(case aF=>exact (fun _ _ =>trivial));(case aO=>exact Ie);(case aS=>exact (mB (w:=w) (g:=g) (row:=none) cZ));(case aL=>have:=NA.out;omega);intro v160 Gz ho hb hg hat;rw [← NB.out] at ho;replace HB:=af.mk (dn eZ HL.out hb);replace cV:=af.mk (aq.grown fk hg (aq.own_ne cV.out ju.out bg));replace HK:=af.mk (bh.trans cZ (bh.mU hg g) (Kd.rA ju.out));have NC:=af.mk (ho);clear ju;clear ho hb hg hat)))
         go_roundg k1
         case measure=>have:=sI.out;omega
         case rel=>exact ⟨(Qo),(bE),(wrap64 (bz + 1)),H',⟨kV⟩,⟨by (with_reducible repeat (first|apply Kd.fB|apply Kd.fC|apply Kd.gz));exact NC.out⟩,⟨fk⟩,⟨cZ⟩,⟨eZ⟩⟩
    ·rw [if_neg c5] at H
     have pG:=decide_eq_false c5
     clear c5
     simp only [Option.some.injEq,Prod.mk.injEq] at H
     obtain ⟨rfl,rfl,rfl,rfl⟩:=H
     obtain ⟨Bc,Qq⟩:=cV.out
     have Lg:=cH Bc
     have Lh:=cG Bc
     have Li:=aa Bc 0
     have Lj:=aa Bc 1
     clear Bc Qq
     go_wp2
     repeat (go_quiet (fail);try go_wp2)
     go_ret2
     exact ⟨cM,fk,eZ,cZ⟩
 ·replace c3:=Bool.eq_false_iff.mpr c3
  subst c3
  rw [if_neg (show ¬ (false=true) by decide)] at H
  obtain ⟨⟨t150,t151,t152⟩,Tc,H⟩:=bd_ H
  (try dsimp only at H)
  obtain ⟨c35,H⟩:=jA H
  have abN:=eq_true c35
  have abO:=decide_eq_true c35
  clear c35
  obtain ⟨c36,H⟩:=jA H
  have abP:=eq_true c36
  have abQ:=decide_eq_true c36
  clear c36
  obtain ⟨c37,H⟩:=jA H
  have abR:=eq_true c37
  have abS:=decide_eq_true c37
  clear c37
  simp only [Option.some.injEq,Prod.mk.injEq] at H
  obtain ⟨rfl,rfl,rfl,rfl⟩:=H
  go_enter Tryz.func123,Tryz.ntmps123
  go_wp2_with (first|(go_at_call 56;(with_reducible refine (bu.calls g dm cP 34 false t148 t149 w0 _ ?aX ?bL A2.out).mono ?_);(case aX=>repeat (first|(with_reducible first|exact cV.out|apply aq.alloc|apply aq.drewN|apply aq.drew|apply aq.dR|apply aq.dQ)|exact cV.out));(case bL=>repeat (first|(with_reducible first|exact HB.out|apply aJ|apply aK|apply aW|refine bn ?_ (aq.ge cV.out))|exact HB.out));rintro e w38 ⟨rfl,hi,hb,hk⟩;replace HK:=af.mk (bh.trans cZ hk (.inl rfl));replace HB:=af.mk (hb);replace cV:=af.mk (hi);(try clear hb);(try clear hk);(try clear hi);obtain ⟨pL,I3⟩:=cV.out;have E3:=cH pL;have E4:=cG pL;have E5:=aa pL 0;have E6:=aa pL 1;clear pL I3)|(go_at_call 67;(with_reducible refine (aC.calls k g t148 t149 46 t150 t151 t152 w0 _ ?aX ?bL Tc.out).mono ?_);(case aX=>repeat (first|(with_reducible first|exact cV.out|apply aq.alloc|apply aq.drewN|apply aq.drew|apply aq.dR|apply aq.dQ)|exact cV.out));(case bL=>repeat (first|(with_reducible first|exact HB.out|apply aJ|apply aK|apply aW|refine bn ?_ (aq.ge cV.out))|exact HB.out));rintro e w40 ⟨rfl,hi,hb,hk⟩;replace HK:=af.mk (bh.trans cZ hk (.inl rfl));replace HB:=af.mk (hb);replace cV:=af.mk (hi);(try clear hb);(try clear hk);(try clear hi);obtain ⟨pM,I4⟩:=cV.out;have Ll:=cH pM;have Lm:=cG pM;have Lp:=aa pM 0;have Lq:=aa pM 1;clear pM I4))
  repeat (go_quiet (fail);try go_wp2_with (first|(go_at_call 56;(with_reducible refine (bu.calls g dm cP 34 false t148 t149 w0 _ ?aX ?bL A2.out).mono ?_);(case aX=>repeat (first|(with_reducible first|exact cV.out|apply aq.alloc|apply aq.drewN|apply aq.drew|apply aq.dR|apply aq.dQ)|exact cV.out));(case bL=>repeat (first|(with_reducible first|exact HB.out|apply aJ|apply aK|apply aW|refine bn ?_ (aq.ge cV.out))|exact HB.out));rintro e w38 ⟨rfl,hi,hb,hk⟩;replace HK:=af.mk (bh.trans cZ hk (.inl rfl));replace HB:=af.mk (hb);replace cV:=af.mk (hi);(try clear hb);(try clear hk);(try clear hi);obtain ⟨pL,I3⟩:=cV.out;have E3:=cH pL;have E4:=cG pL;have E5:=aa pL 0;have E6:=aa pL 1;clear pL I3)|(go_at_call 67;(with_reducible refine (aC.calls k g t148 t149 46 t150 t151 t152 w0 _ ?aX ?bL Tc.out).mono ?_);(case aX=>repeat (first|(with_reducible first|exact cV.out|apply aq.alloc|apply aq.drewN|apply aq.drew|apply aq.dR|apply aq.dQ)|exact cV.out));(case bL=>repeat (first|(with_reducible first|exact HB.out|apply aJ|apply aK|apply aW|refine bn ?_ (aq.ge cV.out))|exact HB.out));rintro e w40 ⟨rfl,hi,hb,hk⟩;replace HK:=af.mk (bh.trans cZ hk (.inl rfl));replace HB:=af.mk (hb);replace cV:=af.mk (hi);(try clear hb);(try clear hk);(try clear hi);obtain ⟨pM,I4⟩:=cV.out;have Ll:=cH pM;have Lm:=cG pM;have Lp:=aa pM 0;have Lq:=aa pM 1;clear pM I4)))
  go_ret2
  exact ⟨cM,fk,eZ,cZ⟩
def dW.f (a0:Int):Option (Bool):=some (a0 != 93)
theorem dW.calls (a0:Int) (r:Bool) (w:World) (h:dW.f a0=some r):
 Calls Tryz.prog 124 #[.int .u8 a0] w fun e w'=>e= .returned (.bool r)∧fV w w':=by
 have H:(some (a0 != 93))=some r:=h
 clear h
 obtain rfl:=Option.some.inj H
 go_enter Tryz.func124,Tryz.ntmps124
 go_wp2
 go_ret
 exact ⟨dG,iw⟩
def aG.l0:Nat→Int→ByteArray→Int→Option (ByteArray×Bool×ByteArray×Int)
 | 0,_,_,_ =>none
 |k + 1,x6,eO,dM=>if dM < (eO.size:Int) then (if 0≤dM then ((dW.f (bt eO dM)).bind fun t162=>(if t162=true then (aG.l0 k x6 eO (wrap64 (dM + 1))) else (if 0≤x6 then (if x6≤dM then (if dM≤(eO.size:Int) then (some (eO.extract (x6:Int).toNat (dM:Int).toNat,decide (dM > x6),eO,dM)) else (none)) else (none)) else (none)))) else (none)) else (if 0≤x6 then (if x6≤dM then (if dM≤(eO.size:Int) then (some (eO.extract (x6:Int).toNat (dM:Int).toNat,decide (dM > x6),eO,dM)) else (none)) else (none)) else (none))
def aG.f (k:Nat) (dm:ByteArray) (cP:Int):Option (ByteArray×Bool×ByteArray×Int):=aG.l0 k cP dm cP
theorem aG.eD:∀ k,(∀ y0 y1 y2,bZ (aG.l0 k y0 y1 y2) (aG.l0 (k + 1) y0 y1 y2))
 | 0=>fun _ _ _ r h=>by simp [aG.l0] at h
 |k + 1=>by
  have iJ:=aG.eD k
  ·intro y0 y1 y2
   unfold aG.l0
   repeat' first
   |(with_reducible first|exact iJ _ _ _|exact bZ.refl _|exact bZ.none _|refine bZ.ite ?_ ?_|refine bZ.bind ?_ (fun _ =>?_))
   |exact iJ _ _ _
   |exact bZ.none _
   |refine bZ.ite ?_ ?_
   |refine bZ.bind ?_ (fun _ =>?_)
theorem aG.mono:∀ a0 a1 k,bZ (aG.f k a0 a1) (aG.f (k + 1) a0 a1):=by
 intro a0 a1 k
 have iJ:=aG.eD k
 unfold aG.f
 repeat' first
  |(with_reducible first|exact iJ _ _ _|exact bZ.refl _|exact bZ.none _|refine bZ.ite ?_ ?_|refine bZ.bind ?_ (fun _ =>?_))
  |exact iJ _ _ _
  |exact bZ.none _
  |refine bZ.ite ?_ ?_
  |refine bZ.bind ?_ (fun _ =>?_)
theorem aG.calls (k:Nat) (g:Nat) (dm:ByteArray) (cP:Int) (r1:ByteArray) (r2:Bool) (r3:ByteArray) (r4:Int) (w0 w:World) (hI:aq w0 w g dm cP) (hB:Below w0.heap.size w0 w) (h:aG.f k dm cP=some (r1,r2,r3,r4)):
 Calls Tryz.prog 119 #[.pointer (some ⟨g,0,none⟩),.func (.func 124) #[] #[]] w fun e w'=>e= .returned (.tuple #[.string r1,.bool r2])∧aq w0 w' g r3 r4∧Below w0.heap.size w0 w'∧bh w w' g none:=by
 have cV:=af.mk hI
 have HK:=af.mk (bh.refl w g none)
 have HL:=af.mk hB.size
 clear hI
 have Hp:=af.mk hB.size
 have HB:=af.mk hB
 clear hB
 have H:(aG.l0 k cP dm cP)=some (r1,r2,r3,r4):=h
 clear h
 have H':=af.mk H
 clear H
 obtain ⟨pH,IW⟩:=cV.out
 have C0:=cH pH
 have C2:=cG pH
 have C3:=aa pH 0
 have C4:=aa pH 1
 clear pH IW
 go_enter Tryz.func119,Tryz.ntmps119
 go_wp2
 repeat (go_quiet (fail);try go_wp2)
 go_loopg [] k (fun kq w'=>∃ (bE:ByteArray) (bz:Int),af (aG.l0 kq cP bE bz=some (r1,r2,r3,r4))∧af (kq≤k)∧af (aq w0 w' g bE bz)∧af (bh w w' g none)∧af (Below w0.heap.size w0 w'))
 case atStart=>exact ⟨(dm),(cP),H',⟨Nat.le_refl _⟩,⟨fk⟩,⟨cZ⟩,⟨eZ⟩⟩
 case round=>
  clear H'
  obtain ⟨bE,bz,HA,sI,cV,HK,HB⟩:=hrel
  cases gk with
  |zero=>exact absurd HA.out (by simp [aG.l0])
  |succ k1=>
   have H:=HA.out
   clear HA
   simp only [aG.l0] at H
   by_cases c4:bz < (bE.size:Int)
   ·rw [if_pos c4] at H
    have nj:=decide_eq_true c4
    clear c4
    obtain ⟨c5,H⟩:=jA H
    have pG:=decide_eq_true c5
    clear c5
    obtain ⟨t162,A7,H⟩:=bd_ H
    by_cases c8:t162=true
    ·subst c8
     rw [if_pos rfl] at H
     have H':=af.mk H
     clear H
     obtain ⟨kD,zx⟩:=cV.out
     have nM:=cH kD
     have nN:=cG kD
     have nO:=aa kD 0
     have nP:=aa kD 1
     clear kD zx
     have p6: 0≤(bz:Int):=of_decide_eq_true cE
     have q6:bz < (bE.size:Int):=of_decide_eq_true cE
     have Qf:=iW bE bz
     replace p6:=eq_true p6
     replace q6:=eq_true q6
     go_wp2_with (first|(go_at_call 124;(with_reducible refine (dW.calls (bt bE bz) true _ A7.out).mono ?_);rintro e w' ⟨rfl,⟨nd,rfl⟩⟩;(try first|exact ⟨rfl,_,World.drewN_drewN _ _ _⟩|exact ⟨rfl,_,Eq.trans (World.drewN_drewN _ _ _) (congrArg (World.drewN _) (Nat.add_assoc _ _ _))⟩)))
     repeat (go_quiet (first|(go_at_call 124;(with_reducible refine (dW.calls (bt bE bz) true _ A7.out).mono ?_);rintro e w' ⟨rfl,⟨nd,rfl⟩⟩;(try first|exact ⟨rfl,_,World.drewN_drewN _ _ _⟩|exact ⟨rfl,_,Eq.trans (World.drewN_drewN _ _ _) (congrArg (World.drewN _) (Nat.add_assoc _ _ _))⟩)));try go_wp2_with (first|(go_at_call 124;(with_reducible refine (dW.calls (bt bE bz) true _ A7.out).mono ?_);rintro e w' ⟨rfl,⟨nd,rfl⟩⟩;(try first|exact ⟨rfl,_,World.drewN_drewN _ _ _⟩|exact ⟨rfl,_,Eq.trans (World.drewN_drewN _ _ _) (congrArg (World.drewN _) (Nat.add_assoc _ _ _))⟩))))
     go_roundg k1
     case measure=>have:=sI.out;omega
     case rel=>exact ⟨(bE),(wrap64 (bz + 1)),H',⟨kV⟩,⟨fk⟩,⟨cZ⟩,⟨eZ⟩⟩
    ·replace c8:=Bool.eq_false_iff.mpr c8
     subst c8
     rw [if_neg (show ¬ (false=true) by decide)] at H
     obtain ⟨c10,H⟩:=jA H
     have AH:=eq_true c10
     have Np:=decide_eq_true c10
     clear c10
     obtain ⟨c11,H⟩:=jA H
     have xL:=eq_true c11
     have EA:=decide_eq_true c11
     clear c11
     obtain ⟨c12,H⟩:=jA H
     have Nq:=eq_true c12
     have Nr:=decide_eq_true c12
     clear c12
     simp only [Option.some.injEq,Prod.mk.injEq] at H
     obtain ⟨rfl,rfl,rfl,rfl⟩:=H
     obtain ⟨lD,AJ⟩:=cV.out
     have rJ:=cH lD
     have rK:=cG lD
     have rL:=aa lD 0
     have rM:=aa lD 1
     clear lD AJ
     have p6: 0≤(bz:Int):=of_decide_eq_true cE
     have q6:bz < (bE.size:Int):=of_decide_eq_true cE
     have Qf:=iW bE bz
     replace p6:=eq_true p6
     replace q6:=eq_true q6
     go_wp2_with (first|(go_at_call 124;(with_reducible refine (dW.calls (bt bE bz) false _ A7.out).mono ?_);rintro e w' ⟨rfl,⟨nd,rfl⟩⟩;(try first|exact ⟨rfl,_,World.drewN_drewN _ _ _⟩|exact ⟨rfl,_,Eq.trans (World.drewN_drewN _ _ _) (congrArg (World.drewN _) (Nat.add_assoc _ _ _))⟩)))
     repeat (go_quiet (first|(go_at_call 124;(with_reducible refine (dW.calls (bt bE bz) false _ A7.out).mono ?_);rintro e w' ⟨rfl,⟨nd,rfl⟩⟩;(try first|exact ⟨rfl,_,World.drewN_drewN _ _ _⟩|exact ⟨rfl,_,Eq.trans (World.drewN_drewN _ _ _) (congrArg (World.drewN _) (Nat.add_assoc _ _ _))⟩)));try go_wp2_with (first|(go_at_call 124;(with_reducible refine (dW.calls (bt bE bz) false _ A7.out).mono ?_);rintro e w' ⟨rfl,⟨nd,rfl⟩⟩;(try first|exact ⟨rfl,_,World.drewN_drewN _ _ _⟩|exact ⟨rfl,_,Eq.trans (World.drewN_drewN _ _ _) (congrArg (World.drewN _) (Nat.add_assoc _ _ _))⟩))))
     go_ret2
     exact ⟨cM,fk,eZ,cZ⟩
   ·rw [if_neg c4] at H
    have nj:=decide_eq_false c4
    clear c4
    obtain ⟨c14,H⟩:=jA H
    have Ns:=eq_true c14
    have Nt:=decide_eq_true c14
    clear c14
    obtain ⟨c15,H⟩:=jA H
    have vI:=eq_true c15
    have vJ:=decide_eq_true c15
    clear c15
    obtain ⟨c16,H⟩:=jA H
    have Nu:=eq_true c16
    have Nv:=decide_eq_true c16
    clear c16
    simp only [Option.some.injEq,Prod.mk.injEq] at H
    obtain ⟨rfl,rfl,rfl,rfl⟩:=H
    obtain ⟨lF,AK⟩:=cV.out
    have EB:=cH lF
    have EC:=cG lF
    have ED:=aa lF 0
    have EE:=aa lF 1
    clear lF AK
    go_wp2
    repeat (go_quiet (fail);try go_wp2)
    go_ret2
    exact ⟨cM,fk,eZ,cZ⟩
end Go.Proofs.YtokpnfljjjjikaaGreatDoor.lO
