import Derived.Test.YtokpnfljjjjikaaGreatDoorESlim
import Derived.Test.YtokpnfljjjjikaaGreatDoorQPtx0
import Derived.Test.YtokpnfljjjjikaaGreatDoorEIdx
set_option maxHeartbeats 8000000
set_option maxRecDepth 100000
namespace Go.Proofs.YtokpnfljjjjikaaGreatDoor.mY
open Go.RowKit Go.Proofs.YtokpnfljjjjikaaGreatDoor.qP Go.Proofs.aj.bO Go.Proofs.aj.fA Go.Proofs.aj.cK
attribute [local go_sem] ia ig iU iV gf gh ij iq
set_option linter.unusedVariables false
set_option linter.unusedSimpArgs false
mutual
def bF.j0:Nat→ByteArray→Bool→Option (Bool)
 | 0,_,_ =>none
 |k + 1,x0,x12=>if x12=true then (some false) else (bF.l0 k x0 0)
def bF.l0:Nat→ByteArray→Int→Option (Bool)
 | 0,_,_ =>none
 |k + 1,x0,x3=>if x3 < (x0.size:Int) then (if 0≤x3 then (if (bt x0 x3)≥48 then (if (bt x0 x3)≤57 then (bF.l0 k x0 (wrap64 (x3 + 1))) else (if (bt x0 x3)≥65 then (if (bt x0 x3)≤70 then (bF.l0 k x0 (wrap64 (x3 + 1))) else (if (bt x0 x3)≥97 then (if ((bt x0 x3)≤102) then (bF.l0 k x0 (wrap64 (x3 + 1))) else (some false)) else (some false))) else (if (bt x0 x3)≥97 then (if ((bt x0 x3)≤102) then (bF.l0 k x0 (wrap64 (x3 + 1))) else (some false)) else (some false)))) else (if (bt x0 x3)≥65 then (if (bt x0 x3)≤70 then (bF.l0 k x0 (wrap64 (x3 + 1))) else (if (bt x0 x3)≥97 then (if ((bt x0 x3)≤102) then (bF.l0 k x0 (wrap64 (x3 + 1))) else (some false)) else (some false))) else (if (bt x0 x3)≥97 then (if ((bt x0 x3)≤102) then (bF.l0 k x0 (wrap64 (x3 + 1))) else (some false)) else (some false)))) else (none)) else (some true)
end
def bF.f (k:Nat) (a0:ByteArray):Option (Bool):=if (a0.size:Int) < 1 then (bF.j0 k a0 true) else (bF.j0 k a0 (decide ((a0.size:Int) > 4)))
theorem bF.dF:∀ k,(∀ y0 y1,bL (bF.j0 k y0 y1) (bF.j0 (k + 1) y0 y1))∧(∀ y0 y1,bL (bF.l0 k y0 y1) (bF.l0 (k + 1) y0 y1))
 | 0=>⟨fun _ _ r h=>by simp [bF.j0] at h,fun _ _ r h=>by simp [bF.l0] at h⟩
 |k + 1=>by
  obtain ⟨fV,ih1⟩:=bF.dF k
  refine ⟨?_,?_⟩
  ·intro y0 y1
   unfold bF.j0
   repeat' first
   |(with_reducible first|exact fV _ _|exact ih1 _ _|exact bL.refl _|exact bL.none _|refine bL.ite ?_ ?_|refine bL.bind ?_ (fun _ =>?_))
   |exact fV _ _
   |exact ih1 _ _
   |exact bL.none _
   |refine bL.ite ?_ ?_
   |refine bL.bind ?_ (fun _ =>?_)
  ·intro y0 y1
   unfold bF.l0
   repeat' first
   |(with_reducible first|exact fV _ _|exact ih1 _ _|exact bL.refl _|exact bL.none _|refine bL.ite ?_ ?_|refine bL.bind ?_ (fun _ =>?_))
   |exact fV _ _
   |exact ih1 _ _
   |exact bL.none _
   |refine bL.ite ?_ ?_
   |refine bL.bind ?_ (fun _ =>?_)
theorem bF.mono:∀ a0 k,bL (bF.f k a0) (bF.f (k + 1) a0):=by
 intro a0 k
 obtain ⟨fV,ih1⟩:=bF.dF k
 unfold bF.f
 repeat' first
  |(with_reducible first|exact fV _ _|exact ih1 _ _|exact bL.refl _|exact bL.none _|refine bL.ite ?_ ?_|refine bL.bind ?_ (fun _ =>?_))
  |exact fV _ _
  |exact ih1 _ _
  |exact bL.none _
  |refine bL.ite ?_ ?_
  |refine bL.bind ?_ (fun _ =>?_)
theorem bF.calls (k:Nat) (a0:ByteArray) (r:Bool) (w:World) (h:bF.f k a0=some r):
 Calls Tryz.prog 133 #[.string a0] w fun e w'=>e= .returned (.bool r)∧iC w w':=by
 have H:(if (a0.size:Int) < 1 then (bF.j0 k a0 true) else (bF.j0 k a0 (decide ((a0.size:Int) > 4))))=some r:=h
 clear h
 have LI:=aa.mk H
 clear H
 go_enter Tryz.func133,Tryz.ntmps133
 go_upto_region 1 with (fail)
 go_cut [12] (fun v12 wc=>∃ (kq:Nat) (AJ:Bool),v12= .bool AJ∧aa (bF.j0 kq a0 AJ=some r)∧aa (kq≤k)∧iC w wc)
 case first=>
  have H:=LI.out
  clear LI
  by_cases c3:(a0.size:Int) < 1
  ·rw [if_pos c3] at H
   have mg:=decide_eq_true c3
   have E7:decide (a0.size < 1)=true:=decide_eq_true ak
   clear c3
   (first|rw [mg]|(simp only [cU,dh];rw [mg])|skip)
   have H':=aa.mk H
   clear H
   go_wp2
   go_meet
   case rel=>exact ⟨_,(true),b9,H',⟨iT⟩,dJ⟩
  ·rw [if_neg c3] at H
   have mg:=decide_eq_false c3
   have E7:decide (a0.size < 1)=false:=decide_eq_false ak
   clear c3
   (first|rw [mg]|(simp only [cU,dh];rw [mg])|skip)
   have H':=aa.mk H
   clear H
   go_wp2
   go_meet
   case rel=>exact ⟨_,(decide ((a0.size:Int) > 4)),b9,H',⟨iT⟩,dJ⟩
 case rest=>
  clear LI
  obtain ⟨kq,AJ,rfl,HA,NM,⟨mc1,rfl⟩⟩:=hcut
  cases kq with
  |zero=>exact absurd HA.out (by simp [bF.j0])
  |succ Dp=>
   have H:=HA.out
   clear HA
   simp only [bF.j0] at H
   by_cases c4:AJ=true
   ·subst c4
    rw [if_pos rfl] at H
    obtain rfl:=Option.some.inj H
    go_wp2
    go_ret
    exact ⟨b9,dJ⟩
   ·replace c4:=Bool.eq_false_iff.mpr c4
    subst c4
    rw [if_neg (show ¬ (false=true) by decide)] at H
    have H':=aa.mk H
    clear H
    go_wp2
    go_loopg [3] Dp (fun kq v3 w'=>∃ (fG:Int),v3= .int .i64 fG∧aa (bF.l0 kq a0 fG=some r)∧aa (kq≤Dp)∧iC w w')
    case atStart=>exact ⟨(0),b9,H',⟨Nat.le_refl _⟩,dJ⟩
    case round=>
     clear H'
     obtain ⟨fG,rfl,HA,uI,⟨m2,rfl⟩⟩:=hrel
     cases gk with
     |zero=>exact absurd HA.out (by simp [bF.l0])
     |succ k2=>
      have H:=HA.out
      clear HA
      simp only [bF.l0] at H
      by_cases c5:fG < (a0.size:Int)
      ·rw [if_pos c5] at H
       have lF:=decide_eq_true c5
       clear c5
       obtain ⟨c6,H⟩:=iA H
       have nL:=decide_eq_true c6
       clear c6
       by_cases c8:(bt a0 fG)≥48
       ·rw [if_pos c8] at H
        have rK:decide (48≤(bt a0 fG))=true:=decide_eq_true c8
        clear c8
        by_cases c9:(bt a0 fG)≤57
        ·rw [if_pos c9] at H
         have Cg:=decide_eq_true c9
         clear c9
         have H':=aa.mk H
         clear H
         have p7: 0≤(fG:Int):=of_decide_eq_true bp
         have q7:fG < (a0.size:Int):=of_decide_eq_true bp
         have AO:=dA a0 fG
         replace p7:=eq_true p7
         replace q7:=eq_true q7
         go_wp2
         go_roundg k2
         case measure=>have:=NM.out;have:=uI.out;omega
         case rel=>exact ⟨(wrap64 (fG + 1)),b9,H',⟨uS⟩,dJ⟩
        ·rw [if_neg c9] at H
         have Cg:=decide_eq_false c9
         clear c9
         by_cases c10:(bt a0 fG)≥65
         ·rw [if_pos c10] at H
          have pR:decide (65≤(bt a0 fG))=true:=decide_eq_true c10
          clear c10
          by_cases c11:(bt a0 fG)≤70
          ·rw [if_pos c11] at H
           have oC:=decide_eq_true c11
           clear c11
           have H':=aa.mk H
           clear H
           have p7: 0≤(fG:Int):=of_decide_eq_true bp
           have q7:fG < (a0.size:Int):=of_decide_eq_true bp
           have AO:=dA a0 fG
           replace p7:=eq_true p7
           replace q7:=eq_true q7
           go_wp2
           go_roundg k2
           case measure=>have:=NM.out;have:=uI.out;omega
           case rel=>exact ⟨(wrap64 (fG + 1)),b9,H',⟨uS⟩,dJ⟩
          ·rw [if_neg c11] at H
           have oC:=decide_eq_false c11
           clear c11
           by_cases c12:(bt a0 fG)≥97
           ·rw [if_pos c12] at H
            have zg:decide (97≤(bt a0 fG))=true:=decide_eq_true c12
            clear c12
            by_cases c13:((bt a0 fG)≤102)
            ·rw [if_pos c13] at H
             have vW:decide ((bt a0 fG)≤102)=true:=decide_eq_true c13
             clear c13
             have H':=aa.mk H
             clear H
             have p7: 0≤(fG:Int):=of_decide_eq_true bp
             have q7:fG < (a0.size:Int):=of_decide_eq_true bp
             have AO:=dA a0 fG
             replace p7:=eq_true p7
             replace q7:=eq_true q7
             go_wp2
             go_roundg k2
             case measure=>have:=NM.out;have:=uI.out;omega
             case rel=>exact ⟨(wrap64 (fG + 1)),b9,H',⟨uS⟩,dJ⟩
            ·rw [if_neg c13] at H
             have vW:decide ((bt a0 fG)≤102)=false:=decide_eq_false c13
             clear c13
             obtain rfl:=Option.some.inj H
             have p7: 0≤(fG:Int):=of_decide_eq_true bp
             have q7:fG < (a0.size:Int):=of_decide_eq_true bp
             have AO:=dA a0 fG
             replace p7:=eq_true p7
             replace q7:=eq_true q7
             go_wp2
             go_ret
             exact ⟨b9,dJ⟩
           ·rw [if_neg c12] at H
            have zg:decide (97≤(bt a0 fG))=false:=decide_eq_false c12
            clear c12
            obtain rfl:=Option.some.inj H
            have p7: 0≤(fG:Int):=of_decide_eq_true bp
            have q7:fG < (a0.size:Int):=of_decide_eq_true bp
            have AO:=dA a0 fG
            replace p7:=eq_true p7
            replace q7:=eq_true q7
            go_wp2
            go_ret
            exact ⟨b9,dJ⟩
         ·rw [if_neg c10] at H
          have pR:decide (65≤(bt a0 fG))=false:=decide_eq_false c10
          clear c10
          by_cases c14:(bt a0 fG)≥97
          ·rw [if_pos c14] at H
           have CT:decide (97≤(bt a0 fG))=true:=decide_eq_true c14
           clear c14
           by_cases c15:((bt a0 fG)≤102)
           ·rw [if_pos c15] at H
            have tL:decide ((bt a0 fG)≤102)=true:=decide_eq_true c15
            clear c15
            have H':=aa.mk H
            clear H
            have p7: 0≤(fG:Int):=of_decide_eq_true bp
            have q7:fG < (a0.size:Int):=of_decide_eq_true bp
            have AO:=dA a0 fG
            replace p7:=eq_true p7
            replace q7:=eq_true q7
            go_wp2
            go_roundg k2
            case measure=>have:=NM.out;have:=uI.out;omega
            case rel=>exact ⟨(wrap64 (fG + 1)),b9,H',⟨uS⟩,dJ⟩
           ·rw [if_neg c15] at H
            have tL:decide ((bt a0 fG)≤102)=false:=decide_eq_false c15
            clear c15
            obtain rfl:=Option.some.inj H
            have p7: 0≤(fG:Int):=of_decide_eq_true bp
            have q7:fG < (a0.size:Int):=of_decide_eq_true bp
            have AO:=dA a0 fG
            replace p7:=eq_true p7
            replace q7:=eq_true q7
            go_wp2
            go_ret
            exact ⟨b9,dJ⟩
          ·rw [if_neg c14] at H
           have CT:decide (97≤(bt a0 fG))=false:=decide_eq_false c14
           clear c14
           obtain rfl:=Option.some.inj H
           have p7: 0≤(fG:Int):=of_decide_eq_true bp
           have q7:fG < (a0.size:Int):=of_decide_eq_true bp
           have AO:=dA a0 fG
           replace p7:=eq_true p7
           replace q7:=eq_true q7
           go_wp2
           go_ret
           exact ⟨b9,dJ⟩
       ·rw [if_neg c8] at H
        have rK:decide (48≤(bt a0 fG))=false:=decide_eq_false c8
        clear c8
        by_cases c16:(bt a0 fG)≥65
        ·rw [if_pos c16] at H
         have qT:decide (65≤(bt a0 fG))=true:=decide_eq_true c16
         clear c16
         by_cases c17:(bt a0 fG)≤70
         ·rw [if_pos c17] at H
          have wO:=decide_eq_true c17
          clear c17
          have H':=aa.mk H
          clear H
          have p7: 0≤(fG:Int):=of_decide_eq_true bp
          have q7:fG < (a0.size:Int):=of_decide_eq_true bp
          have AO:=dA a0 fG
          replace p7:=eq_true p7
          replace q7:=eq_true q7
          go_wp2
          go_roundg k2
          case measure=>have:=NM.out;have:=uI.out;omega
          case rel=>exact ⟨(wrap64 (fG + 1)),b9,H',⟨uS⟩,dJ⟩
         ·rw [if_neg c17] at H
          have wO:=decide_eq_false c17
          clear c17
          by_cases c18:(bt a0 fG)≥97
          ·rw [if_pos c18] at H
           have xd:decide (97≤(bt a0 fG))=true:=decide_eq_true c18
           clear c18
           by_cases c19:((bt a0 fG)≤102)
           ·rw [if_pos c19] at H
            have zj:decide ((bt a0 fG)≤102)=true:=decide_eq_true c19
            clear c19
            have H':=aa.mk H
            clear H
            have p7: 0≤(fG:Int):=of_decide_eq_true bp
            have q7:fG < (a0.size:Int):=of_decide_eq_true bp
            have AO:=dA a0 fG
            replace p7:=eq_true p7
            replace q7:=eq_true q7
            go_wp2
            go_roundg k2
            case measure=>have:=NM.out;have:=uI.out;omega
            case rel=>exact ⟨(wrap64 (fG + 1)),b9,H',⟨uS⟩,dJ⟩
           ·rw [if_neg c19] at H
            have zj:decide ((bt a0 fG)≤102)=false:=decide_eq_false c19
            clear c19
            obtain rfl:=Option.some.inj H
            have p7: 0≤(fG:Int):=of_decide_eq_true bp
            have q7:fG < (a0.size:Int):=of_decide_eq_true bp
            have AO:=dA a0 fG
            replace p7:=eq_true p7
            replace q7:=eq_true q7
            go_wp2
            go_ret
            exact ⟨b9,dJ⟩
          ·rw [if_neg c18] at H
           have xd:decide (97≤(bt a0 fG))=false:=decide_eq_false c18
           clear c18
           obtain rfl:=Option.some.inj H
           have p7: 0≤(fG:Int):=of_decide_eq_true bp
           have q7:fG < (a0.size:Int):=of_decide_eq_true bp
           have AO:=dA a0 fG
           replace p7:=eq_true p7
           replace q7:=eq_true q7
           go_wp2
           go_ret
           exact ⟨b9,dJ⟩
        ·rw [if_neg c16] at H
         have qT:decide (65≤(bt a0 fG))=false:=decide_eq_false c16
         clear c16
         by_cases c20:(bt a0 fG)≥97
         ·rw [if_pos c20] at H
          have Fz:decide (97≤(bt a0 fG))=true:=decide_eq_true c20
          clear c20
          by_cases c21:((bt a0 fG)≤102)
          ·rw [if_pos c21] at H
           have wW:decide ((bt a0 fG)≤102)=true:=decide_eq_true c21
           clear c21
           have H':=aa.mk H
           clear H
           have p7: 0≤(fG:Int):=of_decide_eq_true bp
           have q7:fG < (a0.size:Int):=of_decide_eq_true bp
           have AO:=dA a0 fG
           replace p7:=eq_true p7
           replace q7:=eq_true q7
           go_wp2
           go_roundg k2
           case measure=>have:=NM.out;have:=uI.out;omega
           case rel=>exact ⟨(wrap64 (fG + 1)),b9,H',⟨uS⟩,dJ⟩
          ·rw [if_neg c21] at H
           have wW:decide ((bt a0 fG)≤102)=false:=decide_eq_false c21
           clear c21
           obtain rfl:=Option.some.inj H
           have p7: 0≤(fG:Int):=of_decide_eq_true bp
           have q7:fG < (a0.size:Int):=of_decide_eq_true bp
           have AO:=dA a0 fG
           replace p7:=eq_true p7
           replace q7:=eq_true q7
           go_wp2
           go_ret
           exact ⟨b9,dJ⟩
         ·rw [if_neg c20] at H
          have Fz:decide (97≤(bt a0 fG))=false:=decide_eq_false c20
          clear c20
          obtain rfl:=Option.some.inj H
          have p7: 0≤(fG:Int):=of_decide_eq_true bp
          have q7:fG < (a0.size:Int):=of_decide_eq_true bp
          have AO:=dA a0 fG
          replace p7:=eq_true p7
          replace q7:=eq_true q7
          go_wp2
          go_ret
          exact ⟨b9,dJ⟩
      ·rw [if_neg c5] at H
       have lF:=decide_eq_false c5
       clear c5
       obtain rfl:=Option.some.inj H
       go_wp2
       go_ret
       exact ⟨b9,dJ⟩
def bu.l0:Nat→ByteArray→Int→Option (Int)
 | 0,_,_ =>none
 |k + 1,x0,x3=>if x0.toList=([]:List UInt8) then (some x3) else ((strings_Index.f x0 (⟨#[58]⟩:ByteArray)).bind fun sX=>(if sX≥0 then (if 0≤(wrap64 (sX + 1)) then (if (wrap64 (sX + 1))≤(x0.size:Int) then (if 0≤sX then (if sX≤(x0.size:Int) then (if (x0.extract ((wrap64 (sX + 1)):Int).toNat x0.size).toList=([]:List UInt8) then (some 100) else ((bF.f k (x0.extract 0 (sX:Int).toNat)).bind fun adO=>(if adO=true then (bu.l0 k (x0.extract ((wrap64 (sX + 1)):Int).toNat x0.size) (wrap64 (x3 + 1))) else (some 100)))) else (none)) else (none)) else (none)) else (none)) else ((bF.f k x0).bind fun adP=>(if adP=true then (bu.l0 k (⟨#[]⟩:ByteArray) (wrap64 (x3 + 1))) else (some 100)))))
def bu.f (k:Nat) (a0:ByteArray):Option (Int):=bu.l0 k a0 0
theorem bu.dF:∀ k,(∀ y0 y1,bL (bu.l0 k y0 y1) (bu.l0 (k + 1) y0 y1))
 | 0=>fun _ _ r h=>by simp [bu.l0] at h
 |k + 1=>by
  have fV:=bu.dF k
  ·intro y0 y1
   unfold bu.l0
   repeat' first
   |(with_reducible first|exact fV _ _|exact bF.mono _ _|exact bL.refl _|exact bL.none _|refine bL.ite ?_ ?_|refine bL.bind ?_ (fun _ =>?_))
   |exact fV _ _
   |exact bF.mono _ _
   |exact bL.none _
   |refine bL.ite ?_ ?_
   |refine bL.bind ?_ (fun _ =>?_)
theorem bu.mono:∀ a0 k,bL (bu.f k a0) (bu.f (k + 1) a0):=by
 intro a0 k
 have fV:=bu.dF k
 unfold bu.f
 repeat' first
  |(with_reducible first|exact fV _ _|exact bF.mono _ _|exact bL.refl _|exact bL.none _|refine bL.ite ?_ ?_|refine bL.bind ?_ (fun _ =>?_))
  |exact fV _ _
  |exact bF.mono _ _
  |exact bL.none _
  |refine bL.ite ?_ ?_
  |refine bL.bind ?_ (fun _ =>?_)
theorem bu.calls (k:Nat) (a0:ByteArray) (r:Int) (w:World) (hG:aJ w) (h:bu.f k a0=some r):
 Calls Tryz.prog 85 #[.string a0] w fun e w'=>e= .returned (.int .i64 r)∧iC w w':=by
 have HG:=aa.mk hG
 clear hG
 have H:(bu.l0 k a0 0)=some r:=h
 clear h
 have H':=aa.mk H
 clear H
 go_enter Tryz.func85,Tryz.ntmps85
 go_wp2
 go_loopg [0,3] k (fun kq v0 v3 w'=>∃ (rq:ByteArray) (kE:Int),v0= .string rq∧v3= .int .i64 kE∧aa (bu.l0 kq rq kE=some r)∧aa (kq≤k)∧iC w w')
 case atStart=>exact ⟨(a0),(0),b9,b9,H',⟨Nat.le_refl _⟩,dJ⟩
 case round=>
  clear H'
  obtain ⟨rq,kE,rfl,rfl,HA,p9,⟨m1,rfl⟩⟩:=hrel
  cases gk with
  |zero=>exact absurd HA.out (by simp [bu.l0])
  |succ k1=>
   have H:=HA.out
   clear HA
   simp only [bu.l0] at H
   by_cases c2:rq.toList=([]:List UInt8)
   ·rw [if_pos c2] at H
    have sP:=beq_iff_eq.mpr c2
    have JM:=bne_eq_false_iff_eq.mpr c2
    clear c2
    obtain rfl:=Option.some.inj H
    go_wp2
    go_ret
    exact ⟨b9,dJ⟩
   ·rw [if_neg c2] at H
    have sP:=beq_eq_false_iff_ne.mpr c2
    have JM:=bne_iff_ne.mpr c2
    obtain ⟨sX,A3,H⟩:=bd_ H
    by_cases c4:sX≥0
    ·rw [if_pos c4] at H
     have nB:decide (0≤sX)=true:=decide_eq_true c4
     clear c4
     obtain ⟨ji5,U6⟩:∃ j_:Int,(wrap64 (sX + 1))=j_ :=⟨_,rfl⟩
     (first|rw [U6] at H|simp only [U6] at H)
     (try rw [U6] at A3)
     have asO:(IntKind.i64.wrap (sX + 1))=ji5:=(cU _).trans U6
     obtain ⟨c6,H⟩:=iA H
     have nL:=eq_true c6
     have wK:=decide_eq_true c6
     clear c6
     obtain ⟨c7,H⟩:=iA H
     have TA:=eq_true c7
     have agO:=decide_eq_true c7
     clear c7
     obtain ⟨c8,H⟩:=iA H
     have rK:=eq_true c8
     have Fg:=decide_eq_true c8
     clear c8
     obtain ⟨c9,H⟩:=iA H
     have Cg:=eq_true c9
     have TB:=decide_eq_true c9
     clear c9
     by_cases c10:(rq.extract ((ji5):Int).toNat rq.size).toList=([]:List UInt8)
     ·rw [if_pos c10] at H
      have pR:=beq_iff_eq.mpr c10
      have AK:=bne_eq_false_iff_eq.mpr c10
      clear c10
      obtain rfl:=Option.some.inj H
      go_wp2_with (first|((with_reducible refine aK (f:=74) rfl ?_);refine bU (some 9) rfl rfl Tryz.func74 aq rfl #[.string rq,.string (⟨#[58]⟩:ByteArray)] rfl cz ?_;(with_reducible refine (strings_Index.calls rq (⟨#[58]⟩:ByteArray) sX _ ?aT A3.out).mono ?_);(case aT=>repeat (first|exact HG.out|apply aJ.drewN|apply aJ.drew));rintro e w' ⟨rfl,⟨nd,rfl⟩⟩;refine ⟨_,rfl,?_⟩))
      go_ret
      exact ⟨Ja,dJ⟩
     ·rw [if_neg c10] at H
      have pR:=beq_eq_false_iff_ne.mpr c10
      have AK:=bne_iff_ne.mpr c10
      obtain ⟨adO,ZQ,H⟩:=bd_ H
      by_cases c12:adO=true
      ·subst c12
       rw [if_pos rfl] at H
       have H':=aa.mk H
       clear H
       go_wp2_with (first|((with_reducible refine aK (f:=74) rfl ?_);refine bU (some 9) rfl rfl Tryz.func74 aq rfl #[.string rq,.string (⟨#[58]⟩:ByteArray)] rfl cz ?_;(with_reducible refine (strings_Index.calls rq (⟨#[58]⟩:ByteArray) sX _ ?aT A3.out).mono ?_);(case aT=>repeat (first|exact HG.out|apply aJ.drewN|apply aJ.drew));rintro e w' ⟨rfl,⟨nd,rfl⟩⟩;refine ⟨_,rfl,?_⟩)|((with_reducible refine aK (f:=133) rfl ?_);refine bU (some 23) rfl rfl Tryz.func133 aq rfl #[.string (rq.extract 0 (sX:Int).toNat)] rfl cz ?_;(with_reducible refine (bF.calls k1 (rq.extract 0 (sX:Int).toNat) true _ ZQ.out).mono ?_);rintro e w' ⟨rfl,⟨nd,rfl⟩⟩;refine ⟨_,rfl,?_⟩))
       go_roundg k1
       case measure=>have:=p9.out;omega
       case rel=>exact ⟨(rq.extract ((ji5):Int).toNat rq.size),(wrap64 (kE + 1)),Ja,b9,H',⟨je⟩,dJ⟩
      ·replace c12:=Bool.eq_false_iff.mpr c12
       subst c12
       rw [if_neg (show ¬ (false=true) by decide)] at H
       obtain rfl:=Option.some.inj H
       go_wp2_with (first|((with_reducible refine aK (f:=74) rfl ?_);refine bU (some 9) rfl rfl Tryz.func74 aq rfl #[.string rq,.string (⟨#[58]⟩:ByteArray)] rfl cz ?_;(with_reducible refine (strings_Index.calls rq (⟨#[58]⟩:ByteArray) sX _ ?aT A3.out).mono ?_);(case aT=>repeat (first|exact HG.out|apply aJ.drewN|apply aJ.drew));rintro e w' ⟨rfl,⟨nd,rfl⟩⟩;refine ⟨_,rfl,?_⟩)|((with_reducible refine aK (f:=133) rfl ?_);refine bU (some 23) rfl rfl Tryz.func133 aq rfl #[.string (rq.extract 0 (sX:Int).toNat)] rfl cz ?_;(with_reducible refine (bF.calls k1 (rq.extract 0 (sX:Int).toNat) false _ ZQ.out).mono ?_);rintro e w' ⟨rfl,⟨nd,rfl⟩⟩;refine ⟨_,rfl,?_⟩))
       go_ret
       exact ⟨Ja,dJ⟩
    ·rw [if_neg c4] at H
     have nB:decide (0≤sX)=false:=decide_eq_false c4
     clear c4
     obtain ⟨adP,A13,H⟩:=bd_ H
     by_cases c14:adP=true
     ·subst c14
      rw [if_pos rfl] at H
      have H':=aa.mk H
      clear H
      go_wp2_with (first|((with_reducible refine aK (f:=74) rfl ?_);refine bU (some 9) rfl rfl Tryz.func74 aq rfl #[.string rq,.string (⟨#[58]⟩:ByteArray)] rfl cz ?_;(with_reducible refine (strings_Index.calls rq (⟨#[58]⟩:ByteArray) sX _ ?aT A3.out).mono ?_);(case aT=>repeat (first|exact HG.out|apply aJ.drewN|apply aJ.drew));rintro e w' ⟨rfl,⟨nd,rfl⟩⟩;refine ⟨_,rfl,?_⟩)|((with_reducible refine aK (f:=133) rfl ?_);refine bU (some 23) rfl rfl Tryz.func133 aq rfl #[.string rq] rfl cz ?_;(with_reducible refine (bF.calls k1 rq true _ A13.out).mono ?_);rintro e w' ⟨rfl,⟨nd,rfl⟩⟩;refine ⟨_,rfl,?_⟩))
      go_roundg k1
      case measure=>have:=p9.out;omega
      case rel=>exact ⟨((⟨#[]⟩:ByteArray)),(wrap64 (kE + 1)),b9,b9,H',⟨je⟩,dJ⟩
     ·replace c14:=Bool.eq_false_iff.mpr c14
      subst c14
      rw [if_neg (show ¬ (false=true) by decide)] at H
      obtain rfl:=Option.some.inj H
      go_wp2_with (first|((with_reducible refine aK (f:=74) rfl ?_);refine bU (some 9) rfl rfl Tryz.func74 aq rfl #[.string rq,.string (⟨#[58]⟩:ByteArray)] rfl cz ?_;(with_reducible refine (strings_Index.calls rq (⟨#[58]⟩:ByteArray) sX _ ?aT A3.out).mono ?_);(case aT=>repeat (first|exact HG.out|apply aJ.drewN|apply aJ.drew));rintro e w' ⟨rfl,⟨nd,rfl⟩⟩;refine ⟨_,rfl,?_⟩)|((with_reducible refine aK (f:=133) rfl ?_);refine bU (some 23) rfl rfl Tryz.func133 aq rfl #[.string rq] rfl cz ?_;(with_reducible refine (bF.calls k1 rq false _ A13.out).mono ?_);rintro e w' ⟨rfl,⟨nd,rfl⟩⟩;refine ⟨_,rfl,?_⟩))
      go_ret
      exact ⟨b9,dJ⟩
end Go.Proofs.YtokpnfljjjjikaaGreatDoor.mY
namespace Go.Proofs.YtokpnfljjjjikaaGreatDoor.mY
open Go.RowKit Go.Proofs.YtokpnfljjjjikaaGreatDoor.qP Go.Proofs.aj.bO Go.Proofs.aj.fA Go.Proofs.aj.cK
attribute [local go_sem] ia ig iU iV gf gh ij iq
set_option linter.unusedVariables false
set_option linter.unusedSimpArgs false
def fq.f (a0:Int):Option (Bool):=if a0≥48 then (if a0≤57 then (some true) else (if a0≥65 then (if a0≤90 then (some true) else (if a0≥97 then (some (decide (a0≤122))) else (some false))) else (if a0≥97 then (some (decide (a0≤122))) else (some false)))) else (if a0≥65 then (if a0≤90 then (some true) else (if a0≥97 then (some (decide (a0≤122))) else (some false))) else (if a0≥97 then (some (decide (a0≤122))) else (some false)))
theorem fq.calls (a0:Int) (r:Bool) (w:World) (h:fq.f a0=some r):
 Calls Tryz.prog 127 #[.int .u8 a0] w fun e w'=>e= .returned (.bool r)∧iC w w':=by
 have H:(if a0≥48 then (if a0≤57 then (some true) else (if a0≥65 then (if a0≤90 then (some true) else (if a0≥97 then (some (decide (a0≤122))) else (some false))) else (if a0≥97 then (some (decide (a0≤122))) else (some false)))) else (if a0≥65 then (if a0≤90 then (some true) else (if a0≥97 then (some (decide (a0≤122))) else (some false))) else (if a0≥97 then (some (decide (a0≤122))) else (some false))))=some r:=h
 clear h
 by_cases c2:a0≥48
 ·rw [if_pos c2] at H
  have sP:decide (48≤a0)=true:=decide_eq_true c2
  clear c2
  by_cases c3:a0≤57
  ·rw [if_pos c3] at H
   have mg:=decide_eq_true c3
   clear c3
   obtain rfl:=Option.some.inj H
   go_enter Tryz.func127,Tryz.ntmps127
   go_wp2
   go_ret
   exact ⟨b9,dJ⟩
  ·rw [if_neg c3] at H
   have mg:=decide_eq_false c3
   clear c3
   by_cases c4:a0≥65
   ·rw [if_pos c4] at H
    have nB:decide (65≤a0)=true:=decide_eq_true c4
    clear c4
    by_cases c5:a0≤90
    ·rw [if_pos c5] at H
     have lF:=decide_eq_true c5
     clear c5
     obtain rfl:=Option.some.inj H
     go_enter Tryz.func127,Tryz.ntmps127
     go_wp2
     go_ret
     exact ⟨b9,dJ⟩
    ·rw [if_neg c5] at H
     have lF:=decide_eq_false c5
     clear c5
     by_cases c6:a0≥97
     ·rw [if_pos c6] at H
      have nL:decide (97≤a0)=true:=decide_eq_true c6
      clear c6
      obtain rfl:=Option.some.inj H
      go_enter Tryz.func127,Tryz.ntmps127
      go_wp2
      go_ret
      exact ⟨b9,dJ⟩
     ·rw [if_neg c6] at H
      have nL:decide (97≤a0)=false:=decide_eq_false c6
      clear c6
      obtain rfl:=Option.some.inj H
      go_enter Tryz.func127,Tryz.ntmps127
      go_wp2
      go_ret
      exact ⟨b9,dJ⟩
   ·rw [if_neg c4] at H
    have nB:decide (65≤a0)=false:=decide_eq_false c4
    clear c4
    by_cases c7:a0≥97
    ·rw [if_pos c7] at H
     have TA:decide (97≤a0)=true:=decide_eq_true c7
     clear c7
     obtain rfl:=Option.some.inj H
     go_enter Tryz.func127,Tryz.ntmps127
     go_wp2
     go_ret
     exact ⟨b9,dJ⟩
    ·rw [if_neg c7] at H
     have TA:decide (97≤a0)=false:=decide_eq_false c7
     clear c7
     obtain rfl:=Option.some.inj H
     go_enter Tryz.func127,Tryz.ntmps127
     go_wp2
     go_ret
     exact ⟨b9,dJ⟩
 ·rw [if_neg c2] at H
  have sP:decide (48≤a0)=false:=decide_eq_false c2
  clear c2
  by_cases c8:a0≥65
  ·rw [if_pos c8] at H
   have rK:decide (65≤a0)=true:=decide_eq_true c8
   clear c8
   by_cases c9:a0≤90
   ·rw [if_pos c9] at H
    have Cg:=decide_eq_true c9
    clear c9
    obtain rfl:=Option.some.inj H
    go_enter Tryz.func127,Tryz.ntmps127
    go_wp2
    go_ret
    exact ⟨b9,dJ⟩
   ·rw [if_neg c9] at H
    have Cg:=decide_eq_false c9
    clear c9
    by_cases c10:a0≥97
    ·rw [if_pos c10] at H
     have pR:decide (97≤a0)=true:=decide_eq_true c10
     clear c10
     obtain rfl:=Option.some.inj H
     go_enter Tryz.func127,Tryz.ntmps127
     go_wp2
     go_ret
     exact ⟨b9,dJ⟩
    ·rw [if_neg c10] at H
     have pR:decide (97≤a0)=false:=decide_eq_false c10
     clear c10
     obtain rfl:=Option.some.inj H
     go_enter Tryz.func127,Tryz.ntmps127
     go_wp2
     go_ret
     exact ⟨b9,dJ⟩
  ·rw [if_neg c8] at H
   have rK:decide (65≤a0)=false:=decide_eq_false c8
   clear c8
   by_cases c11:a0≥97
   ·rw [if_pos c11] at H
    have oC:decide (97≤a0)=true:=decide_eq_true c11
    clear c11
    obtain rfl:=Option.some.inj H
    go_enter Tryz.func127,Tryz.ntmps127
    go_wp2
    go_ret
    exact ⟨b9,dJ⟩
   ·rw [if_neg c11] at H
    have oC:decide (97≤a0)=false:=decide_eq_false c11
    clear c11
    obtain rfl:=Option.some.inj H
    go_enter Tryz.func127,Tryz.ntmps127
    go_wp2
    go_ret
    exact ⟨b9,dJ⟩
mutual
def aQ.l0:Nat→List ByteArray→Int→Option (Bool)
 | 0,_,_ =>none
 |k + 1,x3,x4=>if x4 < (x3.length:Int) then (if 0≤x4 then (if (cV ByteArray.empty x3 x4).toList=([]:List UInt8) then (aQ.j1 k x3 x4 (cV ByteArray.empty x3 x4) true) else (if 0 < ((cV ByteArray.empty x3 x4).size:Int) then (if (bt (cV ByteArray.empty x3 x4) 0)=45 then (aQ.j1 k x3 x4 (cV ByteArray.empty x3 x4) true) else (if 0≤(wrap64 (((cV ByteArray.empty x3 x4).size:Int) - 1)) then (if (wrap64 (((cV ByteArray.empty x3 x4).size:Int) - 1)) < ((cV ByteArray.empty x3 x4).size:Int) then (aQ.j1 k x3 x4 (cV ByteArray.empty x3 x4) ((bt (cV ByteArray.empty x3 x4) (wrap64 (((cV ByteArray.empty x3 x4).size:Int) - 1))) == 45)) else (none)) else (none))) else (none))) else (none)) else (some true)
def aQ.j1:Nat→List ByteArray→Int→ByteArray→Bool→Option (Bool)
 | 0,_,_,_,_ =>none
 |k + 1,x3,x4,x5,x33=>if x33=true then (some false) else (aQ.l1 k x3 x4 x5 0)
def aQ.l1:Nat→List ByteArray→Int→ByteArray→Int→Option (Bool)
 | 0,_,_,_,_ =>none
 |k + 1,x3,x4,x5,x6=>if x6 < (x5.size:Int) then (if 0≤x6 then ((fq.f (bt x5 x6)).bind fun adZ=>(if adZ=true then (aQ.l1 k x3 x4 x5 (wrap64 (x6 + 1))) else (if (bt x5 x6)=45 then (aQ.l1 k x3 x4 x5 (wrap64 (x6 + 1))) else (some false)))) else (none)) else (aQ.l0 k x3 (wrap64 (x4 + 1)))
end
def aQ.f (k:Nat) (a0:ByteArray):Option (Bool):=(strings_Split.f a0 (⟨#[46]⟩:ByteArray)).bind fun jT=>(aQ.l0 k jT 0)
theorem aQ.dF:∀ k,(∀ y0 y1,bL (aQ.l0 k y0 y1) (aQ.l0 (k + 1) y0 y1))∧(∀ y0 y1 y2 y3,bL (aQ.j1 k y0 y1 y2 y3) (aQ.j1 (k + 1) y0 y1 y2 y3))∧(∀ y0 y1 y2 y3,bL (aQ.l1 k y0 y1 y2 y3) (aQ.l1 (k + 1) y0 y1 y2 y3))
 | 0=>⟨fun _ _ r h=>by simp [aQ.l0] at h,fun _ _ _ _ r h=>by simp [aQ.j1] at h,fun _ _ _ _ r h=>by simp [aQ.l1] at h⟩
 |k + 1=>by
  obtain ⟨fV,ih1,ih2⟩:=aQ.dF k
  refine ⟨?_,?_,?_⟩
  ·intro y0 y1
   unfold aQ.l0
   repeat' first
   |(with_reducible first|exact fV _ _|exact ih1 _ _ _ _|exact ih2 _ _ _ _|exact bL.refl _|exact bL.none _|refine bL.ite ?_ ?_|refine bL.bind ?_ (fun _ =>?_))
   |exact fV _ _
   |exact ih1 _ _ _ _
   |exact ih2 _ _ _ _
   |exact bL.none _
   |refine bL.ite ?_ ?_
   |refine bL.bind ?_ (fun _ =>?_)
  ·intro y0 y1 y2 y3
   unfold aQ.j1
   repeat' first
   |(with_reducible first|exact fV _ _|exact ih1 _ _ _ _|exact ih2 _ _ _ _|exact bL.refl _|exact bL.none _|refine bL.ite ?_ ?_|refine bL.bind ?_ (fun _ =>?_))
   |exact fV _ _
   |exact ih1 _ _ _ _
   |exact ih2 _ _ _ _
   |exact bL.none _
   |refine bL.ite ?_ ?_
   |refine bL.bind ?_ (fun _ =>?_)
  ·intro y0 y1 y2 y3
   unfold aQ.l1
   repeat' first
   |(with_reducible first|exact fV _ _|exact ih1 _ _ _ _|exact ih2 _ _ _ _|exact bL.refl _|exact bL.none _|refine bL.ite ?_ ?_|refine bL.bind ?_ (fun _ =>?_))
   |exact fV _ _
   |exact ih1 _ _ _ _
   |exact ih2 _ _ _ _
   |exact bL.none _
   |refine bL.ite ?_ ?_
   |refine bL.bind ?_ (fun _ =>?_)
theorem aQ.mono:∀ a0 k,bL (aQ.f k a0) (aQ.f (k + 1) a0):=by
 intro a0 k
 obtain ⟨fV,ih1,ih2⟩:=aQ.dF k
 unfold aQ.f
 repeat' first
  |(with_reducible first|exact fV _ _|exact ih1 _ _ _ _|exact ih2 _ _ _ _|exact bL.refl _|exact bL.none _|refine bL.ite ?_ ?_|refine bL.bind ?_ (fun _ =>?_))
  |exact fV _ _
  |exact ih1 _ _ _ _
  |exact ih2 _ _ _ _
  |exact bL.none _
  |refine bL.ite ?_ ?_
  |refine bL.bind ?_ (fun _ =>?_)
theorem aQ.calls (k:Nat) (a0:ByteArray) (r:Bool) (w:World) (hG:aJ w) (h:aQ.f k a0=some r):
 Calls Tryz.prog 76 #[.string a0] w fun e w'=>e= .returned (.bool r)∧Below w.heap.size w w':=by
 have HB:=aa.mk (Below.refl w.heap.size w)
 have HG:=aa.mk hG
 clear hG
 have H:((strings_Split.f a0 (⟨#[46]⟩:ByteArray)).bind fun jT=>(aQ.l0 k jT 0))=some r:=h
 clear h
 obtain ⟨jT,A2,H⟩:=bd_ H
 have H':=aa.mk H
 clear H
 go_enter Tryz.func76,Tryz.ntmps76
 go_wp2_with (first|((with_reducible refine aK (f:=75) rfl ?_);refine bU (some 8) rfl rfl Tryz.func75 aq rfl #[.string a0,.string (⟨#[46]⟩:ByteArray)] rfl cz ?_;(with_reducible refine (strings_Split.calls a0 (⟨#[46]⟩:ByteArray) jT _ ?aT A2.out).mono ?_);(case aT=>exact aJ.below HG.out bG);rintro e w3 ⟨apN,rfl,ho0,hb⟩;refine ⟨_,rfl,?_⟩;have agT:=aa.mk (Kd.kD ho0 (dm bG));replace HB:=aa.mk (aA bG hb);(try clear hb);(try clear ho0)))
 go_loopg [4] k (fun kq v4 w'=>∃ (cJ:Int),v4= .int .i64 cJ∧aa (aQ.l0 kq jT cJ=some r)∧aa (kq≤k)∧aa (Kd.R Kd.string 9 w' w.heap.size (fun _ =>True) apN jT)∧aa (Below w.heap.size w w'))
 case atStart=>exact ⟨(0),b9,H',⟨Nat.le_refl _⟩,⟨by (with_reducible repeat (first|apply Kd.dQ|apply Kd.dR|apply Kd.dV));exact agT.out⟩,⟨bG⟩⟩
 case round=>
  clear H'
  obtain ⟨cJ,rfl,HA,p9,wB,HB⟩:=hrel
  cases gk with
  |zero=>exact absurd HA.out (by simp [aQ.l0])
  |succ k1=>
   have H:=HA.out
   clear HA
   simp only [aQ.l0] at H
   by_cases c4:cJ < (jT.length:Int)
   ·rw [if_pos c4] at H
    have nB:=decide_eq_true c4
    clear c4
    obtain ⟨c5,H⟩:=iA H
    have lF:=decide_eq_true c5
    clear c5
    have HC6:=aa.mk H
    clear H
    obtain ⟨Ao7,co7,eo7⟩:=Kd.gQ wB.out
    subst eo7
    have ad0: 0≤(cJ:Int):=of_decide_eq_true bp
    have ad1:cJ < (jT.length:Int):=of_decide_eq_true bp
    obtain ⟨acf,apQ,al6⟩:=Kd.cY (Kd.cP wB.out).2.2 cJ ad0 ad1
    cases apQ
    replace ad0:=eq_true ad0
    replace ad1:=eq_true ad1
    go_upto_region 6 with (fail)
    go_cut [33] (fun v33 wc=>∃ (kq:Nat) (Sz:Bool),v33= .bool Sz∧aa (aQ.j1 kq jT cJ (cV ByteArray.empty jT cJ) Sz=some r)∧aa (kq≤k1)∧aa (Kd.R Kd.string 9 wc w.heap.size (fun _ =>True) (.slice (some acf) jT.length co7) jT)∧aa (Below w.heap.size w wc))
    case first=>
     have H:=HC6.out
     clear HC6
     by_cases c8:(cV ByteArray.empty jT cJ).toList=([]:List UInt8)
     ·rw [if_pos c8] at H
      have rK:=beq_iff_eq.mpr c8
      have Fg:=bne_eq_false_iff_eq.mpr c8
      clear c8
      (first|rw [rK]|(simp only [cU,dh];rw [rK])|skip)
      have H':=aa.mk H
      clear H
      go_wp2
      go_meet
      case rel=>exact ⟨_,(true),b9,H',⟨Ar⟩,⟨sF⟩,⟨bG⟩⟩
     ·rw [if_neg c8] at H
      have rK:=beq_eq_false_iff_ne.mpr c8
      have Fg:=bne_iff_ne.mpr c8
      (first|rw [rK]|(simp only [cU,dh];rw [rK])|skip)
      obtain ⟨c9,H⟩:=iA H
      have Cg:=decide_eq_true c9
      have TB:decide (0 < (cV ByteArray.empty jT cJ).size)=true:=decide_eq_true ak
      clear c9
      by_cases c11:(bt (cV ByteArray.empty jT cJ) 0)=45
      ·rw [if_pos c11] at H
       have oC:=beq_iff_eq.mpr c11
       have wM:=bne_eq_false_iff_eq.mpr c11
       clear c11
       have H':=aa.mk H
       clear H
       have Ow: 0≤(0:Int):=ak
       have Mf: 0 < (cV ByteArray.empty jT cJ).size:=(by have:(0:Int) < ((cV ByteArray.empty jT cJ).size:Int):=of_decide_eq_true bp;omega)
       have Wb:∀ h: 0 < (cV ByteArray.empty jT cJ).size,(((cV ByteArray.empty jT cJ)[0]'h).toNat:Int)=bt (cV ByteArray.empty jT cJ) 0:=dA (cV ByteArray.empty jT cJ) 0
       clear Ow
       have apR:(0 < ((cV ByteArray.empty jT cJ).size:Int))=True:=eq_true (of_decide_eq_true bp)
       replace Mf:=eq_true Mf
       go_wp2
       go_meet
       case rel=>exact ⟨_,(true),b9,H',⟨Ar⟩,⟨sF⟩,⟨bG⟩⟩
      ·rw [if_neg c11] at H
       have oC:=beq_eq_false_iff_ne.mpr c11
       have wM:=bne_iff_ne.mpr c11
       obtain ⟨WN,SA⟩:∃ j_:Int,(wrap64 (((cV ByteArray.empty jT cJ).size:Int) - 1))=j_ :=⟨_,rfl⟩
       (first|rw [SA] at H|simp only [SA] at H)
       have apS:(IntKind.i64.wrap (((cV ByteArray.empty jT cJ).size:Int) - 1))=WN:=(cU _).trans SA
       obtain ⟨c13,H⟩:=iA H
       have vW:=decide_eq_true c13
       clear c13
       obtain ⟨c14,H⟩:=iA H
       have CT:=decide_eq_true c14
       clear c14
       have H':=aa.mk H
       clear H
       have Ow: 0≤(0:Int):=ak
       have Mf: 0 < (cV ByteArray.empty jT cJ).size:=(by have:(0:Int) < ((cV ByteArray.empty jT cJ).size:Int):=of_decide_eq_true bp;omega)
       have Wb:∀ h: 0 < (cV ByteArray.empty jT cJ).size,(((cV ByteArray.empty jT cJ)[0]'h).toNat:Int)=bt (cV ByteArray.empty jT cJ) 0:=dA (cV ByteArray.empty jT cJ) 0
       clear Ow
       have apR:(0 < ((cV ByteArray.empty jT cJ).size:Int))=True:=eq_true (of_decide_eq_true bp)
       replace Mf:=eq_true Mf
       have p15: 0≤((WN):Int):=of_decide_eq_true bp
       have q15:(WN) < ((cV ByteArray.empty jT cJ).size:Int):=of_decide_eq_true bp
       have avZ:=dA (cV ByteArray.empty jT cJ) (WN)
       replace p15:=eq_true p15
       replace q15:=eq_true q15
       go_wp2
       go_meet
       case rel=>exact ⟨_,(((bt (cV ByteArray.empty jT cJ) (WN)) == 45)),(by first|rfl|(simp;done)|(simp only [← SA]<;>(first|rfl|simp))|(simp [*];done)),H',⟨Ar⟩,⟨sF⟩,⟨bG⟩⟩
    case rest=>
     clear HC6
     obtain ⟨kq,Sz,rfl,HA,YB,wB,HB⟩:=hcut
     cases kq with
     |zero=>exact absurd HA.out (by simp [aQ.j1])
     |succ kj5=>
      have H:=HA.out
      clear HA
      simp only [aQ.j1] at H
      by_cases c16:Sz=true
      ·subst c16
       rw [if_pos rfl] at H
       obtain rfl:=Option.some.inj H
       go_wp2
       go_ret
       exact ⟨cH,bG⟩
      ·replace c16:=Bool.eq_false_iff.mpr c16
       subst c16
       rw [if_neg (show ¬ (false=true) by decide)] at H
       have H':=aa.mk H
       clear H
       go_wp2
       go_loopg [6] kj5 (fun kq v6 w'=>∃ (pZ:Int),v6= .int .i64 pZ∧aa (aQ.l1 kq jT cJ (cV ByteArray.empty jT cJ) pZ=some r)∧aa (kq≤kj5)∧aa (Kd.R Kd.string 9 w' w.heap.size (fun _ =>True) (.slice (some acf) jT.length co7) jT)∧aa (Below w.heap.size w w'))
       case atStart=>exact ⟨(0),b9,H',⟨Nat.le_refl _⟩,⟨sF⟩,⟨bG⟩⟩
       case round=>
        clear H'
        obtain ⟨pZ,rfl,HA,YC,wB,HB⟩:=hrel
        cases gk with
        |zero=>exact absurd HA.out (by simp [aQ.l1])
        |succ k3=>
         have H:=HA.out
         clear HA
         simp only [aQ.l1] at H
         by_cases c17:pZ < ((cV ByteArray.empty jT cJ).size:Int)
         ·rw [if_pos c17] at H
          have wO:=decide_eq_true c17
          clear c17
          obtain ⟨c18,H⟩:=iA H
          have xd:=decide_eq_true c18
          clear c18
          obtain ⟨adZ,Yw,H⟩:=bd_ H
          by_cases c21:adZ=true
          ·subst c21
           rw [if_pos rfl] at H
           have H':=aa.mk H
           clear H
           have Yx: 0≤(pZ:Int):=of_decide_eq_true bp
           have WO:pZ < ((cV ByteArray.empty jT cJ).size:Int):=of_decide_eq_true bp
           have ad2:=dA (cV ByteArray.empty jT cJ) pZ
           replace Yx:=eq_true Yx
           replace WO:=eq_true WO
           go_wp2_with (first|((with_reducible refine aK (f:=127) rfl ?_);refine bU (some 43) rfl rfl Tryz.func127 aq rfl #[.int .u8 (bt (cV ByteArray.empty jT cJ) pZ)] rfl cz ?_;(with_reducible refine (fq.calls (bt (cV ByteArray.empty jT cJ) pZ) true _ Yw.out).mono ?_);rintro e w' ⟨rfl,⟨nd,rfl⟩⟩;refine ⟨_,rfl,?_⟩))
           go_roundg k3
           case measure=>have:=p9.out;have:=YB.out;have:=YC.out;omega
           case rel=>exact ⟨(wrap64 (pZ + 1)),b9,H',⟨Je⟩,⟨sF⟩,⟨bG⟩⟩
          ·replace c21:=Bool.eq_false_iff.mpr c21
           subst c21
           rw [if_neg (show ¬ (false=true) by decide)] at H
           by_cases BO:(bt (cV ByteArray.empty jT cJ) pZ)=45
           ·rw [if_pos BO] at H
            have wX:=beq_iff_eq.mpr BO
            have SB:=bne_eq_false_iff_eq.mpr BO
            clear BO
            have H':=aa.mk H
            clear H
            have Yx: 0≤(pZ:Int):=of_decide_eq_true bp
            have WO:pZ < ((cV ByteArray.empty jT cJ).size:Int):=of_decide_eq_true bp
            have ad2:=dA (cV ByteArray.empty jT cJ) pZ
            replace Yx:=eq_true Yx
            replace WO:=eq_true WO
            go_wp2_with (first|((with_reducible refine aK (f:=127) rfl ?_);refine bU (some 43) rfl rfl Tryz.func127 aq rfl #[.int .u8 (bt (cV ByteArray.empty jT cJ) pZ)] rfl cz ?_;(with_reducible refine (fq.calls (bt (cV ByteArray.empty jT cJ) pZ) false _ Yw.out).mono ?_);rintro e w' ⟨rfl,⟨nd,rfl⟩⟩;refine ⟨_,rfl,?_⟩;have WQ: 0≤(pZ:Int):=of_decide_eq_true bp;have WR:pZ < ((cV ByteArray.empty jT cJ).size:Int):=of_decide_eq_true bp;have ad3:=dA (cV ByteArray.empty jT cJ) pZ;replace WQ:=eq_true WQ;replace WR:=eq_true WR))
            go_roundg k3
            case measure=>have:=p9.out;have:=YB.out;have:=YC.out;omega
            case rel=>exact ⟨(wrap64 (pZ + 1)),b9,H',⟨Je⟩,⟨sF⟩,⟨bG⟩⟩
           ·rw [if_neg BO] at H
            have wX:=beq_eq_false_iff_ne.mpr BO
            have SB:=bne_iff_ne.mpr BO
            obtain rfl:=Option.some.inj H
            have Yx: 0≤(pZ:Int):=of_decide_eq_true bp
            have WO:pZ < ((cV ByteArray.empty jT cJ).size:Int):=of_decide_eq_true bp
            have ad2:=dA (cV ByteArray.empty jT cJ) pZ
            replace Yx:=eq_true Yx
            replace WO:=eq_true WO
            go_wp2_with (first|((with_reducible refine aK (f:=127) rfl ?_);refine bU (some 43) rfl rfl Tryz.func127 aq rfl #[.int .u8 (bt (cV ByteArray.empty jT cJ) pZ)] rfl cz ?_;(with_reducible refine (fq.calls (bt (cV ByteArray.empty jT cJ) pZ) false _ Yw.out).mono ?_);rintro e w' ⟨rfl,⟨nd,rfl⟩⟩;refine ⟨_,rfl,?_⟩;have WQ: 0≤(pZ:Int):=of_decide_eq_true bp;have WR:pZ < ((cV ByteArray.empty jT cJ).size:Int):=of_decide_eq_true bp;have ad3:=dA (cV ByteArray.empty jT cJ) pZ;replace WQ:=eq_true WQ;replace WR:=eq_true WR))
            go_ret
            exact ⟨cH,bG⟩
         ·rw [if_neg c17] at H
          have wO:=decide_eq_false c17
          clear c17
          have H':=aa.mk H
          clear H
          go_wp2
          go_roundg k3
          case measure=>have:=p9.out;have:=YB.out;have:=YC.out;omega
          case rel=>exact ⟨(wrap64 (cJ + 1)),b9,H',⟨Je⟩,⟨sF⟩,⟨bG⟩⟩
   ·rw [if_neg c4] at H
    have nB:=decide_eq_false c4
    clear c4
    obtain rfl:=Option.some.inj H
    obtain ⟨av0,av1,apT⟩:=Kd.gQ wB.out
    subst apT
    go_wp2
    go_ret
    exact ⟨cH,bG⟩
def bE.l0:Nat→ByteArray→List ByteArray→Int→Option (Bool)
 | 0,_,_,_ =>none
 |k + 1,x0,x3,x4=>if x4 < (x3.length:Int) then (if 0≤x4 then (if ((cV ByteArray.empty x3 x4).size:Int) > 63 then (some false) else (bE.l0 k x0 x3 (wrap64 (x4 + 1)))) else (none)) else (some (decide ((x0.size:Int)≤255)))
def bE.f (k:Nat) (a0:ByteArray):Option (Bool):=(strings_Split.f a0 (⟨#[46]⟩:ByteArray)).bind fun zJ=>(bE.l0 k a0 zJ 0)
theorem bE.dF:∀ k,(∀ y0 y1 y2,bL (bE.l0 k y0 y1 y2) (bE.l0 (k + 1) y0 y1 y2))
 | 0=>fun _ _ _ r h=>by simp [bE.l0] at h
 |k + 1=>by
  have fV:=bE.dF k
  ·intro y0 y1 y2
   unfold bE.l0
   repeat' first
   |(with_reducible first|exact fV _ _ _|exact bL.refl _|exact bL.none _|refine bL.ite ?_ ?_|refine bL.bind ?_ (fun _ =>?_))
   |exact fV _ _ _
   |exact bL.none _
   |refine bL.ite ?_ ?_
   |refine bL.bind ?_ (fun _ =>?_)
theorem bE.mono:∀ a0 k,bL (bE.f k a0) (bE.f (k + 1) a0):=by
 intro a0 k
 have fV:=bE.dF k
 unfold bE.f
 repeat' first
  |(with_reducible first|exact fV _ _ _|exact bL.refl _|exact bL.none _|refine bL.ite ?_ ?_|refine bL.bind ?_ (fun _ =>?_))
  |exact fV _ _ _
  |exact bL.none _
  |refine bL.ite ?_ ?_
  |refine bL.bind ?_ (fun _ =>?_)
theorem bE.calls (k:Nat) (a0:ByteArray) (r:Bool) (w:World) (hG:aJ w) (h:bE.f k a0=some r):
 Calls Tryz.prog 77 #[.string a0] w fun e w'=>e= .returned (.bool r)∧Below w.heap.size w w':=by
 have HB:=aa.mk (Below.refl w.heap.size w)
 have HG:=aa.mk hG
 clear hG
 have H:((strings_Split.f a0 (⟨#[46]⟩:ByteArray)).bind fun zJ=>(bE.l0 k a0 zJ 0))=some r:=h
 clear h
 obtain ⟨zJ,A2,H⟩:=bd_ H
 have H':=aa.mk H
 clear H
 go_enter Tryz.func77,Tryz.ntmps77
 go_wp2_with (first|((with_reducible refine aK (f:=75) rfl ?_);refine bU (some 6) rfl rfl Tryz.func75 aq rfl #[.string a0,.string (⟨#[46]⟩:ByteArray)] rfl cz ?_;(with_reducible refine (strings_Split.calls a0 (⟨#[46]⟩:ByteArray) zJ _ ?aT A2.out).mono ?_);(case aT=>exact aJ.below HG.out bG);rintro e w3 ⟨apU,rfl,ho0,hb⟩;refine ⟨_,rfl,?_⟩;have agU:=aa.mk (Kd.kD ho0 (dm bG));replace HB:=aa.mk (aA bG hb);(try clear hb);(try clear ho0)))
 go_loopg [4] k (fun kq v4 w'=>∃ (cJ:Int),v4= .int .i64 cJ∧aa (bE.l0 kq a0 zJ cJ=some r)∧aa (kq≤k)∧aa (Kd.R Kd.string 9 w' w.heap.size (fun _ =>True) apU zJ)∧aa (Below w.heap.size w w'))
 case atStart=>exact ⟨(0),b9,H',⟨Nat.le_refl _⟩,⟨by (with_reducible repeat (first|apply Kd.dQ|apply Kd.dR|apply Kd.dV));exact agU.out⟩,⟨bG⟩⟩
 case round=>
  clear H'
  obtain ⟨cJ,rfl,HA,p9,wB,HB⟩:=hrel
  cases gk with
  |zero=>exact absurd HA.out (by simp [bE.l0])
  |succ k1=>
   have H:=HA.out
   clear HA
   simp only [bE.l0] at H
   by_cases c4:cJ < (zJ.length:Int)
   ·rw [if_pos c4] at H
    have nB:=decide_eq_true c4
    clear c4
    obtain ⟨c5,H⟩:=iA H
    have lF:=decide_eq_true c5
    clear c5
    by_cases c6:((cV ByteArray.empty zJ cJ).size:Int) > 63
    ·rw [if_pos c6] at H
     have nL:decide (63 < ((cV ByteArray.empty zJ cJ).size:Int))=true:=decide_eq_true c6
     have wK:decide (63 < (cV ByteArray.empty zJ cJ).size)=true:=decide_eq_true ak
     clear c6
     obtain rfl:=Option.some.inj H
     obtain ⟨Ao7,co7,eo7⟩:=Kd.gQ wB.out
     subst eo7
     have OJ: 0≤(cJ:Int):=of_decide_eq_true bp
     have OL:cJ < (zJ.length:Int):=of_decide_eq_true bp
     obtain ⟨agV,ad4,aas⟩:=Kd.cY (Kd.cP wB.out).2.2 cJ OJ OL
     cases ad4
     replace OJ:=eq_true OJ
     replace OL:=eq_true OL
     go_wp2
     go_ret
     exact ⟨cH,bG⟩
    ·rw [if_neg c6] at H
     have nL:decide (63 < ((cV ByteArray.empty zJ cJ).size:Int))=false:=decide_eq_false c6
     have wK:decide (63 < (cV ByteArray.empty zJ cJ).size)=false:=decide_eq_false ak
     clear c6
     have H':=aa.mk H
     clear H
     obtain ⟨Ao8,co8,eo8⟩:=Kd.gQ wB.out
     subst eo8
     have OJ: 0≤(cJ:Int):=of_decide_eq_true bp
     have OL:cJ < (zJ.length:Int):=of_decide_eq_true bp
     obtain ⟨agV,ad4,aas⟩:=Kd.cY (Kd.cP wB.out).2.2 cJ OJ OL
     cases ad4
     replace OJ:=eq_true OJ
     replace OL:=eq_true OL
     go_wp2
     go_roundg k1
     case measure=>have:=p9.out;omega
     case rel=>exact ⟨(wrap64 (cJ + 1)),b9,H',⟨je⟩,⟨sF⟩,⟨bG⟩⟩
   ·rw [if_neg c4] at H
    have nB:=decide_eq_false c4
    clear c4
    obtain rfl:=Option.some.inj H
    obtain ⟨Ao9,co9,eo9⟩:=Kd.gQ wB.out
    subst eo9
    go_wp2
    go_ret
    exact ⟨cH,bG⟩
end Go.Proofs.YtokpnfljjjjikaaGreatDoor.mY
