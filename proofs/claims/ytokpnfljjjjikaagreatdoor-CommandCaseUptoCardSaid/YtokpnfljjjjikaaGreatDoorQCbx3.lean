import Derived.Test.YtokpnfljjjjikaaGreatDoorQCbx0
import Derived.Test.YtokpnfljjjjikaaGreatDoorEStr
set_option maxHeartbeats 8000000
set_option maxRecDepth 100000
namespace Go.Proofs.YtokpnfljjjjikaaGreatDoor.n9
open Go.RowKit Go.Proofs.aj.bQ Go.Proofs.aj.gf Go.Proofs.aj.cT
attribute [local go_sem] jt iY kQ kJ iJ iK ju jv
set_option linter.unusedVariables false
set_option linter.unusedSimpArgs false
def kr.f (a0:ByteArray):Option (Bool):=some (decide ((a0.size:Int) > 63))
theorem kr.calls (a0:ByteArray) (r:Bool) (w:World) (h:kr.f a0=some r):
 Calls Tryz.prog 118 #[.string a0] w fun e w'=>e= .returned (.bool r)∧kA w w':=by
 have H:(some (decide ((a0.size:Int) > 63)))=some r:=h
 clear h
 obtain rfl:=Option.some.inj H
 go_enter Tryz.func118,Tryz.ntmps118
 go_wp2
 go_ret
 exact ⟨dL,kN⟩
def aB.l0:Nat→List ByteArray→Int→Int→Option (Int)
 | 0,_,_,_ =>none
 |k + 1,x0,x7,x8=>if x8 < x7 then (if 0≤x8 then (if x8 < (x0.length:Int) then ((kr.f (kG ByteArray.empty x0 x8)).bind fun t102=>(if t102=true then (some x8) else (aB.l0 k x0 x7 (wrap64 (x8 + 1))))) else (none)) else (none)) else (some (-1))
def aB.f (k:Nat) (l0:List ByteArray):Option (Int):=aB.l0 k l0 (l0.length:Int) 0
theorem aB.fU:∀ k,(∀ y0 y1 y2,cN (aB.l0 k y0 y1 y2) (aB.l0 (k + 1) y0 y1 y2))
 | 0=>fun _ _ _ r h=>by simp [aB.l0] at h
 |k + 1=>by
  have oK:=aB.fU k
  ·intro y0 y1 y2
   unfold aB.l0
   repeat' first
   |(with_reducible exact oK _ _ _)
   |(with_reducible exact cN.refl _)
   |(with_reducible exact cN.none _)
   |(with_reducible refine cN.ite ?_ ?_)
   |(with_reducible refine cN.bind ?_ (fun _ =>?_))
   |refine cN.ite ?_ ?_
   |refine cN.bind ?_ (fun _ =>?_)
theorem aB.mono:∀ a0 k,cN (aB.f k a0) (aB.f (k + 1) a0):=by
 intro a0 k
 have oK:=aB.fU k
 unfold aB.f
 repeat' first
  |(with_reducible exact oK _ _ _)
  |(with_reducible exact cN.refl _)
  |(with_reducible exact cN.none _)
  |(with_reducible refine cN.ite ?_ ?_)
  |(with_reducible refine cN.bind ?_ (fun _ =>?_))
  |refine cN.ite ?_ ?_
  |refine cN.bind ?_ (fun _ =>?_)
theorem aB.calls (k:Nat) (A0:Option Addr) (c0:Nat) (l0:List ByteArray) (r:Int) (w:World) (Bk:Kd.C Kd.string w A0 l0.length l0) (hc0:l0.length≤c0) (h:aB.f k l0=some r):
 Calls Tryz.prog 117 #[.slice A0 l0.length c0,.func (.func 118) #[] #[]] w fun e w'=>e= .returned (.int .i64 r)∧kA w w':=by
 have yI:=ah.mk Bk
 have S3:=ah.mk hc0
 clear Bk hc0
 have H:(aB.l0 k l0 (l0.length:Int) 0)=some r:=h
 clear h
 have H':=ah.mk H
 clear H
 go_enter Tryz.func117,Tryz.ntmps117
 go_wp2
 go_loopg [8] k (fun kq v8 w'=>∃ (eW:Int),v8= .int .i64 eW∧ah (aB.l0 kq l0 (l0.length:Int) eW=some r)∧ah (kq≤k)∧kA w w')
 case atStart=>exact ⟨(0),dL,H',⟨Nat.le_refl _⟩,kN⟩
 case round=>
  clear H'
  try clear c1
  try clear p2
  obtain ⟨eW,rfl,HA,wS,⟨m1,rfl⟩⟩:=hrel
  cases gk with
  |zero=>exact absurd HA.out (by simp [aB.l0])
  |succ k1=>
   have H:=HA.out
   clear HA
   simp only [aB.l0] at H
   by_cases c3:eW < (l0.length:Int)
   ·rw [if_pos c3] at H
    have rD:decide (eW < (l0.length:Int))=true:=decide_eq_true c3
    clear c3
    by_cases c4: 0≤eW
    ·rw [if_pos c4] at H
     have nP:decide (0≤eW)=true:=decide_eq_true c4
     clear c4
     by_cases c5:eW < (l0.length:Int)
     ·rw [if_pos c5] at H
      have vZ:decide (eW < (l0.length:Int))=true:=decide_eq_true c5
      clear c5
      replace H:=Option.bind_eq_some_iff.mp H
      obtain ⟨t102,yF,H⟩:=H
      replace H:(if t102=true then (some eW) else (aB.l0 k1 l0 (l0.length:Int) (wrap64 (eW + 1))))=some r:=H
      have A6:=ah.mk yF
      clear yF
      by_cases c7:t102=true
      ·subst c7
       have H1:(some eW)=some r:=by rw [if_pos rfl] at H;exact H
       clear H
       have H:=H1
       clear H1
       obtain rfl:=Option.some.inj H
       have P6: 0≤(eW:Int):=of_decide_eq_true cO
       have P7:eW < (l0.length:Int):=of_decide_eq_true cO
       obtain ⟨afz,adf,Z9⟩:=Kd.jB yI.out eW P6 P7
       cases adf
       replace P6:=eq_true P6
       replace P7:=eq_true P7
       go_wp2_with (first|(go_at_call 118;(with_reducible refine (kr.calls (kG ByteArray.empty l0 eW) true _ A6.out).mono ?_);rintro e w' ⟨rfl,⟨nd,rfl⟩⟩))
       go_ret
       exact ⟨dL,kN⟩
      ·replace c7:=Bool.eq_false_iff.mpr c7
       subst c7
       have H1:(aB.l0 k1 l0 (l0.length:Int) (wrap64 (eW + 1)))=some r:=by rw [if_neg (show ¬ (false=true) by decide)] at H;exact H
       clear H
       have H:=H1
       clear H1
       have H':=ah.mk H
       clear H
       have P6: 0≤(eW:Int):=of_decide_eq_true cO
       have P7:eW < (l0.length:Int):=of_decide_eq_true cO
       obtain ⟨afz,adf,Z9⟩:=Kd.jB yI.out eW P6 P7
       cases adf
       replace P6:=eq_true P6
       replace P7:=eq_true P7
       go_wp2_with (first|(go_at_call 118;(with_reducible refine (kr.calls (kG ByteArray.empty l0 eW) false _ A6.out).mono ?_);rintro e w' ⟨rfl,⟨nd,rfl⟩⟩))
       go_roundg k1
       case measure=>have:=wS.out;omega
       case rel=>exact ⟨(wrap64 (eW + 1)),dL,H',⟨ko⟩,kN⟩
     ·rw [if_neg c5] at H
      exact absurd H bf
    ·rw [if_neg c4] at H
     exact absurd H bf
   ·rw [if_neg c3] at H
    have rD:decide (eW < (l0.length:Int))=false:=decide_eq_false c3
    clear c3
    obtain rfl:=Option.some.inj H
    go_wp2
    go_ret
    exact ⟨dL,kN⟩
def bM.f (k:Nat) (l0:List ByteArray):Option (Bool):=(aB.f k l0).bind fun t103=>(some (decide (t103≥0)))
theorem bM.mono:∀ a0 k,cN (bM.f k a0) (bM.f (k + 1) a0):=by
 intro a0 k
 unfold bM.f
 repeat' first
  |(with_reducible exact aB.mono _ _)
  |(with_reducible exact cN.refl _)
  |(with_reducible exact cN.none _)
  |(with_reducible refine cN.ite ?_ ?_)
  |(with_reducible refine cN.bind ?_ (fun _ =>?_))
  |refine cN.ite ?_ ?_
  |refine cN.bind ?_ (fun _ =>?_)
theorem bM.calls (k:Nat) (A0:Option Addr) (c0:Nat) (l0:List ByteArray) (r:Bool) (w:World) (Bk:Kd.C Kd.string w A0 l0.length l0) (hc0:l0.length≤c0) (h:bM.f k l0=some r):
 Calls Tryz.prog 59 #[.slice A0 l0.length c0,.func (.func 118) #[] #[]] w fun e w'=>e= .returned (.bool r)∧kA w w':=by
 have yI:=ah.mk Bk
 have S3:=ah.mk hc0
 clear Bk hc0
 have H:((aB.f k l0).bind fun t103=>(some (decide (t103≥0))))=some r:=h
 clear h
 replace H:=Option.bind_eq_some_iff.mp H
 obtain ⟨t103,zb,H⟩:=H
 replace H:(some (decide (t103≥0)))=some r:=H
 have A3:=ah.mk zb
 clear zb
 obtain rfl:=Option.some.inj H
 go_enter Tryz.func59,Tryz.ntmps59
 go_wp2_with (first|((with_reducible refine aT (f:=117) rfl ?_);refine cC (some 7) rfl rfl Tryz.func117 av rfl #[.slice A0 l0.length c0,.func (.func 118) #[] #[]] rfl cY ?_;(with_reducible refine (aB.calls k _ _ l0 t103 _ ?bg ?bY A3.out).mono ?_);(case bg=>repeat (first|exact yI.out|(with_reducible refine Kd.dZ ?_ _)|(with_reducible refine Kd.eo ?_ _)|(with_reducible refine Kd.eZ ?_)));(case bY=>exact S3.out);rintro e w' ⟨rfl,⟨nd,rfl⟩⟩;refine ⟨_,rfl,?_⟩))
 go_ret
 exact ⟨dL,kN⟩
def eX.f (k:Nat) (a0:ByteArray):Option (Bool):=if (a0.size:Int)≤255 then ((strings_Split.f a0 (⟨#[46]⟩:ByteArray)).bind fun t104=>((bM.f k t104).bind fun t107=>(some (!t107)))) else (some false)
theorem eX.mono:∀ a0 k,cN (eX.f k a0) (eX.f (k + 1) a0):=by
 intro a0 k
 unfold eX.f
 repeat' first
  |(with_reducible exact bM.mono _ _)
  |(with_reducible exact cN.refl _)
  |(with_reducible exact cN.none _)
  |(with_reducible refine cN.ite ?_ ?_)
  |(with_reducible refine cN.bind ?_ (fun _ =>?_))
  |refine cN.ite ?_ ?_
  |refine cN.bind ?_ (fun _ =>?_)
theorem eX.calls (k:Nat) (a0:ByteArray) (r:Bool) (w:World) (hG:aW w) (h:eX.f k a0=some r):
 Calls Tryz.prog 61 #[.string a0] w fun e w'=>e= .returned (.bool r)∧Below w.heap.size w w':=by
 have HB:=ah.mk (Below.refl w.heap.size w)
 have HG:=ah.mk hG
 clear hG
 have H:(if (a0.size:Int)≤255 then ((strings_Split.f a0 (⟨#[46]⟩:ByteArray)).bind fun t104=>((bM.f k t104).bind fun t107=>(some (!t107)))) else (some false))=some r:=h
 clear h
 by_cases c2:(a0.size:Int)≤255
 ·rw [if_pos c2] at H
  have Dw:decide ((a0.size:Int)≤255)=true:=decide_eq_true c2
  have P8:decide (a0.size≤255)=true:=decide_eq_true aq
  clear c2
  replace H:=Option.bind_eq_some_iff.mp H
  obtain ⟨t104,zb,H⟩:=H
  replace H:((bM.f k t104).bind fun t107=>(some (!t107)))=some r:=H
  have A3:=ah.mk zb
  clear zb
  replace H:=Option.bind_eq_some_iff.mp H
  obtain ⟨t107,Ef,H⟩:=H
  replace H:(some (!t107))=some r:=H
  have A4:=ah.mk Ef
  clear Ef
  obtain rfl:=Option.some.inj H
  go_enter Tryz.func61,Tryz.ntmps61
  go_wp2_with (first|(go_at_call 75;(with_reducible refine (strings_Split.calls a0 (⟨#[46]⟩:ByteArray) t104 _ ?bg A3.out).mono ?_);(case bg=>exact aW.below HG.out cA);rintro e w5 ⟨v105,rfl,ho0,hb⟩;have bI:=ah.mk (Kd.gv ho0 (dK cA));have bP:=ah.mk (az cA hb);clear HB;have WV:=bI;have HB:=bP;clear bI bP;(try clear hb);(try clear hb2);(try clear hk);(try clear hi);(try clear ho0);obtain ⟨Ao6,co6,eo6⟩:=Kd.eB WV.out;subst eo6)|(go_at_call 59;(with_reducible refine (bM.calls k _ _ t104 t107 _ ?bg ?bY A4.out).mono ?_);(case bg=>repeat (first|exact (Kd.fD WV.out).2.2|(with_reducible refine Kd.dZ ?_ _)|(with_reducible refine Kd.eo ?_ _)|(with_reducible refine Kd.eZ ?_)));(case bY=>exact (Kd.fD WV.out).2.1);rintro e w' ⟨rfl,⟨nd,rfl⟩⟩))
  go_ret
  exact ⟨cU,cA⟩
 ·rw [if_neg c2] at H
  have Dw:decide ((a0.size:Int)≤255)=false:=decide_eq_false c2
  have P8:decide (a0.size≤255)=false:=decide_eq_false aq
  clear c2
  obtain rfl:=Option.some.inj H
  go_enter Tryz.func61,Tryz.ntmps61
  go_wp2
  go_ret
  exact ⟨cU,cA⟩
def ay (w0 W:World) (g:Nat) (f0:ByteArray) (f1:Int):Prop:=W.heap[g]? =some (.cells #[.string f0,.int .i64 f1] 82 (0,0))∧w0.heap.size≤g
theorem ay.grown {w0 W:World} {g:Nat} {f0:ByteArray} {f1:Int} {W1:World} {row:Option Nat} (h:ay w0 W g f0 f1) (hw:W.grownBy W1 row) (hne:some g≠row):ay w0 W1 g f0 f1:=by
 obtain ⟨hb,hg⟩:=h
 exact ⟨tM hb hw hne,hg⟩
theorem ay.kept {w0 W:World} {g:Nat} {f0:ByteArray} {f1:Int} {W1:World} {S:Nat→Prop} (h:ay w0 W g f0 f1) (hk:Kept W W1 S) (hne: ¬ S g):ay w0 W1 g f0 f1:=by
 obtain ⟨hb,hg⟩:=h
 exact ⟨WJ hb hk hne,hg⟩
theorem ay.below {w0 W:World} {g:Nat} {f0:ByteArray} {f1:Int} {W1:World} (h:ay w0 W g f0 f1) (hw:Below W.heap.size W W1):ay w0 W1 g f0 f1:=h.grown (yQ hw none) bf
theorem ay.alloc {w0 W:World} {g:Nat} {f0:ByteArray} {f1:Int} (h:ay w0 W g f0 f1) (o:Obj):ay w0 (W.alloc o) g f0 f1:=h.below (aD (Below.refl _ _) o)
theorem ay.drewN {w0 W:World} {g:Nat} {f0:ByteArray} {f1:Int} (h:ay w0 W g f0 f1) (m:Nat):ay w0 (W.drewN m) g f0 f1:=h
theorem ay.drew {w0 W:World} {g:Nat} {f0:ByteArray} {f1:Int} (h:ay w0 W g f0 f1):ay w0 W.drew g f0 f1:=h
theorem ay.at_ {w0 W:World} {g:Nat} {f0:ByteArray} {f1:Int} {w':World} {m:Nat} (hq:W.drewN m=w') (h:ay w0 W g f0 f1):ay w0 w' g f0 f1:=by subst hq;exact ay.drewN h m
theorem ay.apart {w0 W:World} {g:Nat} {f0:ByteArray} {f1:Int} {α:Type} {d:Kd α} {e:Nat} {base:Nat} {ok:Nat→Prop} {v:Value} {xs:List α} (h:ay w0 W g f0 f1) (ho:d.R e W base ok v xs) (ht:∀ q,q∈e :: d.E→q≠82):d.R e W base (fun k=>ok k∧k≠g) v xs:=by
 obtain ⟨hb,hg⟩:=h
 exact Kd.kj ho hb ht
theorem ay.own_ne {w0 W:World} {g:Nat} {f0:ByteArray} {f1:Int} {α:Type} {d:Kd α} {e:Nat} {base:Nat} {ok:Nat→Prop} {v:Value} {xs:List α} (h:ay w0 W g f0 f1) (ho:d.R e W base ok v xs) (ht:e≠82):some g≠v.ownBlock:=by
 obtain ⟨hb,hg⟩:=h
 exact Kd.UL ho hb ht
theorem ay.lt {w0 W:World} {g:Nat} {f0:ByteArray} {f1:Int} (h:ay w0 W g f0 f1):g < W.heap.size:=by
 obtain ⟨hb,hg⟩:=h
 exact jq hb
theorem ay.ge {w0 W:World} {g:Nat} {f0:ByteArray} {f1:Int} (h:ay w0 W g f0 f1):w0.heap.size≤g:=by
 obtain ⟨hb,hg⟩:=h
 exact hg
theorem ay.rq {w0 W:World} {g:Nat} {f0:ByteArray} {f1:Int} {a:Nat} {cs:Array Value} {t:TypeId} {fr:Nat×Nat} (h:ay w0 W g f0 f1) (hb2:W.heap[a]? =some (.cells cs t fr)) (ht:t≠82):g≠a:=by
 obtain ⟨hb,hg⟩:=h
 rintro rfl
 rw [hb] at hb2
 injection hb2 with hb2
 injection hb2 with _ ht2
 exact ht ht2.symm
theorem ay.far {w0 W:World} {g:Nat} {f0:ByteArray} {f1:Int} {p:Addr} (h:ay w0 W g f0 f1) (hne:g≠p.block) (u:Value):ay w0 (W.setCell p u) g f0 f1:=by
 obtain ⟨hb,hg⟩:=h
 exact ⟨fG hb hne u,hg⟩
theorem dR {W:World} {g:Nat} {f0:ByteArray} {f1:Int} (h:W.heap[g]? =some (.cells #[.string f0,.int .i64 f1] 82 (0,0))):W.cell? ⟨g,0,none⟩=some (.string f0):=(af h 0).trans rfl
theorem ay.fS {w0 W:World} {g:Nat} {f0:ByteArray} {f1:Int} (h:ay w0 W g f0 f1) (x:ByteArray):ay w0 (W.setCell ⟨g,0,none⟩ (.string x)) g x f1:=by
 obtain ⟨hb,hg⟩:=h
 exact ⟨by simpa using Fm hb 0 (.string x),hg⟩
theorem dM {W:World} {g:Nat} {f0:ByteArray} {f1:Int} (h:W.heap[g]? =some (.cells #[.string f0,.int .i64 f1] 82 (0,0))):W.cell? ⟨g,1,none⟩=some (.int .i64 f1):=(af h 1).trans rfl
theorem ay.fP {w0 W:World} {g:Nat} {f0:ByteArray} {f1:Int} (h:ay w0 W g f0 f1) (x:Int):ay w0 (W.setCell ⟨g,1,none⟩ (.int .i64 x)) g f0 x:=by
 obtain ⟨hb,hg⟩:=h
 exact ⟨by simpa using Fm hb 1 (.int .i64 x),hg⟩
def bu.f (fk:ByteArray) (cR:Int) (a1:Int):Option (Bool×ByteArray×Int):=if cR < (fk.size:Int) then (if 0≤cR then (if (bt fk cR)=a1 then (some (true,fk,wrap64 (cR + 1))) else (some (false,fk,cR))) else (none)) else (some (false,fk,cR))
theorem bu.calls (g:Nat) (fk:ByteArray) (cR:Int) (a1:Int) (r1:Bool) (r2:ByteArray) (r3:Int) (w0 w:World) (hI:ay w0 w g fk cR) (hB:Below w0.heap.size w0 w) (h:bu.f fk cR a1=some (r1,r2,r3)):
 Calls Tryz.prog 56 #[.pointer (some ⟨g,0,none⟩),.int .u8 a1] w fun e w'=>e= .returned (.bool r1)∧ay w0 w' g r2 r3∧Below w0.heap.size w0 w'∧bB w w' g none:=by
 have dH:=ah.mk hI
 have HK:=ah.mk (bB.refl w g none)
 have HL:=ah.mk hB.size
 clear hI
 have VQ:=ah.mk hB.size
 have HB:=ah.mk hB
 clear hB
 have H:(if cR < (fk.size:Int) then (if 0≤cR then (if (bt fk cR)=a1 then (some (true,fk,wrap64 (cR + 1))) else (some (false,fk,cR))) else (none)) else (some (false,fk,cR)))=some (r1,r2,r3):=h
 clear h
 by_cases c3:cR < (fk.size:Int)
 ·rw [if_pos c3] at H
  have rD:decide (cR < (fk.size:Int))=true:=decide_eq_true c3
  clear c3
  by_cases c4: 0≤cR
  ·rw [if_pos c4] at H
   have nP:decide (0≤cR)=true:=decide_eq_true c4
   clear c4
   by_cases c6:(bt fk cR)=a1
   ·rw [if_pos c6] at H
    have oW:((bt fk cR) == a1)=true:=beq_iff_eq.mpr c6
    have yS:((bt fk cR) != a1)=false:=bne_eq_false_iff_eq.mpr c6
    clear c6
    simp only [Option.some.injEq,Prod.mk.injEq] at H
    obtain ⟨rfl,rfl,rfl⟩:=H
    obtain ⟨GK,adg⟩:=dH.out
    have GL:=dR GK
    have GM:=dM GK
    have GN:=aa GK 0
    have GP:=aa GK 1
    clear GK adg
    have p5: 0≤(cR:Int):=of_decide_eq_true cO
    have q5:cR < (fk.size:Int):=of_decide_eq_true cO
    have hx5:=ig fk cR
    replace p5:=eq_true p5
    replace q5:=eq_true q5
    go_enter Tryz.func56,Tryz.ntmps56
    go_wp2
    repeat (go_quiet (fail);try go_wp2)
    go_ret
    exact ⟨cU,iC,iB,eK⟩
   ·rw [if_neg c6] at H
    have oW:((bt fk cR) == a1)=false:=beq_eq_false_iff_ne.mpr c6
    have yS:((bt fk cR) != a1)=true:=bne_iff_ne.mpr c6
    simp only [Option.some.injEq,Prod.mk.injEq] at H
    obtain ⟨rfl,rfl,rfl⟩:=H
    obtain ⟨GQ,adh⟩:=dH.out
    have yT:=dR GQ
    have yU:=dM GQ
    have yV:=aa GQ 0
    have yX:=aa GQ 1
    clear GQ adh
    have p5: 0≤(cR:Int):=of_decide_eq_true cO
    have q5:cR < (fk.size:Int):=of_decide_eq_true cO
    have hx5:=ig fk cR
    replace p5:=eq_true p5
    replace q5:=eq_true q5
    go_enter Tryz.func56,Tryz.ntmps56
    go_wp2
    repeat (go_quiet (fail);try go_wp2)
    go_ret
    exact ⟨cU,iC,iB,eK⟩
  ·rw [if_neg c4] at H
   exact absurd H bf
 ·rw [if_neg c3] at H
  have rD:decide (cR < (fk.size:Int))=false:=decide_eq_false c3
  clear c3
  simp only [Option.some.injEq,Prod.mk.injEq] at H
  obtain ⟨rfl,rfl,rfl⟩:=H
  obtain ⟨qA,Lq⟩:=dH.out
  have rz:=dR qA
  have rA:=dM qA
  have rB:=aa qA 0
  have rC:=aa qA 1
  clear qA Lq
  go_enter Tryz.func56,Tryz.ntmps56
  go_wp2
  repeat (go_quiet (fail);try go_wp2)
  go_ret
  exact ⟨cU,iC,iB,eK⟩
def jC.f (a0:Int):Option (Bool):=if a0≥97 then (if a0≤122 then (some true) else (if a0≥65 then (some (decide (a0≤90))) else (some false))) else (if a0≥65 then (some (decide (a0≤90))) else (some false))
theorem jC.calls (a0:Int) (r:Bool) (w:World) (h:jC.f a0=some r):
 Calls Tryz.prog 157 #[.int .u8 a0] w fun e w'=>e= .returned (.bool r)∧kA w w':=by
 have H:(if a0≥97 then (if a0≤122 then (some true) else (if a0≥65 then (some (decide (a0≤90))) else (some false))) else (if a0≥65 then (some (decide (a0≤90))) else (some false)))=some r:=h
 clear h
 by_cases c2:a0≥97
 ·rw [if_pos c2] at H
  have Dw:decide (97≤a0)=true:=decide_eq_true c2
  clear c2
  by_cases c3:a0≤122
  ·rw [if_pos c3] at H
   have rD:decide (a0≤122)=true:=decide_eq_true c3
   clear c3
   obtain rfl:=Option.some.inj H
   go_enter Tryz.func157,Tryz.ntmps157
   go_wp2
   go_ret
   exact ⟨dL,kN⟩
  ·rw [if_neg c3] at H
   have rD:decide (a0≤122)=false:=decide_eq_false c3
   clear c3
   by_cases c4:a0≥65
   ·rw [if_pos c4] at H
    have nP:decide (65≤a0)=true:=decide_eq_true c4
    clear c4
    obtain rfl:=Option.some.inj H
    go_enter Tryz.func157,Tryz.ntmps157
    go_wp2
    go_ret
    exact ⟨dL,kN⟩
   ·rw [if_neg c4] at H
    have nP:decide (65≤a0)=false:=decide_eq_false c4
    clear c4
    obtain rfl:=Option.some.inj H
    go_enter Tryz.func157,Tryz.ntmps157
    go_wp2
    go_ret
    exact ⟨dL,kN⟩
 ·rw [if_neg c2] at H
  have Dw:decide (97≤a0)=false:=decide_eq_false c2
  clear c2
  by_cases c5:a0≥65
  ·rw [if_pos c5] at H
   have vZ:decide (65≤a0)=true:=decide_eq_true c5
   clear c5
   obtain rfl:=Option.some.inj H
   go_enter Tryz.func157,Tryz.ntmps157
   go_wp2
   go_ret
   exact ⟨dL,kN⟩
  ·rw [if_neg c5] at H
   have vZ:decide (65≤a0)=false:=decide_eq_false c5
   clear c5
   obtain rfl:=Option.some.inj H
   go_enter Tryz.func157,Tryz.ntmps157
   go_wp2
   go_ret
   exact ⟨dL,kN⟩
def jw.f (a0:Int):Option (Bool):=if a0≥48 then (some (decide (a0≤57))) else (some false)
theorem jw.calls (a0:Int) (r:Bool) (w:World) (h:jw.f a0=some r):
 Calls Tryz.prog 158 #[.int .u8 a0] w fun e w'=>e= .returned (.bool r)∧kA w w':=by
 have H:(if a0≥48 then (some (decide (a0≤57))) else (some false))=some r:=h
 clear h
 by_cases c2:a0≥48
 ·rw [if_pos c2] at H
  have Dw:decide (48≤a0)=true:=decide_eq_true c2
  clear c2
  obtain rfl:=Option.some.inj H
  go_enter Tryz.func158,Tryz.ntmps158
  go_wp2
  go_ret
  exact ⟨dL,kN⟩
 ·rw [if_neg c2] at H
  have Dw:decide (48≤a0)=false:=decide_eq_false c2
  clear c2
  obtain rfl:=Option.some.inj H
  go_enter Tryz.func158,Tryz.ntmps158
  go_wp2
  go_ret
  exact ⟨dL,kN⟩
def eV.f (a0:Int):Option (Bool):=(jC.f a0).bind fun t108=>(if t108=true then (some true) else ((jw.f a0).bind fun t109=>(if t109=true then (some true) else (some (a0 == 45)))))
theorem eV.calls (a0:Int) (r:Bool) (w:World) (h:eV.f a0=some r):
 Calls Tryz.prog 168 #[.int .u8 a0] w fun e w'=>e= .returned (.bool r)∧kA w w':=by
 have H:((jC.f a0).bind fun t108=>(if t108=true then (some true) else ((jw.f a0).bind fun t109=>(if t109=true then (some true) else (some (a0 == 45))))))=some r:=h
 clear h
 replace H:=Option.bind_eq_some_iff.mp H
 obtain ⟨t108,oL,H⟩:=H
 replace H:(if t108=true then (some true) else ((jw.f a0).bind fun t109=>(if t109=true then (some true) else (some (a0 == 45)))))=some r:=H
 have A2:=ah.mk oL
 clear oL
 by_cases c3:t108=true
 ·subst c3
  have H1:(some true)=some r:=by rw [if_pos rfl] at H;exact H
  clear H
  have H:=H1
  clear H1
  obtain rfl:=Option.some.inj H
  go_enter Tryz.func168,Tryz.ntmps168
  go_wp2_with (first|((with_reducible refine aT (f:=157) rfl ?_);refine cC (some 4) rfl rfl Tryz.func157 av rfl #[.int .u8 a0] rfl cY ?_;(with_reducible refine (jC.calls a0 true _ A2.out).mono ?_);rintro e w' ⟨rfl,⟨nd,rfl⟩⟩;refine ⟨_,rfl,?_⟩))
  go_ret
  exact ⟨dL,kN⟩
 ·replace c3:=Bool.eq_false_iff.mpr c3
  subst c3
  have H1:((jw.f a0).bind fun t109=>(if t109=true then (some true) else (some (a0 == 45))))=some r:=by rw [if_neg (show ¬ (false=true) by decide)] at H;exact H
  clear H
  have H:=H1
  clear H1
  replace H:=Option.bind_eq_some_iff.mp H
  obtain ⟨t109,Ef,H⟩:=H
  replace H:(if t109=true then (some true) else (some (a0 == 45)))=some r:=H
  have A4:=ah.mk Ef
  clear Ef
  by_cases c5:t109=true
  ·subst c5
   have H1:(some true)=some r:=by rw [if_pos rfl] at H;exact H
   clear H
   have H:=H1
   clear H1
   obtain rfl:=Option.some.inj H
   go_enter Tryz.func168,Tryz.ntmps168
   go_wp2_with (first|((with_reducible refine aT (f:=157) rfl ?_);refine cC (some 4) rfl rfl Tryz.func157 av rfl #[.int .u8 a0] rfl cY ?_;(with_reducible refine (jC.calls a0 false _ A2.out).mono ?_);rintro e w' ⟨rfl,⟨nd,rfl⟩⟩;refine ⟨_,rfl,?_⟩)|(go_at_call 158;(with_reducible refine (jw.calls a0 true _ A4.out).mono ?_);rintro e w' ⟨rfl,⟨nd,rfl⟩⟩))
   go_ret
   exact ⟨dL,kN⟩
  ·replace c5:=Bool.eq_false_iff.mpr c5
   subst c5
   have H1:(some (a0 == 45))=some r:=by rw [if_neg (show ¬ (false=true) by decide)] at H;exact H
   clear H
   have H:=H1
   clear H1
   obtain rfl:=Option.some.inj H
   go_enter Tryz.func168,Tryz.ntmps168
   go_wp2_with (first|((with_reducible refine aT (f:=157) rfl ?_);refine cC (some 4) rfl rfl Tryz.func157 av rfl #[.int .u8 a0] rfl cY ?_;(with_reducible refine (jC.calls a0 false _ A2.out).mono ?_);rintro e w' ⟨rfl,⟨nd,rfl⟩⟩;refine ⟨_,rfl,?_⟩)|(go_at_call 158;(with_reducible refine (jw.calls a0 false _ A4.out).mono ?_);rintro e w' ⟨rfl,⟨nd,rfl⟩⟩))
   go_ret
   exact ⟨dL,kN⟩
end Go.Proofs.YtokpnfljjjjikaaGreatDoor.n9
