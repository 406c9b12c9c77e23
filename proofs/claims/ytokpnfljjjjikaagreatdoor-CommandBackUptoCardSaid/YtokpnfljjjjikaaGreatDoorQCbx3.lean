import Derived.Test.YtokpnfljjjjikaaGreatDoorZo
import Derived.Test.YtokpnfljjjjikaaGreatDoorQCbx0
import Derived.Test.YtokpnfljjjjikaaGreatDoorEStr
namespace Go.Proofs.YtokpnfljjjjikaaGreatDoor.nX
open Go.RowKit Go.Proofs.aj.bW Go.Proofs.aj.fW Go.Proofs.aj.dz
attribute [local go_sem] jg jh kO kP iK iL ji jk
set_option linter.unusedVariables false
set_option linter.unusedSimpArgs false
def ke.f (a0:ByteArray):Option (Bool):=some (decide ((a0.size:Int) > 63))
set_option maxHeartbeats 8000000 in
set_option maxRecDepth 100000 in
theorem ke.calls (a0:ByteArray) (r:Bool) (w:World) (h:ke.f a0=some r):
 Calls Tryz.prog 118 #[.string a0] w fun e w'=>e= .returned (.bool r)∧kg w w':=by
 have H:(some (decide ((a0.size:Int) > 63)))=some r:=h
 clear h
 obtain rfl:=Option.some.inj H
 go_enter Tryz.func118,Tryz.ntmps118
 go_wp2
 go_ret
 exact ⟨ey,kJ⟩
def aD.l0:Nat→List ByteArray→Int→Int→Option (Int)
 | 0,_,_,_ =>none
 |k + 1,x0,x7,x8=>if x8 < x7 then (if 0≤x8 then (if x8 < (x0.length:Int) then ((ke.f (kC ByteArray.empty x0 x8)).bind fun t102=>(if t102=true then (some x8) else (aD.l0 k x0 x7 (wrap64 (x8 + 1))))) else (none)) else (none)) else (some (-1))
def aD.f (k:Nat) (l0:List ByteArray):Option (Int):=aD.l0 k l0 (l0.length:Int) 0
theorem aD.fR:∀ k,(∀ y0 y1 y2,cR (aD.l0 k y0 y1 y2) (aD.l0 (k + 1) y0 y1 y2))
 | 0=>fun _ _ _ r h=>by simp [aD.l0] at h
 |k + 1=>by
  have nY:=aD.fR k
  ·intro y0 y1 y2
   unfold aD.l0
   repeat' first
   |(with_reducible exact nY _ _ _)
   |(with_reducible exact cR.refl _)
   |(with_reducible exact cR.none _)
   |(with_reducible refine cR.ite ?_ ?_)
   |(with_reducible refine cR.bind ?_ (fun _ =>?_))
   |refine cR.ite ?_ ?_
   |refine cR.bind ?_ (fun _ =>?_)
theorem aD.mono:∀ a0 k,cR (aD.f k a0) (aD.f (k + 1) a0):=by
 intro a0 k
 have nY:=aD.fR k
 unfold aD.f
 repeat' first
  |(with_reducible exact nY _ _ _)
  |(with_reducible exact cR.refl _)
  |(with_reducible exact cR.none _)
  |(with_reducible refine cR.ite ?_ ?_)
  |(with_reducible refine cR.bind ?_ (fun _ =>?_))
  |refine cR.ite ?_ ?_
  |refine cR.bind ?_ (fun _ =>?_)
set_option maxHeartbeats 8000000 in
set_option maxRecDepth 100000 in
theorem aD.calls (k:Nat) (A0:Option Addr) (c0:Nat) (l0:List ByteArray) (r:Int) (w:World) (zk:Kd.C Kd.string w A0 l0.length l0) (hc0:l0.length≤c0) (h:aD.f k l0=some r):
 Calls Tryz.prog 117 #[.slice A0 l0.length c0,.func (.func 118) #[] #[]] w fun e w'=>e= .returned (.int .i64 r)∧kg w w':=by
 have xO:=ah.mk zk
 have P9:=ah.mk hc0
 clear zk hc0
 have H:(aD.l0 k l0 (l0.length:Int) 0)=some r:=h
 clear h
 have H':=ah.mk H
 clear H
 go_enter Tryz.func117,Tryz.ntmps117
 go_wp2
 go_loopg [8] k (fun kq v8 w'=>∃ (eV:Int),v8= .int .i64 eV∧ah (aD.l0 kq l0 (l0.length:Int) eV=some r)∧ah (kq≤k)∧kg w w')
 case atStart=>exact ⟨(0),ey,H',⟨Nat.le_refl _⟩,kJ⟩
 case round=>
  clear H'
  try clear c1
  try clear p2
  obtain ⟨eV,rfl,HA,uC,⟨m1,rfl⟩⟩:=hrel
  cases gk with
  |zero=>exact absurd HA.out (by simp [aD.l0])
  |succ k1=>
   have H:=HA.out
   clear HA
   simp only [aD.l0] at H
   by_cases c3:eV < (l0.length:Int)
   ·rw [if_pos c3] at H
    have qm:decide (eV < (l0.length:Int))=true:=decide_eq_true c3
    clear c3
    by_cases c4: 0≤eV
    ·rw [if_pos c4] at H
     have oL:decide (0≤eV)=true:=decide_eq_true c4
     clear c4
     by_cases c5:eV < (l0.length:Int)
     ·rw [if_pos c5] at H
      have tR:decide (eV < (l0.length:Int))=true:=decide_eq_true c5
      clear c5
      replace H:=Option.bind_eq_some_iff.mp H
      obtain ⟨t102,wR,H⟩:=H
      replace H:(if t102=true then (some eV) else (aD.l0 k1 l0 (l0.length:Int) (wrap64 (eV + 1))))=some r:=H
      have A6:=ah.mk wR
      clear wR
      by_cases c7:t102=true
      ·subst c7
       have H1:(some eV)=some r:=by rw [if_pos rfl] at H;exact H
       clear H
       have H:=H1
       clear H1
       obtain rfl:=Option.some.inj H
       have Oy: 0≤(eV:Int):=of_decide_eq_true cX
       have Oz:eV < (l0.length:Int):=of_decide_eq_true cX
       obtain ⟨ael,abY,XZ⟩:=Kd.ju xO.out eV Oy Oz
       cases abY
       replace Oy:=eq_true Oy
       replace Oz:=eq_true Oz
       go_wp2_with (first|(go_at_call 118;(with_reducible refine (ke.calls (kC ByteArray.empty l0 eV) true _ A6.out).mono ?_);rintro e w' ⟨rfl,⟨nd,rfl⟩⟩))
       go_ret
       exact ⟨ey,kJ⟩
      ·replace c7:=Bool.eq_false_iff.mpr c7
       subst c7
       have H1:(aD.l0 k1 l0 (l0.length:Int) (wrap64 (eV + 1)))=some r:=by rw [if_neg (show ¬ (false=true) by decide)] at H;exact H
       clear H
       have H:=H1
       clear H1
       have H':=ah.mk H
       clear H
       have Oy: 0≤(eV:Int):=of_decide_eq_true cX
       have Oz:eV < (l0.length:Int):=of_decide_eq_true cX
       obtain ⟨ael,abY,XZ⟩:=Kd.ju xO.out eV Oy Oz
       cases abY
       replace Oy:=eq_true Oy
       replace Oz:=eq_true Oz
       go_wp2_with (first|(go_at_call 118;(with_reducible refine (ke.calls (kC ByteArray.empty l0 eV) false _ A6.out).mono ?_);rintro e w' ⟨rfl,⟨nd,rfl⟩⟩))
       go_roundg k1
       case measure=>have:=uC.out;omega
       case rel=>exact ⟨(wrap64 (eV + 1)),ey,H',⟨j6⟩,kJ⟩
     ·rw [if_neg c5] at H
      exact absurd H bn
    ·rw [if_neg c4] at H
     exact absurd H bn
   ·rw [if_neg c3] at H
    have qm:decide (eV < (l0.length:Int))=false:=decide_eq_false c3
    clear c3
    obtain rfl:=Option.some.inj H
    go_wp2
    go_ret
    exact ⟨ey,kJ⟩
def bM.f (k:Nat) (l0:List ByteArray):Option (Bool):=(aD.f k l0).bind fun t103=>(some (decide (t103≥0)))
theorem bM.mono:∀ a0 k,cR (bM.f k a0) (bM.f (k + 1) a0):=by
 intro a0 k
 unfold bM.f
 repeat' first
  |(with_reducible exact aD.mono _ _)
  |(with_reducible exact cR.refl _)
  |(with_reducible exact cR.none _)
  |(with_reducible refine cR.ite ?_ ?_)
  |(with_reducible refine cR.bind ?_ (fun _ =>?_))
  |refine cR.ite ?_ ?_
  |refine cR.bind ?_ (fun _ =>?_)
set_option maxHeartbeats 8000000 in
set_option maxRecDepth 100000 in
theorem bM.calls (k:Nat) (A0:Option Addr) (c0:Nat) (l0:List ByteArray) (r:Bool) (w:World) (zk:Kd.C Kd.string w A0 l0.length l0) (hc0:l0.length≤c0) (h:bM.f k l0=some r):
 Calls Tryz.prog 59 #[.slice A0 l0.length c0,.func (.func 118) #[] #[]] w fun e w'=>e= .returned (.bool r)∧kg w w':=by
 have xO:=ah.mk zk
 have P9:=ah.mk hc0
 clear zk hc0
 have H:((aD.f k l0).bind fun t103=>(some (decide (t103≥0))))=some r:=h
 clear h
 replace H:=Option.bind_eq_some_iff.mp H
 obtain ⟨t103,wQ,H⟩:=H
 replace H:(some (decide (t103≥0)))=some r:=H
 have A3:=ah.mk wQ
 clear wQ
 obtain rfl:=Option.some.inj H
 go_enter Tryz.func59,Tryz.ntmps59
 go_wp2_with (first|((with_reducible refine aN (f:=117) rfl ?_);refine cr (some 7) rfl rfl Tryz.func117 au rfl #[.slice A0 l0.length c0,.func (.func 118) #[] #[]] rfl cV ?_;(with_reducible refine (aD.calls k _ _ l0 t103 _ ?aX ?bS A3.out).mono ?_);(case aX=>repeat (first|exact xO.out|(with_reducible refine Kd.cK ?_ _)|(with_reducible refine Kd.cL ?_ _)|(with_reducible refine Kd.dG ?_)));(case bS=>exact P9.out);rintro e w' ⟨rfl,⟨nd,rfl⟩⟩;refine ⟨_,rfl,?_⟩))
 go_ret
 exact ⟨ey,kJ⟩
def eW.f (k:Nat) (a0:ByteArray):Option (Bool):=if (a0.size:Int)≤255 then ((strings_Split.f a0 (⟨#[46]⟩:ByteArray)).bind fun t104=>((bM.f k t104).bind fun t107=>(some (!t107)))) else (some false)
theorem eW.mono:∀ a0 k,cR (eW.f k a0) (eW.f (k + 1) a0):=by
 intro a0 k
 unfold eW.f
 repeat' first
  |(with_reducible exact bM.mono _ _)
  |(with_reducible exact cR.refl _)
  |(with_reducible exact cR.none _)
  |(with_reducible refine cR.ite ?_ ?_)
  |(with_reducible refine cR.bind ?_ (fun _ =>?_))
  |refine cR.ite ?_ ?_
  |refine cR.bind ?_ (fun _ =>?_)
set_option maxHeartbeats 8000000 in
set_option maxRecDepth 100000 in
theorem eW.calls (k:Nat) (a0:ByteArray) (r:Bool) (w:World) (hG:aT w) (h:eW.f k a0=some r):
 Calls Tryz.prog 61 #[.string a0] w fun e w'=>e= .returned (.bool r)∧Below w.heap.size w w':=by
 have HB:=ah.mk (Below.refl w.heap.size w)
 have HG:=ah.mk hG
 clear hG
 have H:(if (a0.size:Int)≤255 then ((strings_Split.f a0 (⟨#[46]⟩:ByteArray)).bind fun t104=>((bM.f k t104).bind fun t107=>(some (!t107)))) else (some false))=some r:=h
 clear h
 by_cases c2:(a0.size:Int)≤255
 ·rw [if_pos c2] at H
  have BM:decide ((a0.size:Int)≤255)=true:=decide_eq_true c2
  have Og:decide (a0.size≤255)=true:=decide_eq_true aq
  clear c2
  replace H:=Option.bind_eq_some_iff.mp H
  obtain ⟨t104,wQ,H⟩:=H
  replace H:((bM.f k t104).bind fun t107=>(some (!t107)))=some r:=H
  have A3:=ah.mk wQ
  clear wQ
  replace H:=Option.bind_eq_some_iff.mp H
  obtain ⟨t107,Cr,H⟩:=H
  replace H:(some (!t107))=some r:=H
  have A4:=ah.mk Cr
  clear Cr
  obtain rfl:=Option.some.inj H
  go_enter Tryz.func61,Tryz.ntmps61
  go_wp2_with (first|(go_at_call 75;(with_reducible refine (strings_Split.calls a0 (⟨#[46]⟩:ByteArray) t104 _ ?aX A3.out).mono ?_);(case aX=>exact aT.below HG.out cw);rintro e w5 ⟨v105,rfl,ho0,hb⟩;have bD:=ah.mk (Kd.gL ho0 (eu cw));have bN:=ah.mk (ay cw hb);clear HB;have U1:=bD;have HB:=bN;clear bD bN;(try clear hb);(try clear hb2);(try clear hk);(try clear hi);(try clear ho0);obtain ⟨Ao6,co6,eo6⟩:=Kd.eG U1.out;subst eo6)|(go_at_call 59;(with_reducible refine (bM.calls k _ _ t104 t107 _ ?aX ?bS A4.out).mono ?_);(case aX=>repeat (first|exact (Kd.fq U1.out).2.2|(with_reducible refine Kd.cK ?_ _)|(with_reducible refine Kd.cL ?_ _)|(with_reducible refine Kd.dG ?_)));(case bS=>exact (Kd.fq U1.out).2.1);rintro e w' ⟨rfl,⟨nd,rfl⟩⟩))
  go_ret
  exact ⟨cZ,cw⟩
 ·rw [if_neg c2] at H
  have BM:decide ((a0.size:Int)≤255)=false:=decide_eq_false c2
  have Og:decide (a0.size≤255)=false:=decide_eq_false aq
  clear c2
  obtain rfl:=Option.some.inj H
  go_enter Tryz.func61,Tryz.ntmps61
  go_wp2
  go_ret
  exact ⟨cZ,cw⟩
def av (w0 W:World) (g:Nat) (f0:ByteArray) (f1:Int):Prop:=W.heap[g]? =some (.cells #[.string f0,.int .i64 f1] 82 (0,0))∧w0.heap.size≤g
theorem av.grown {w0 W:World} {g:Nat} {f0:ByteArray} {f1:Int} {W1:World} {row:Option Nat} (h:av w0 W g f0 f1) (hw:W.grownBy W1 row) (hne:some g≠row):av w0 W1 g f0 f1:=by
 obtain ⟨hb,hg⟩:=h
 exact ⟨rR hb hw hne,hg⟩
theorem av.kept {w0 W:World} {g:Nat} {f0:ByteArray} {f1:Int} {W1:World} {S:Nat→Prop} (h:av w0 W g f0 f1) (hk:Kept W W1 S) (hne: ¬ S g):av w0 W1 g f0 f1:=by
 obtain ⟨hb,hg⟩:=h
 exact ⟨UK hb hk hne,hg⟩
theorem av.below {w0 W:World} {g:Nat} {f0:ByteArray} {f1:Int} {W1:World} (h:av w0 W g f0 f1) (hw:Below W.heap.size W W1):av w0 W1 g f0 f1:=h.grown (wL hw none) bn
theorem av.alloc {w0 W:World} {g:Nat} {f0:ByteArray} {f1:Int} (h:av w0 W g f0 f1) (o:Obj):av w0 (W.alloc o) g f0 f1:=h.below (az (Below.refl _ _) o)
theorem av.drewN {w0 W:World} {g:Nat} {f0:ByteArray} {f1:Int} (h:av w0 W g f0 f1) (m:Nat):av w0 (W.drewN m) g f0 f1:=h
theorem av.drew {w0 W:World} {g:Nat} {f0:ByteArray} {f1:Int} (h:av w0 W g f0 f1):av w0 W.drew g f0 f1:=h
theorem av.at_ {w0 W:World} {g:Nat} {f0:ByteArray} {f1:Int} {w':World} {m:Nat} (hq:W.drewN m=w') (h:av w0 W g f0 f1):av w0 w' g f0 f1:=by subst hq;exact av.drewN h m
theorem av.apart {w0 W:World} {g:Nat} {f0:ByteArray} {f1:Int} {α:Type} {d:Kd α} {e:Nat} {base:Nat} {ok:Nat→Prop} {v:Value} {xs:List α} (h:av w0 W g f0 f1) (ho:d.R e W base ok v xs) (ht:∀ q,q∈e :: d.E→q≠82):d.R e W base (fun k=>ok k∧k≠g) v xs:=by
 obtain ⟨hb,hg⟩:=h
 exact Kd.j4 ho hb ht
theorem av.own_ne {w0 W:World} {g:Nat} {f0:ByteArray} {f1:Int} {α:Type} {d:Kd α} {e:Nat} {base:Nat} {ok:Nat→Prop} {v:Value} {xs:List α} (h:av w0 W g f0 f1) (ho:d.R e W base ok v xs) (ht:e≠82):some g≠v.ownBlock:=by
 obtain ⟨hb,hg⟩:=h
 exact Kd.SL ho hb ht
theorem av.lt {w0 W:World} {g:Nat} {f0:ByteArray} {f1:Int} (h:av w0 W g f0 f1):g < W.heap.size:=by
 obtain ⟨hb,hg⟩:=h
 exact jV hb
theorem av.ge {w0 W:World} {g:Nat} {f0:ByteArray} {f1:Int} (h:av w0 W g f0 f1):w0.heap.size≤g:=by
 obtain ⟨hb,hg⟩:=h
 exact hg
theorem av.qi {w0 W:World} {g:Nat} {f0:ByteArray} {f1:Int} {a:Nat} {cs:Array Value} {t:TypeId} {fr:Nat×Nat} (h:av w0 W g f0 f1) (hb2:W.heap[a]? =some (.cells cs t fr)) (ht:t≠82):g≠a:=by
 obtain ⟨hb,hg⟩:=h
 rintro rfl
 rw [hb] at hb2
 injection hb2 with hb2
 injection hb2 with _ ht2
 exact ht ht2.symm
theorem av.far {w0 W:World} {g:Nat} {f0:ByteArray} {f1:Int} {p:Addr} (h:av w0 W g f0 f1) (hne:g≠p.block) (u:Value):av w0 (W.setCell p u) g f0 f1:=by
 obtain ⟨hb,hg⟩:=h
 exact ⟨gB hb hne u,hg⟩
theorem dW {W:World} {g:Nat} {f0:ByteArray} {f1:Int} (h:W.heap[g]? =some (.cells #[.string f0,.int .i64 f1] 82 (0,0))):W.cell? ⟨g,0,none⟩=some (.string f0):=(af h 0).trans rfl
theorem av.fQ {w0 W:World} {g:Nat} {f0:ByteArray} {f1:Int} (h:av w0 W g f0 f1) (x:ByteArray):av w0 (W.setCell ⟨g,0,none⟩ (.string x)) g x f1:=by
 obtain ⟨hb,hg⟩:=h
 exact ⟨by simpa using DB hb 0 (.string x),hg⟩
theorem dQ {W:World} {g:Nat} {f0:ByteArray} {f1:Int} (h:W.heap[g]? =some (.cells #[.string f0,.int .i64 f1] 82 (0,0))):W.cell? ⟨g,1,none⟩=some (.int .i64 f1):=(af h 1).trans rfl
theorem av.fM {w0 W:World} {g:Nat} {f0:ByteArray} {f1:Int} (h:av w0 W g f0 f1) (x:Int):av w0 (W.setCell ⟨g,1,none⟩ (.int .i64 x)) g f0 x:=by
 obtain ⟨hb,hg⟩:=h
 exact ⟨by simpa using DB hb 1 (.int .i64 x),hg⟩
def br.f (eY:ByteArray) (cW:Int) (a1:Int):Option (Bool×ByteArray×Int):=if cW < (eY.size:Int) then (if 0≤cW then (if (bt eY cW)=a1 then (some (true,eY,wrap64 (cW + 1))) else (some (false,eY,cW))) else (none)) else (some (false,eY,cW))
set_option maxHeartbeats 8000000 in
set_option maxRecDepth 100000 in
theorem br.calls (g:Nat) (eY:ByteArray) (cW:Int) (a1:Int) (r1:Bool) (r2:ByteArray) (r3:Int) (w0 w:World) (hI:av w0 w g eY cW) (hB:Below w0.heap.size w0 w) (h:br.f eY cW a1=some (r1,r2,r3)):
 Calls Tryz.prog 56 #[.pointer (some ⟨g,0,none⟩),.int .u8 a1] w fun e w'=>e= .returned (.bool r1)∧av w0 w' g r2 r3∧Below w0.heap.size w0 w'∧bA w w' g none:=by
 have dO:=ah.mk hI
 have HK:=ah.mk (bA.refl w g none)
 have HL:=ah.mk hB.size
 clear hI
 have TW:=ah.mk hB.size
 have HB:=ah.mk hB
 clear hB
 have H:(if cW < (eY.size:Int) then (if 0≤cW then (if (bt eY cW)=a1 then (some (true,eY,wrap64 (cW + 1))) else (some (false,eY,cW))) else (none)) else (some (false,eY,cW)))=some (r1,r2,r3):=h
 clear h
 by_cases c3:cW < (eY.size:Int)
 ·rw [if_pos c3] at H
  have qm:decide (cW < (eY.size:Int))=true:=decide_eq_true c3
  clear c3
  by_cases c4: 0≤cW
  ·rw [if_pos c4] at H
   have oL:decide (0≤cW)=true:=decide_eq_true c4
   clear c4
   by_cases c6:(bt eY cW)=a1
   ·rw [if_pos c6] at H
    have pF:((bt eY cW) == a1)=true:=beq_iff_eq.mpr c6
    have zl:((bt eY cW) != a1)=false:=bne_eq_false_iff_eq.mpr c6
    clear c6
    simp only [Option.some.injEq,Prod.mk.injEq] at H
    obtain ⟨rfl,rfl,rfl⟩:=H
    obtain ⟨Fb,abZ⟩:=dO.out
    have Fe:=dW Fb
    have Ff:=dQ Fb
    have Fg:=aa Fb 0
    have Fh:=aa Fb 1
    clear Fb abZ
    have p5: 0≤(cW:Int):=of_decide_eq_true cX
    have q5:cW < (eY.size:Int):=of_decide_eq_true cX
    have hx5:=gV eY cW
    replace p5:=eq_true p5
    replace q5:=eq_true q5
    go_enter Tryz.func56,Tryz.ntmps56
    go_wp2
    repeat (go_quiet (fail);try go_wp2)
    go_ret
    exact ⟨cZ,iy,iw,eH⟩
   ·rw [if_neg c6] at H
    have pF:((bt eY cW) == a1)=false:=beq_eq_false_iff_ne.mpr c6
    have zl:((bt eY cW) != a1)=true:=bne_iff_ne.mpr c6
    simp only [Option.some.injEq,Prod.mk.injEq] at H
    obtain ⟨rfl,rfl,rfl⟩:=H
    obtain ⟨Fi,ab0⟩:=dO.out
    have wU:=dW Fi
    have wV:=dQ Fi
    have wW:=aa Fi 0
    have wX:=aa Fi 1
    clear Fi ab0
    have p5: 0≤(cW:Int):=of_decide_eq_true cX
    have q5:cW < (eY.size:Int):=of_decide_eq_true cX
    have hx5:=gV eY cW
    replace p5:=eq_true p5
    replace q5:=eq_true q5
    go_enter Tryz.func56,Tryz.ntmps56
    go_wp2
    repeat (go_quiet (fail);try go_wp2)
    go_ret
    exact ⟨cZ,iy,iw,eH⟩
  ·rw [if_neg c4] at H
   exact absurd H bn
 ·rw [if_neg c3] at H
  have qm:decide (cW < (eY.size:Int))=false:=decide_eq_false c3
  clear c3
  simp only [Option.some.injEq,Prod.mk.injEq] at H
  obtain ⟨rfl,rfl,rfl⟩:=H
  obtain ⟨pR,JT⟩:=dO.out
  have qp:=dW pR
  have qq:=dQ pR
  have qu:=aa pR 0
  have qw:=aa pR 1
  clear pR JT
  go_enter Tryz.func56,Tryz.ntmps56
  go_wp2
  repeat (go_quiet (fail);try go_wp2)
  go_ret
  exact ⟨cZ,iy,iw,eH⟩
def jx.f (a0:Int):Option (Bool):=if a0≥97 then (if a0≤122 then (some true) else (if a0≥65 then (some (decide (a0≤90))) else (some false))) else (if a0≥65 then (some (decide (a0≤90))) else (some false))
set_option maxHeartbeats 8000000 in
set_option maxRecDepth 100000 in
theorem jx.calls (a0:Int) (r:Bool) (w:World) (h:jx.f a0=some r):
 Calls Tryz.prog 157 #[.int .u8 a0] w fun e w'=>e= .returned (.bool r)∧kg w w':=by
 have H:(if a0≥97 then (if a0≤122 then (some true) else (if a0≥65 then (some (decide (a0≤90))) else (some false))) else (if a0≥65 then (some (decide (a0≤90))) else (some false)))=some r:=h
 clear h
 by_cases c2:a0≥97
 ·rw [if_pos c2] at H
  have BM:decide (97≤a0)=true:=decide_eq_true c2
  clear c2
  by_cases c3:a0≤122
  ·rw [if_pos c3] at H
   have qm:decide (a0≤122)=true:=decide_eq_true c3
   clear c3
   obtain rfl:=Option.some.inj H
   go_enter Tryz.func157,Tryz.ntmps157
   go_wp2
   go_ret
   exact ⟨ey,kJ⟩
  ·rw [if_neg c3] at H
   have qm:decide (a0≤122)=false:=decide_eq_false c3
   clear c3
   by_cases c4:a0≥65
   ·rw [if_pos c4] at H
    have oL:decide (65≤a0)=true:=decide_eq_true c4
    clear c4
    obtain rfl:=Option.some.inj H
    go_enter Tryz.func157,Tryz.ntmps157
    go_wp2
    go_ret
    exact ⟨ey,kJ⟩
   ·rw [if_neg c4] at H
    have oL:decide (65≤a0)=false:=decide_eq_false c4
    clear c4
    obtain rfl:=Option.some.inj H
    go_enter Tryz.func157,Tryz.ntmps157
    go_wp2
    go_ret
    exact ⟨ey,kJ⟩
 ·rw [if_neg c2] at H
  have BM:decide (97≤a0)=false:=decide_eq_false c2
  clear c2
  by_cases c5:a0≥65
  ·rw [if_pos c5] at H
   have tR:decide (65≤a0)=true:=decide_eq_true c5
   clear c5
   obtain rfl:=Option.some.inj H
   go_enter Tryz.func157,Tryz.ntmps157
   go_wp2
   go_ret
   exact ⟨ey,kJ⟩
  ·rw [if_neg c5] at H
   have tR:decide (65≤a0)=false:=decide_eq_false c5
   clear c5
   obtain rfl:=Option.some.inj H
   go_enter Tryz.func157,Tryz.ntmps157
   go_wp2
   go_ret
   exact ⟨ey,kJ⟩
def jl.f (a0:Int):Option (Bool):=if a0≥48 then (some (decide (a0≤57))) else (some false)
set_option maxHeartbeats 8000000 in
set_option maxRecDepth 100000 in
theorem jl.calls (a0:Int) (r:Bool) (w:World) (h:jl.f a0=some r):
 Calls Tryz.prog 158 #[.int .u8 a0] w fun e w'=>e= .returned (.bool r)∧kg w w':=by
 have H:(if a0≥48 then (some (decide (a0≤57))) else (some false))=some r:=h
 clear h
 by_cases c2:a0≥48
 ·rw [if_pos c2] at H
  have BM:decide (48≤a0)=true:=decide_eq_true c2
  clear c2
  obtain rfl:=Option.some.inj H
  go_enter Tryz.func158,Tryz.ntmps158
  go_wp2
  go_ret
  exact ⟨ey,kJ⟩
 ·rw [if_neg c2] at H
  have BM:decide (48≤a0)=false:=decide_eq_false c2
  clear c2
  obtain rfl:=Option.some.inj H
  go_enter Tryz.func158,Tryz.ntmps158
  go_wp2
  go_ret
  exact ⟨ey,kJ⟩
def eT.f (a0:Int):Option (Bool):=(jx.f a0).bind fun t108=>(if t108=true then (some true) else ((jl.f a0).bind fun t109=>(if t109=true then (some true) else (some (a0 == 45)))))
set_option maxHeartbeats 8000000 in
set_option maxRecDepth 100000 in
theorem eT.calls (a0:Int) (r:Bool) (w:World) (h:eT.f a0=some r):
 Calls Tryz.prog 168 #[.int .u8 a0] w fun e w'=>e= .returned (.bool r)∧kg w w':=by
 have H:((jx.f a0).bind fun t108=>(if t108=true then (some true) else ((jl.f a0).bind fun t109=>(if t109=true then (some true) else (some (a0 == 45))))))=some r:=h
 clear h
 replace H:=Option.bind_eq_some_iff.mp H
 obtain ⟨t108,nK,H⟩:=H
 replace H:(if t108=true then (some true) else ((jl.f a0).bind fun t109=>(if t109=true then (some true) else (some (a0 == 45)))))=some r:=H
 have A2:=ah.mk nK
 clear nK
 by_cases c3:t108=true
 ·subst c3
  have H1:(some true)=some r:=by rw [if_pos rfl] at H;exact H
  clear H
  have H:=H1
  clear H1
  obtain rfl:=Option.some.inj H
  go_enter Tryz.func168,Tryz.ntmps168
  go_wp2_with (first|((with_reducible refine aN (f:=157) rfl ?_);refine cr (some 4) rfl rfl Tryz.func157 au rfl #[.int .u8 a0] rfl cV ?_;(with_reducible refine (jx.calls a0 true _ A2.out).mono ?_);rintro e w' ⟨rfl,⟨nd,rfl⟩⟩;refine ⟨_,rfl,?_⟩))
  go_ret
  exact ⟨ey,kJ⟩
 ·replace c3:=Bool.eq_false_iff.mpr c3
  subst c3
  have H1:((jl.f a0).bind fun t109=>(if t109=true then (some true) else (some (a0 == 45))))=some r:=by rw [if_neg (show ¬ (false=true) by decide)] at H;exact H
  clear H
  have H:=H1
  clear H1
  replace H:=Option.bind_eq_some_iff.mp H
  obtain ⟨t109,Cr,H⟩:=H
  replace H:(if t109=true then (some true) else (some (a0 == 45)))=some r:=H
  have A4:=ah.mk Cr
  clear Cr
  by_cases c5:t109=true
  ·subst c5
   have H1:(some true)=some r:=by rw [if_pos rfl] at H;exact H
   clear H
   have H:=H1
   clear H1
   obtain rfl:=Option.some.inj H
   go_enter Tryz.func168,Tryz.ntmps168
   go_wp2_with (first|((with_reducible refine aN (f:=157) rfl ?_);refine cr (some 4) rfl rfl Tryz.func157 au rfl #[.int .u8 a0] rfl cV ?_;(with_reducible refine (jx.calls a0 false _ A2.out).mono ?_);rintro e w' ⟨rfl,⟨nd,rfl⟩⟩;refine ⟨_,rfl,?_⟩)|(go_at_call 158;(with_reducible refine (jl.calls a0 true _ A4.out).mono ?_);rintro e w' ⟨rfl,⟨nd,rfl⟩⟩))
   go_ret
   exact ⟨ey,kJ⟩
  ·replace c5:=Bool.eq_false_iff.mpr c5
   subst c5
   have H1:(some (a0 == 45))=some r:=by rw [if_neg (show ¬ (false=true) by decide)] at H;exact H
   clear H
   have H:=H1
   clear H1
   obtain rfl:=Option.some.inj H
   go_enter Tryz.func168,Tryz.ntmps168
   go_wp2_with (first|((with_reducible refine aN (f:=157) rfl ?_);refine cr (some 4) rfl rfl Tryz.func157 au rfl #[.int .u8 a0] rfl cV ?_;(with_reducible refine (jx.calls a0 false _ A2.out).mono ?_);rintro e w' ⟨rfl,⟨nd,rfl⟩⟩;refine ⟨_,rfl,?_⟩)|(go_at_call 158;(with_reducible refine (jl.calls a0 false _ A4.out).mono ?_);rintro e w' ⟨rfl,⟨nd,rfl⟩⟩))
   go_ret
   exact ⟨ey,kJ⟩
end Go.Proofs.YtokpnfljjjjikaaGreatDoor.nX
