import Derived.Test.YtbjjaaodfbjkfaaGreatDoorQQux6
import Derived.Test.YtbjjaaodfbjkfaaGreatDoorELit
set_option maxHeartbeats 8000000
set_option maxRecDepth 100000
namespace Go.Proofs.YtbjjaaodfbjkfaaGreatDoor.mN
open Go.RowKit Go.Proofs.YtbjjaaodfbjkfaaGreatDoor.xV Go.Proofs.ak.bQ Go.Proofs.ak.dA Go.Proofs.ak.cX
attribute [local go_sem] jc jd j4 j5 gU gV je jf
set_option linter.unusedVariables false
set_option linter.unusedSimpArgs false
def gz.f (k:Nat) (bf:ByteArray) (bP:ByteArray) (cE:Bool):Option (Bool):=if (bf.size:Int)≤64 then (if cE=true then (some true) else ((gj.f k bP).bind fun t169=>(some t169))) else (some false)
theorem gz.mono:∀ a0 a1 a2 k,eY (gz.f k a0 a1 a2) (gz.f (k + 1) a0 a1 a2):=by
 intro a0 a1 a2 k
 unfold gz.f
 repeat' (with_reducible first|exact gj.mono _ _|exact eY.refl _|refine eY.ite ?_ ?_|refine eY.bind ?_ (fun _ =>?_))
theorem gz.calls (k:Nat) (bf:ByteArray) (bP:ByteArray) (cE:Bool) (r:Bool) (w:World) (hG:bp w) (h:gz.f k bf bP cE=some r):
 Calls Tryz.prog 186 #[.agg #[.string bf,.string bP,.bool cE]] w fun e w'=>e= .returned (.bool r)∧Below w.heap.size w w':=by
 have JW:=Tryz.underlying29
 have HB:=ah.mk (Below.refl w.heap.size w)
 have HG:=ah.mk hG
 clear hG
 have H:(if (bf.size:Int)≤64 then (if cE=true then (some true) else ((gj.f k bP).bind fun t169=>(some t169))) else (some false))=some r:=h
 clear h
 by_cases c2:(bf.size:Int)≤64
 ·rw [if_pos c2] at H
  have Ae:=decide_eq_true c2
  have SQ:decide (bf.size≤64)=true:=decide_eq_true aA
  clear c2
  by_cases c3:cE=true
  ·subst c3
   rw [if_pos rfl] at H
   obtain rfl:=Option.some.inj H
   go_enter Tryz.func186,Tryz.ntmps186
   go_wp2_with (((with_reducible refine bq (N:=1) rfl ?_);refine br ?hg (N:=1) ?hd (cs:=#[.string bf,.string bP,.bool true]) (t:=29) ?hr ?_;(case hd=>rfl);(case hg=>rfl);(case hr=>(go_simp;done));intro pZ hg w4 bJ hb;have mS:=ah.mk (bJ);have aad:=ah.mk ((bI:w.heap.size≤pZ));have aae:=ah.mk ((bI:w.heap.size≤pZ));replace HB:=ah.mk (ay aJ hb);clear hb bJ hg;have S4:w4.cell? ⟨pZ,0,none⟩=some (.string bf):=(af mS.out 0).trans rfl;have S5:w4.cell? ⟨pZ,1,none⟩=some (.string bP):=(af mS.out 1).trans rfl;have abq:w4.cell? ⟨pZ,2,none⟩=some (.bool true):=(af mS.out 2).trans rfl;have S6:=aa mS.out 0;have S7:=aa mS.out 1;have abr:=aa mS.out 2))
   go_ret
   exact ⟨by rfl,aJ⟩
  ·replace c3:=Bool.eq_false_iff.mpr c3
   subst c3
   rw [if_neg (show ¬ (false=true) by decide)] at H
   obtain ⟨t169,A6,H⟩:=bd_ H
   obtain rfl:=Option.some.inj H
   go_enter Tryz.func186,Tryz.ntmps186
   go_wp2_with (first|((with_reducible refine bq (N:=1) rfl ?_);refine br ?hg (N:=1) ?hd (cs:=#[.string bf,.string bP,.bool false]) (t:=29) ?hr ?_;(case hd=>rfl);(case hg=>rfl);(case hr=>(go_simp;done));intro pZ hg w7 bJ hb;have mS:=ah.mk (bJ);have aad:=ah.mk ((bI:w.heap.size≤pZ));have aae:=ah.mk ((bI:w.heap.size≤pZ));replace HB:=ah.mk (ay aJ hb);clear hb bJ hg;have Dv:w7.cell? ⟨pZ,0,none⟩=some (.string bf):=(af mS.out 0).trans rfl;have Dw:w7.cell? ⟨pZ,1,none⟩=some (.string bP):=(af mS.out 1).trans rfl;have S8:w7.cell? ⟨pZ,2,none⟩=some (.bool false):=(af mS.out 2).trans rfl;have Dx:=aa mS.out 0;have Dy:=aa mS.out 1;have S9:=aa mS.out 2)|(go_at_call 94;(with_reducible refine (gj.calls k bP t169 _ ?bk A6.out).mono ?_);(case bk=>exact bp.below HG.out aJ);rintro e w9 ⟨rfl,hb⟩;replace mS:=ah.mk (az (by exact mS.out) hb);replace HB:=ah.mk (ay aJ hb);(try clear hb)))
   go_ret
   exact ⟨by rfl,aJ⟩
 ·rw [if_neg c2] at H
  have Ae:=decide_eq_false c2
  have SQ:decide (bf.size≤64)=false:=decide_eq_false aA
  clear c2
  obtain rfl:=Option.some.inj H
  go_enter Tryz.func186,Tryz.ntmps186
  go_wp2_with (((with_reducible refine bq (N:=1) rfl ?_);refine br ?hg (N:=1) ?hd (cs:=#[.string bf,.string bP,.bool cE]) (t:=29) ?hr ?_;(case hd=>rfl);(case hg=>rfl);(case hr=>(go_simp;done));intro pZ hg mR bJ hb;have mS:=ah.mk (bJ);have aad:=ah.mk ((bI:w.heap.size≤pZ));have aae:=ah.mk ((bI:w.heap.size≤pZ));replace HB:=ah.mk (ay aJ hb);clear hb bJ hg;have Vh:mR.cell? ⟨pZ,0,none⟩=some (.string bf):=(af mS.out 0).trans rfl;have Vi:mR.cell? ⟨pZ,1,none⟩=some (.string bP):=(af mS.out 1).trans rfl;have Vj:mR.cell? ⟨pZ,2,none⟩=some (.bool cE):=(af mS.out 2).trans rfl;have Vk:=aa mS.out 0;have Vl:=aa mS.out 1;have Vm:=aa mS.out 2))
  go_ret
  exact ⟨by rfl,aJ⟩
def tu.f (a0:ByteArray):Option (Bool):=(strings_Cut.f a0 (⟨#[58,58]⟩:ByteArray)).bind fun DF=>((fP.f DF.1).bind fun t173=>((fP.f DF.2.1).bind fun t174=>(if DF.2.2=true then (if t173≥0 then (if t174≥0 then (some (decide ((wrap64 (t173 + t174))≤6))) else (some false)) else (some false)) else (some (t173 == 8)))))
theorem tu.calls (a0:ByteArray) (r:Bool) (w:World) (hG:bp w) (h:tu.f a0=some r):
 Calls Tryz.prog 214 #[.string a0] w fun e w'=>e= .returned (.bool r)∧Below w.heap.size w w':=by
 have HB:=ah.mk (Below.refl w.heap.size w)
 have HG:=ah.mk hG
 clear hG
 have H:((strings_Cut.f a0 (⟨#[58,58]⟩:ByteArray)).bind fun DF=>((fP.f DF.1).bind fun t173=>((fP.f DF.2.1).bind fun t174=>(if DF.2.2=true then (if t173≥0 then (if t174≥0 then (some (decide ((wrap64 (t173 + t174))≤6))) else (some false)) else (some false)) else (some (t173 == 8))))))=some r:=h
 clear h
 obtain ⟨⟨t170,t171,t172⟩,A2,H⟩:=bd_ H
 (try dsimp only at H)
 obtain ⟨t173,A3,H⟩:=bd_ H
 obtain ⟨t174,A4,H⟩:=bd_ H
 by_cases c5:t172=true
 ·subst c5
  rw [if_pos rfl] at H
  by_cases c6:t173≥0
  ·rw [if_pos c6] at H
   have xW:decide (0≤t173)=true:=decide_eq_true c6
   clear c6
   by_cases c7:t174≥0
   ·rw [if_pos c7] at H
    have JZ:decide (0≤t174)=true:=decide_eq_true c7
    clear c7
    obtain rfl:=Option.some.inj H
    go_enter Tryz.func214,Tryz.ntmps214
    go_wp2_with (first|((with_reducible refine bH (f:=153) rfl ?_);refine dx (some 10) rfl rfl Tryz.func153 aq rfl #[.string a0,.string (⟨#[58,58]⟩:ByteArray)] rfl dI ?_;(with_reducible refine (strings_Cut.calls a0 (⟨#[58,58]⟩:ByteArray) t170 t171 true _ ?bk A2.out).mono ?_);(case bk=>exact bp.below HG.out aJ);rintro e w' ⟨rfl,⟨nd,rfl⟩⟩;refine ⟨_,rfl,?_⟩)|((with_reducible refine bH (f:=243) rfl ?_);refine dx (some 15) rfl rfl Tryz.func243 aq rfl #[.string t170] rfl dI ?_;(with_reducible refine (fP.calls t170 t173 _ ?bk A3.out).mono ?_);(case bk=>exact bp.below HG.out dY);rintro e w8 ⟨rfl,hb⟩;refine ⟨_,rfl,?_⟩;replace HB:=ah.mk (ay dY hb);(try clear hb))|((with_reducible refine bH (f:=243) rfl ?_);refine dx (some 17) rfl rfl Tryz.func243 aq rfl #[.string t171] rfl dI ?_;(with_reducible refine (fP.calls t171 t174 _ ?bk A4.out).mono ?_);(case bk=>exact bp.below HG.out aJ);rintro e w9 ⟨rfl,hb⟩;refine ⟨_,rfl,?_⟩;replace HB:=ah.mk (ay aJ hb);(try clear hb)))
    go_ret
    exact ⟨by rfl,aJ⟩
   ·rw [if_neg c7] at H
    have JZ:decide (0≤t174)=false:=decide_eq_false c7
    clear c7
    obtain rfl:=Option.some.inj H
    go_enter Tryz.func214,Tryz.ntmps214
    go_wp2_with (first|((with_reducible refine bH (f:=153) rfl ?_);refine dx (some 10) rfl rfl Tryz.func153 aq rfl #[.string a0,.string (⟨#[58,58]⟩:ByteArray)] rfl dI ?_;(with_reducible refine (strings_Cut.calls a0 (⟨#[58,58]⟩:ByteArray) t170 t171 true _ ?bk A2.out).mono ?_);(case bk=>exact bp.below HG.out aJ);rintro e w' ⟨rfl,⟨nd,rfl⟩⟩;refine ⟨_,rfl,?_⟩)|((with_reducible refine bH (f:=243) rfl ?_);refine dx (some 15) rfl rfl Tryz.func243 aq rfl #[.string t170] rfl dI ?_;(with_reducible refine (fP.calls t170 t173 _ ?bk A3.out).mono ?_);(case bk=>exact bp.below HG.out dY);rintro e mR ⟨rfl,hb⟩;refine ⟨_,rfl,?_⟩;replace HB:=ah.mk (ay dY hb);(try clear hb))|((with_reducible refine bH (f:=243) rfl ?_);refine dx (some 17) rfl rfl Tryz.func243 aq rfl #[.string t171] rfl dI ?_;(with_reducible refine (fP.calls t171 t174 _ ?bk A4.out).mono ?_);(case bk=>exact bp.below HG.out aJ);rintro e vK ⟨rfl,hb⟩;refine ⟨_,rfl,?_⟩;replace HB:=ah.mk (ay aJ hb);(try clear hb)))
    go_ret
    exact ⟨by rfl,aJ⟩
  ·rw [if_neg c6] at H
   have xW:decide (0≤t173)=false:=decide_eq_false c6
   clear c6
   obtain rfl:=Option.some.inj H
   go_enter Tryz.func214,Tryz.ntmps214
   go_wp2_with (first|((with_reducible refine bH (f:=153) rfl ?_);refine dx (some 10) rfl rfl Tryz.func153 aq rfl #[.string a0,.string (⟨#[58,58]⟩:ByteArray)] rfl dI ?_;(with_reducible refine (strings_Cut.calls a0 (⟨#[58,58]⟩:ByteArray) t170 t171 true _ ?bk A2.out).mono ?_);(case bk=>exact bp.below HG.out aJ);rintro e w' ⟨rfl,⟨nd,rfl⟩⟩;refine ⟨_,rfl,?_⟩)|((with_reducible refine bH (f:=243) rfl ?_);refine dx (some 15) rfl rfl Tryz.func243 aq rfl #[.string t170] rfl dI ?_;(with_reducible refine (fP.calls t170 t173 _ ?bk A3.out).mono ?_);(case bk=>exact bp.below HG.out dY);rintro e Cx ⟨rfl,hb⟩;refine ⟨_,rfl,?_⟩;replace HB:=ah.mk (ay dY hb);(try clear hb))|((with_reducible refine bH (f:=243) rfl ?_);refine dx (some 17) rfl rfl Tryz.func243 aq rfl #[.string t171] rfl dI ?_;(with_reducible refine (fP.calls t171 t174 _ ?bk A4.out).mono ?_);(case bk=>exact bp.below HG.out aJ);rintro e ko ⟨rfl,hb⟩;refine ⟨_,rfl,?_⟩;replace HB:=ah.mk (ay aJ hb);(try clear hb)))
   go_ret
   exact ⟨by rfl,aJ⟩
 ·replace c5:=Bool.eq_false_iff.mpr c5
  subst c5
  rw [if_neg (show ¬ (false=true) by decide)] at H
  obtain rfl:=Option.some.inj H
  go_enter Tryz.func214,Tryz.ntmps214
  go_wp2_with (first|((with_reducible refine bH (f:=153) rfl ?_);refine dx (some 10) rfl rfl Tryz.func153 aq rfl #[.string a0,.string (⟨#[58,58]⟩:ByteArray)] rfl dI ?_;(with_reducible refine (strings_Cut.calls a0 (⟨#[58,58]⟩:ByteArray) t170 t171 false _ ?bk A2.out).mono ?_);(case bk=>exact bp.below HG.out aJ);rintro e w' ⟨rfl,⟨nd,rfl⟩⟩;refine ⟨_,rfl,?_⟩)|((with_reducible refine bH (f:=243) rfl ?_);refine dx (some 15) rfl rfl Tryz.func243 aq rfl #[.string t170] rfl dI ?_;(with_reducible refine (fP.calls t170 t173 _ ?bk A3.out).mono ?_);(case bk=>exact bp.below HG.out dY);rintro e JB ⟨rfl,hb⟩;refine ⟨_,rfl,?_⟩;replace HB:=ah.mk (ay dY hb);(try clear hb))|((with_reducible refine bH (f:=243) rfl ?_);refine dx (some 17) rfl rfl Tryz.func243 aq rfl #[.string t171] rfl dI ?_;(with_reducible refine (fP.calls t171 t174 _ ?bk A4.out).mono ?_);(case bk=>exact bp.below HG.out aJ);rintro e qJ ⟨rfl,hb⟩;refine ⟨_,rfl,?_⟩;replace HB:=ah.mk (ay aJ hb);(try clear hb)))
  go_ret
  exact ⟨by rfl,aJ⟩
def aI.l0:Nat→List ByteArray→Int→Int→Option (Int)
 | 0,_,_,_ =>none
 |k + 1,x0,x7,x8=>if x8 < x7 then (if 0≤x8 then (if x8 < (x0.length:Int) then ((gW.f (nj ByteArray.empty x0 x8)).bind fun t176=>(if t176=true then (some x8) else (aI.l0 k x0 x7 (wrap64 (x8 + 1))))) else (none)) else (none)) else (some (-1))
def aI.f (k:Nat) (l0:List ByteArray):Option (Int):=aI.l0 k l0 (l0.length:Int) 0
theorem aI.ey:∀ k,(∀ y0 y1 y2,eY (aI.l0 k y0 y1 y2) (aI.l0 (k + 1) y0 y1 y2))
 | 0=>fun _ _ _ r h=>by simp [aI.l0] at h
 |k + 1=>by
  have mC:=aI.ey k
  ·intro y0 y1 y2
   unfold aI.l0
   repeat' (with_reducible first|exact mC _ _ _|exact eY.refl _|refine eY.ite ?_ ?_|refine eY.bind ?_ (fun _ =>?_))
theorem aI.mono:∀ a0 k,eY (aI.f k a0) (aI.f (k + 1) a0):=by
 intro a0 k
 have mC:=aI.ey k
 unfold aI.f
 repeat' (with_reducible exact mC _ _ _)
theorem aI.calls (k:Nat) (A0:Option Addr) (c0:Nat) (l0:List ByteArray) (r:Int) (w:World) (nE:Kd.C Kd.string w A0 l0.length l0) (hc0:l0.length≤c0) (hG:bp w) (h:aI.f k l0=some r):
 Calls Tryz.prog 184 #[.slice A0 l0.length c0,.func (.func 215) #[] #[]] w fun e w'=>e= .returned (.int .i64 r)∧Below w.heap.size w w':=by
 have qZ:=ah.mk nE
 have E7:=ah.mk hc0
 clear nE hc0
 have HB:=ah.mk (Below.refl w.heap.size w)
 have HG:=ah.mk hG
 clear hG
 have H:(aI.l0 k l0 (l0.length:Int) 0)=some r:=h
 clear h
 have H':=ah.mk H
 clear H
 go_enter Tryz.func184,Tryz.ntmps184
 go_wp2
 go_loopg [8] k (fun kq v8 w'=>∃ (gi:Int),v8= .int .i64 gi∧ah (aI.l0 kq l0 (l0.length:Int) gi=some r)∧ah (kq≤k)∧ah (Below w.heap.size w w'))
 case atStart=>exact ⟨(0),(by rfl),H',⟨Nat.le_refl _⟩,⟨aJ⟩⟩
 case round=>
  clear H'
  obtain ⟨gi,rfl,HA,qi,HB⟩:=hrel
  cases gk with
  |zero=>exact absurd HA.out (by simp [aI.l0])
  |succ k1=>
   have H:=HA.out
   clear HA
   simp only [aI.l0] at H
   by_cases c3:gi < (l0.length:Int)
   ·rw [if_pos c3] at H
    have nr:=decide_eq_true c3
    clear c3
    obtain ⟨c4,H⟩:=lJ H
    have mo:=decide_eq_true c4
    clear c4
    obtain ⟨c5,H⟩:=lJ H
    have pG:=decide_eq_true c5
    clear c5
    obtain ⟨t176,A6,H⟩:=bd_ H
    by_cases c7:t176=true
    ·subst c7
     rw [if_pos rfl] at H
     obtain rfl:=Option.some.inj H
     have LD: 0≤(gi:Int):=of_decide_eq_true cu
     have LF:gi < (l0.length:Int):=of_decide_eq_true cu
     obtain ⟨aeh,abt,uk⟩:=Kd.jO qZ.out gi LD LF
     cases abt
     replace uk:=(HB.out.cell (World.block_lt_of_cell? w _ uk)).trans uk
     replace LD:=eq_true LD
     replace LF:=eq_true LF
     go_wp2_with ((go_at_call 215;(with_reducible refine (gW.calls (nj ByteArray.empty l0 gi) true _ ?bk A6.out).mono ?_);(case bk=>exact bp.below HG.out aJ);rintro e w8 ⟨rfl,hb⟩;replace HB:=ah.mk (ay aJ hb);(try clear hb)))
     go_ret
     exact ⟨by rfl,aJ⟩
    ·replace c7:=Bool.eq_false_iff.mpr c7
     subst c7
     rw [if_neg (show ¬ (false=true) by decide)] at H
     have H':=ah.mk H
     clear H
     have LD: 0≤(gi:Int):=of_decide_eq_true cu
     have LF:gi < (l0.length:Int):=of_decide_eq_true cu
     obtain ⟨aeh,abt,uk⟩:=Kd.jO qZ.out gi LD LF
     cases abt
     replace uk:=(HB.out.cell (World.block_lt_of_cell? w _ uk)).trans uk
     replace LD:=eq_true LD
     replace LF:=eq_true LF
     go_wp2_with ((go_at_call 215;(with_reducible refine (gW.calls (nj ByteArray.empty l0 gi) false _ ?bk A6.out).mono ?_);(case bk=>exact bp.below HG.out aJ);rintro e w9 ⟨rfl,hb⟩;replace HB:=ah.mk (ay aJ hb);(try clear hb)))
     go_roundg k1
     case measure=>have:=qi.out;omega
     case rel=>exact ⟨(wrap64 (gi + 1)),(by rfl),H',⟨lI⟩,⟨aJ⟩⟩
   ·rw [if_neg c3] at H
    have nr:=decide_eq_false c3
    clear c3
    obtain rfl:=Option.some.inj H
    go_wp2
    go_ret
    exact ⟨by rfl,aJ⟩
def bL.f (k:Nat) (l0:List ByteArray):Option (Bool):=(aI.f k l0).bind fun t177=>(some (decide (t177≥0)))
theorem bL.mono:∀ a0 k,eY (bL.f k a0) (bL.f (k + 1) a0):=by
 intro a0 k
 unfold bL.f
 repeat' (with_reducible first|exact aI.mono _ _|exact eY.refl _|refine eY.bind ?_ (fun _ =>?_))
theorem bL.calls (k:Nat) (A0:Option Addr) (c0:Nat) (l0:List ByteArray) (r:Bool) (w:World) (nE:Kd.C Kd.string w A0 l0.length l0) (hc0:l0.length≤c0) (hG:bp w) (h:bL.f k l0=some r):
 Calls Tryz.prog 140 #[.slice A0 l0.length c0,.func (.func 215) #[] #[]] w fun e w'=>e= .returned (.bool r)∧Below w.heap.size w w':=by
 have qZ:=ah.mk nE
 have E7:=ah.mk hc0
 clear nE hc0
 have HB:=ah.mk (Below.refl w.heap.size w)
 have HG:=ah.mk hG
 clear hG
 have H:((aI.f k l0).bind fun t177=>(some (decide (t177≥0))))=some r:=h
 clear h
 obtain ⟨t177,A3,H⟩:=bd_ H
 obtain rfl:=Option.some.inj H
 go_enter Tryz.func140,Tryz.ntmps140
 go_wp2_with (((with_reducible refine bH (f:=184) rfl ?_);refine dx (some 7) rfl rfl Tryz.func184 aq rfl #[.slice A0 l0.length c0,.func (.func 215) #[] #[]] rfl dI ?_;(with_reducible refine (aI.calls k _ _ l0 t177 _ ?bk ?bM ?cQ A3.out).mono ?_);(case bk=>repeat (exact qZ.out));(case bM=>exact E7.out);(case cQ=>exact bp.below HG.out aJ);rintro e w4 ⟨rfl,hb⟩;refine ⟨_,rfl,?_⟩;replace HB:=ah.mk (ay aJ hb);(try clear hb)))
 go_ret
 exact ⟨by rfl,aJ⟩
def cV.j0:Nat→ByteArray→Bool→Option (Bool)
 | 0,_,_ =>none
 |k + 1,x0,xA=>if xA=true then (if 5≤(x0.size:Int) then ((tu.f (x0.extract 5 x0.size)).bind fun t179=>(some t179)) else (none)) else ((strings_Split.f x0 (⟨#[46]⟩:ByteArray)).bind fun t180=>(if (t180.length:Int)=4 then ((bL.f k t180).bind fun t183=>(some (!t183))) else (some false)))
def cV.f (k:Nat) (a0:ByteArray):Option (Bool):=if (a0.size:Int) > 5 then (if 0≤5 then (if 5≤(a0.size:Int) then ((eW.f (a0.extract 0 5)).bind fun t178=>(cV.j0 k a0 (t178.toList == ([105,112,118,54,58]:List UInt8)))) else (none)) else (none)) else (cV.j0 k a0 false)
theorem cV.ey:∀ k,(∀ y0 y1,eY (cV.j0 k y0 y1) (cV.j0 (k + 1) y0 y1))
 | 0=>fun _ _ r h=>by simp [cV.j0] at h
 |k + 1=>by
  have mC:=cV.ey k
  ·intro y0 y1
   unfold cV.j0
   repeat' (with_reducible first|exact bL.mono _ _|exact eY.refl _|refine eY.ite ?_ ?_|refine eY.bind ?_ (fun _ =>?_))
theorem cV.mono:∀ a0 k,eY (cV.f k a0) (cV.f (k + 1) a0):=by
 intro a0 k
 have mC:=cV.ey k
 unfold cV.f
 repeat' (with_reducible first|exact mC _ _|exact eY.refl _|refine eY.ite ?_ ?_|refine eY.bind ?_ (fun _ =>?_))
theorem cV.calls (k:Nat) (a0:ByteArray) (r:Bool) (w:World) (hG:bp w) (h:cV.f k a0=some r):
 Calls Tryz.prog 187 #[.string a0] w fun e w'=>e= .returned (.bool r)∧Below w.heap.size w w':=by
 have HB:=ah.mk (Below.refl w.heap.size w)
 have HG:=ah.mk hG
 clear hG
 have H:(if (a0.size:Int) > 5 then (if 0≤5 then (if 5≤(a0.size:Int) then ((eW.f (a0.extract 0 5)).bind fun t178=>(cV.j0 k a0 (t178.toList == ([105,112,118,54,58]:List UInt8)))) else (none)) else (none)) else (cV.j0 k a0 false))=some r:=h
 clear h
 have HC2:=ah.mk H
 clear H
 go_enter Tryz.func187,Tryz.ntmps187
 go_upto_region 1 with (fail)
 go_cut [12] (fun v12 wc=>∃ (kq:Nat) (bT:Bool),v12= .bool bT∧ah (cV.j0 kq a0 bT=some r)∧ah (kq≤k)∧ah (Below w.heap.size w wc))
 case first=>
  have H:=HC2.out
  clear HC2
  by_cases c3:(a0.size:Int) > 5
  ·rw [if_pos c3] at H
   have nr:decide (5 < (a0.size:Int))=true:=decide_eq_true c3
   have xk:decide (5 < a0.size)=true:=decide_eq_true aA
   clear c3
   obtain ⟨c4,H⟩:=lJ H
   have mo:=eq_true c4
   have Aj:=decide_eq_true c4
   clear c4
   obtain ⟨c5,H⟩:=lJ H
   have pG:=eq_true c5
   have Lx:=decide_eq_true c5
   clear c5
   obtain ⟨t178,A6,H⟩:=bd_ H
   have H':=ah.mk H
   clear H
   go_wp2_with ((go_at_call 139;(with_reducible refine (eW.calls (a0.extract 0 5) t178 _ A6.out).mono ?_);rintro e w7 ⟨rfl,hb⟩;replace HB:=ah.mk (ay aJ hb);(try clear hb)))
   go_meet
   case rel=>exact ⟨_,((t178.toList == ([105,112,118,54,58]:List UInt8))),(by rfl),H',⟨aA⟩,⟨aJ⟩⟩
  ·rw [if_neg c3] at H
   have nr:decide (5 < (a0.size:Int))=false:=decide_eq_false c3
   have xk:decide (5 < a0.size)=false:=decide_eq_false aA
   clear c3
   have H':=ah.mk H
   clear H
   go_wp2
   go_meet
   case rel=>exact ⟨_,(false),(by rfl),H',⟨aA⟩,⟨aJ⟩⟩
 case rest=>
  clear HC2
  obtain ⟨kq,bT,rfl,HA,HJ1,HB⟩:=hcut
  cases kq with
  |zero=>exact absurd HA.out (by simp [cV.j0])
  |succ kj1=>
   have H:=HA.out
   clear HA
   simp only [cV.j0] at H
   by_cases c8:bT=true
   ·subst c8
    rw [if_pos rfl] at H
    obtain ⟨c9,H⟩:=lJ H
    have SY:=eq_true c9
    have aCk:=decide_eq_true c9
    clear c9
    obtain ⟨t179,A10,H⟩:=bd_ H
    obtain rfl:=Option.some.inj H
    go_wp2_with (((with_reducible refine bH (f:=214) rfl ?_);refine dx (some 15) rfl rfl Tryz.func214 aq rfl #[.string (a0.extract 5 a0.size)] rfl dI ?_;(with_reducible refine (tu.calls (a0.extract 5 a0.size) t179 _ ?bk A10.out).mono ?_);(case bk=>exact bp.below HG.out aJ);rintro e vK ⟨rfl,hb⟩;refine ⟨_,rfl,?_⟩;replace HB:=ah.mk (ay aJ hb);(try clear hb)))
    go_ret
    exact ⟨by rfl,aJ⟩
   ·replace c8:=Bool.eq_false_iff.mpr c8
    subst c8
    rw [if_neg (show ¬ (false=true) by decide)] at H
    obtain ⟨t180,A12,H⟩:=bd_ H
    by_cases c13:(t180.length:Int)=4
    ·rw [if_pos c13] at H
     have DG:=beq_iff_eq.mpr c13
     have Ke:=bne_eq_false_iff_eq.mpr c13
     clear c13
     obtain ⟨t183,A14,H⟩:=bd_ H
     obtain rfl:=Option.some.inj H
     go_wp2_with (first|((with_reducible refine bH (f:=141) rfl ?_);refine dx (some 17) rfl rfl Tryz.func141 aq rfl #[.string a0,.string (⟨#[46]⟩:ByteArray)] rfl dI ?_;(with_reducible refine (strings_Split.calls a0 (⟨#[46]⟩:ByteArray) t180 _ ?bk A12.out).mono ?_);(case bk=>exact bp.below HG.out aJ);rintro e qJ ⟨awz,rfl,ho0,hb⟩;refine ⟨_,rfl,?_⟩;have DI:=ah.mk (Kd.dW ho0 (cg aJ));replace HB:=ah.mk (ay aJ hb);(try clear hb);(try clear ho0);obtain ⟨LG,LH,Ta⟩:=Kd.dh DI.out;subst Ta)|(go_at_call 140;(with_reducible refine (bL.calls kj1 _ _ t180 t183 _ ?bk ?bM ?cQ A14.out).mono ?_);(case bk=>repeat (exact (Kd.ck DI.out).2.2));(case bM=>exact (Kd.ck DI.out).2.1);(case cQ=>exact bp.below HG.out aJ);rintro e sL ⟨rfl,hb⟩;replace DI:=ah.mk (Kd.bG (by exact DI.out) hb);replace HB:=ah.mk (ay aJ hb);(try clear hb)))
     go_ret
     exact ⟨by rfl,aJ⟩
    ·rw [if_neg c13] at H
     have DG:=beq_eq_false_iff_ne.mpr c13
     have Ke:=bne_iff_ne.mpr c13
     obtain rfl:=Option.some.inj H
     go_wp2_with (((with_reducible refine bH (f:=141) rfl ?_);refine dx (some 17) rfl rfl Tryz.func141 aq rfl #[.string a0,.string (⟨#[46]⟩:ByteArray)] rfl dI ?_;(with_reducible refine (strings_Split.calls a0 (⟨#[46]⟩:ByteArray) t180 _ ?bk A12.out).mono ?_);(case bk=>exact bp.below HG.out aJ);rintro e tK ⟨awz,rfl,ho0,hb⟩;refine ⟨_,rfl,?_⟩;have DI:=ah.mk (Kd.dW ho0 (cg aJ));replace HB:=ah.mk (ay aJ hb);(try clear hb);(try clear ho0);obtain ⟨aCl,aCm,awA⟩:=Kd.dh DI.out;subst awA))
     go_ret
     exact ⟨by rfl,aJ⟩
end Go.Proofs.YtbjjaaodfbjkfaaGreatDoor.mN
