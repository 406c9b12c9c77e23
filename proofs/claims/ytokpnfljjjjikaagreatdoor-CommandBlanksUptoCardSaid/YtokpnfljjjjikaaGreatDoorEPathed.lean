import Derived.Test.YtokpnfljjjjikaaGreatDoorQCbx9
import Derived.Test.YtokpnfljjjjikaaGreatDoorEParams
namespace Go.Proofs.YtokpnfljjjjikaaGreatDoor.nK
open Go.RowKit Go.Proofs.aj.bQ Go.Proofs.aj.fR Go.Proofs.aj.cM
set_option linter.unusedSimpArgs false
def yM:Bool×Bool×List ByteArray×ByteArray×ByteArray×Bool×List gw:=(false,false,[],⟨#[]⟩,⟨#[]⟩,false,[])
def dU.f (k:Nat) (s ahead:ByteArray):Option (Bool×Bool×List ByteArray×ByteArray×ByteArray×Bool×List gw):=
 if (s.size:Int) < (ahead.size:Int) then some yM else
 (cu.f (s.extract 0 ahead.size)).bind fun g=>if g.toList=ahead.toList then
   (bT.f k (s.extract ahead.size s.size)).bind fun p=>
     if p.2.2.2.2.2.2=0 then
      if 0≤p.2.2.2.2.2.1∧(ahead.size:Int) + p.2.2.2.2.2.1≤(s.size:Int)∧(s.size:Int) < 4611686018427387904 then
       (bK.f k (s.extract ((ahead.size:Int) + p.2.2.2.2.2.1).toNat s.size)).bind fun l=>some (l.2,p.1,p.2.1,p.2.2.1,p.2.2.2.1,p.2.2.2.2.1,l.1)
      else none
     else some yM
 else some yM
theorem dU.mono:∀ s a k,cH (dU.f k s a) (dU.f (k + 1) s a):=by
 intro s a k
 unfold dU.f
 exact cH.ite (cH.refl _) (cH.bind (cH.refl _) fun _ =>cH.ite (cH.bind (bT.mono _ _) fun _ =>cH.ite (cH.ite (cH.bind (bK.mono _ _) fun _ =>cH.refl _) (cH.refl _)) (cH.refl _)) (cH.refl _))
abbrev Bh (v:Int) (a:ByteArray) (n:Bool) (vr:Value) (l d:ByteArray) (t:Bool) (vp:Value):Array Value:=#[.int .u8 v,.string a,.bool n,vr,.string l,.string d,.bool t,vp]
theorem Yx {W W1:World} {g:Nat} {v:Int} {a:ByteArray} {x2 x3 x4 x5 x6 x7:Value} (n:Bool) (vr:Value) (l d:ByteArray) (t:Bool) (vp:Value) (hb:W.heap[g]? =some (.cells #[.int .u8 v,.string a,x2,x3,x4,x5,x6,x7] 35 (0,0)))
 (hW:W1=(((((W.setCell ⟨g,2,none⟩ (.bool n)).setCell ⟨g,3,none⟩ vr).setCell ⟨g,4,none⟩ (.string l)).setCell ⟨g,5,none⟩ (.string d)).setCell ⟨g,6,none⟩ (.bool t)).setCell ⟨g,7,none⟩ vp):
 W1.heap[g]? =some (.cells (Bh v a n vr l d t vp) 35 (0,0))∧br W W1 g none∧(∀ w0:World,Below w0.heap.size w0 W→w0.heap.size≤g→Below w0.heap.size w0 W1)∧
 (∀ (b:Nat) (v:Value) (xs:List ByteArray),Kd.R Kd.string 9 W b (fun _ =>True) v xs→Kd.R Kd.string 9 W1 b (fun _ =>True) v xs)∧
 (∀ (b:Nat) (v:Value) (xs:List gw),Kd.R zN 58 W b (fun _ =>True) v xs→Kd.R zN 58 W1 b (fun _ =>True) v xs):=by
 subst hW
 refine ⟨?_,?_,?_,?_,?_⟩
 ·refine cZ (cs:=#[.int .u8 v,.string a,.bool n,vr,.string l,.string d,.bool t,x7]) ?_ 7 _ rfl
  refine cZ (cs:=#[.int .u8 v,.string a,.bool n,vr,.string l,.string d,x6,x7]) ?_ 6 _ rfl
  refine cZ (cs:=#[.int .u8 v,.string a,.bool n,vr,.string l,x5,x6,x7]) ?_ 5 _ rfl
  refine cZ (cs:=#[.int .u8 v,.string a,.bool n,vr,x4,x5,x6,x7]) ?_ 4 _ rfl
  refine cZ (cs:=#[.int .u8 v,.string a,.bool n,x3,x4,x5,x6,x7]) ?_ 3 _ rfl
  exact cZ hb 2 _ rfl
 ·exact (((((((br.refl _ _ _).Ew _ _).Ew _ _).Ew _ _).Ew _ _).Ew _ _).Ew _ _)
 ·exact fun w0 h hg=>bh (bh (bh (bh (bh (bh h hg) hg) hg) hg) hg) hg
 ·intro b v xs h
  have h1:=Kd.nk h hb bG
  exact Kd.gL (Kd.eu (Kd.eu (Kd.eu (Kd.eu (Kd.eu (Kd.eu h1 (fun _ h=>h.2) _) (fun _ h=>h.2) _) (fun _ h=>h.2) _) (fun _ h=>h.2) _) (fun _ h=>h.2) _) (fun _ h=>h.2) _) (fun _ _ =>trivial)
 ·intro b v xs h
  have h1:=Kd.nk h hb bG
  exact Kd.gL (Kd.eu (Kd.eu (Kd.eu (Kd.eu (Kd.eu (Kd.eu h1 (fun _ h=>h.2) _) (fun _ h=>h.2) _) (fun _ h=>h.2) _) (fun _ h=>h.2) _) (fun _ h=>h.2) _) (fun _ h=>h.2) _) (fun _ _ =>trivial)
theorem jY {w0 w w1:World} {g:Nat} {o:Obj} (hb:w.heap[g]? =some o) (hB:Below w0.heap.size w0 w) (h1:Below w.heap.size w w1):w1.heap[g]? =some o∧Below w0.heap.size w0 w1∧br w w1 g none:=
 ⟨(h1.block _ (kf hb)).trans hb,bR hB hB.size h1,br.of_below h1 g none⟩
set_option maxRecDepth 100000 in
set_option maxHeartbeats 8000000 in
theorem dU.calls (k g:Nat) (s ahead:ByteArray) (v:Int) (a:ByteArray) (r0 r1:Bool) (r2:List ByteArray) (r3 r4:ByteArray) (r5:Bool) (r6:List gw) (w0 w:World) (hb:w.heap[g]? =some (.cells (Bh v a false (.slice none 0 0) ⟨#[]⟩ ⟨#[]⟩ false (.slice none 0 0)) 35 (0,0))) (hg:w0.heap.size≤g) (hB:Below w0.heap.size w0 w) (hG:aQ w0) (h:dU.f k s ahead=some (r0,r1,r2,r3,r4,r5,r6)):
 Calls Tryz.prog 96 #[.pointer (some ⟨g,0,none⟩),.string s,.string ahead] w fun e w'=>∃ Rz v2_:Value,e= .returned (.bool r0)∧w'.heap[g]? =some (.cells (Bh v a r1 Rz r3 r4 r5 v2_) 35 (0,0))∧Kd.R Kd.string 9 w' w0.heap.size (fun _ =>True) Rz r2∧Kd.R zN 58 w' w0.heap.size (fun _ =>True) v2_ r6∧Below w0.heap.size w0 w'∧br w w' g none:=by
 unfold dU.f at h
 have HG:=Lib.hid hG
 have TW:=Lib.hid hb
 have BF:=Lib.hid hB
 have HGE:=Lib.hid hg
 clear hG hb hB hg
 by_cases hlen:(s.size:Int) < (ahead.size:Int)
 ·rw [if_pos hlen] at h
  simp only [yM,Option.some.injEq,Prod.mk.injEq] at h
  obtain ⟨rfl,rfl,rfl,rfl,rfl,rfl,rfl⟩:=h
  have e1:=decide_eq_true hlen
  go_enter Tryz.func96,Tryz.ntmps96
  go_wp2
  go_ret
  exact ⟨_,_,rfl,TW.out,Kd.eX _ _ _ _ _,Kd.eX _ _ _ _ _,BF.out,br.refl _ _ _⟩
 rw [if_neg hlen] at h
 have e1:=decide_eq_false hlen
 have e2:decide ((0:Int)≤(ahead.size:Int))=true:=decide_eq_true aq
 have e3:decide ((ahead.size:Int)≤(s.size:Int))=true:=decide_eq_true aq
 obtain ⟨gt,A1,h⟩:=Option.bind_eq_some_iff.mp h
 have pS:=Lib.hid A1
 clear A1
 by_cases hgt:gt.toList=ahead.toList
 case neg=>
  rw [if_neg hgt] at h
  simp only [yM,Option.some.injEq,Prod.mk.injEq] at h
  obtain ⟨rfl,rfl,rfl,rfl,rfl,rfl,rfl⟩:=h
  have e4:(gt.toList == ahead.toList)=false:=beq_eq_false_iff_ne.mpr hgt
  go_enter Tryz.func96,Tryz.ntmps96
  go_wp2_with (go_at_call 93;refine (cu.calls _ gt _ pS.out).mono ?_;rintro e w1 ⟨rfl,hb1⟩;have su:=Lib.hid hb1;clear hb1)
  go_ret
  exact ⟨_,_,rfl,(jY TW.out BF.out su.out).1,Kd.eX _ _ _ _ _,Kd.eX _ _ _ _ _,(jY TW.out BF.out su.out).2⟩
 rw [if_pos hgt] at h
 have e4:(gt.toList == ahead.toList)=true:=beq_iff_eq.mpr hgt
 clear hgt
 obtain ⟨⟨p1,p2,p3,p4,p5,p6,p7⟩,A2,h⟩:=Option.bind_eq_some_iff.mp h
 dsimp only at h
 have qu:=Lib.hid A2
 clear A2
 by_cases he:p7=0
 case neg=>
  rw [if_neg he] at h
  simp only [yM,Option.some.injEq,Prod.mk.injEq] at h
  obtain ⟨rfl,rfl,rfl,rfl,rfl,rfl,rfl⟩:=h
  have e5:(p7 == 0)=false:=beq_eq_false_iff_ne.mpr he
  go_enter Tryz.func96,Tryz.ntmps96
  go_wp2_with (first
   |(go_at_call 93;refine (cu.calls _ gt _ pS.out).mono ?_;rintro e w1 ⟨rfl,hb1⟩;have su:=Lib.hid hb1;clear hb1)
   |(go_at_call 17;refine (bT.calls k _ p1 p2 p3 p4 p5 p6 p7 _ (HG.out.below (jY TW.out BF.out su.out).2.1) qu.out).mono ?_;rintro e w2 ⟨v1,rfl,ho,hb2⟩;obtain ⟨V1,c1,rfl⟩:=Kd.fI ho;have TX:=Lib.hid ho;have iE:=Lib.hid (bR su.out su.out.size hb2);clear ho hb2))
  go_ret
  exact ⟨_,_,rfl,(jY TW.out BF.out (aG iE.out _)).1,Kd.eX _ _ _ _ _,Kd.eX _ _ _ _ _,(jY TW.out BF.out (aG iE.out _)).2⟩
 rw [if_pos he] at h
 subst he
 by_cases hq: 0≤p6∧(ahead.size:Int) + p6≤(s.size:Int)∧(s.size:Int) < 4611686018427387904
 case neg=>rw [if_neg hq] at h;cases h
 rw [if_pos hq] at h
 obtain ⟨hq1,hq2,hq3⟩:=hq
 obtain ⟨⟨l1,l2⟩,A3,h⟩:=Option.bind_eq_some_iff.mp h
 simp only [Option.some.injEq,Prod.mk.injEq] at h
 obtain ⟨rfl,rfl,rfl,rfl,rfl,rfl,rfl⟩:=h
 have uu:=Lib.hid A3
 clear A3
 have hw:wrap64 ((ahead.size:Int) + p6)=(ahead.size:Int) + p6:=by unfold wrap64;omega
 have e5:decide ((0:Int)≤(ahead.size:Int) + p6)=true:=decide_eq_true aq
 have e6:decide ((ahead.size:Int) + p6≤(s.size:Int))=true:=decide_eq_true hq2
 go_enter Tryz.func96,Tryz.ntmps96
 go_wp2_with (first
  |(go_at_call 93;refine (cu.calls _ gt _ pS.out).mono ?_;rintro e w1 ⟨rfl,hb1⟩;have su:=Lib.hid hb1;clear hb1)
  |(go_at_call 17;refine (bT.calls k _ p1 p2 p3 p4 p5 p6 0 _ (HG.out.below (jY TW.out BF.out su.out).2.1) qu.out).mono ?_;rintro e w2 ⟨v1,rfl,ho,hb2⟩;obtain ⟨V1,c1,rfl⟩:=Kd.fI ho;have TX:=Lib.hid ho;have iE:=Lib.hid (bR su.out su.out.size hb2);clear ho hb2)
  |(go_at_call 141;refine (bK.calls k _ l1 l2 _ (HG.out.below (jY TW.out BF.out (aG iE.out _)).2.1) uu.out).mono ?_;rintro e w4 ⟨v2,rfl,ho,hb4⟩;obtain ⟨V2,c2,rfl⟩:=Kd.fI ho;have hbk:=(hb4.block w2.heap.size aV).trans (heap_alloc_new w2 _);have hcb0:w4.cell? ⟨w2.heap.size,0,none⟩=some (.bool p1):=(af hbk 0).trans rfl;have al7:w4.cell? ⟨w2.heap.size,1,none⟩=some (.slice V1 p2.length c1):=(af hbk 1).trans rfl;have aip:w4.cell? ⟨w2.heap.size,2,none⟩=some (.string p3):=(af hbk 2).trans rfl;have aiq:w4.cell? ⟨w2.heap.size,3,none⟩=some (.string p4):=(af hbk 3).trans rfl;have al8:w4.cell? ⟨w2.heap.size,4,none⟩=some (.bool p5):=(af hbk 4).trans rfl;have h3:=aG iE.out (.cells #[.bool p1,.slice V1 p2.length c1,.string p3,.string p4,.bool p5] 32);have HB4:=Lib.hid (bR h3 h3.size hb4);have Vt:=Lib.hid (Kd.fB (Kd.iD TX.out (.cells #[.bool p1,.slice V1 p2.length c1,.string p3,.string p4,.bool p5] 32)) hb4);have HO4:=Lib.hid ho;have hbg:=(jY TW.out BF.out HB4.out).1;have hf2:=aa hbg 2;have hf3:=aa hbg 3;have hf4:=aa hbg 4;have hf5:=aa hbg 5;have hf6:=aa hbg 6;have hf7:=aa hbg 7;have hg2:w4.cell? ⟨g,2,none⟩=some (.bool false):=(af hbg 2).trans rfl;have hg3:w4.cell? ⟨g,3,none⟩=some (.slice none 0 0):=(af hbg 3).trans rfl;have hg4:w4.cell? ⟨g,4,none⟩=some (.string ⟨#[]⟩):=(af hbg 4).trans rfl;have hg5:w4.cell? ⟨g,5,none⟩=some (.string ⟨#[]⟩):=(af hbg 5).trans rfl;have hg6:w4.cell? ⟨g,6,none⟩=some (.bool false):=(af hbg 6).trans rfl;have hg7:w4.cell? ⟨g,7,none⟩=some (.slice none 0 0):=(af hbg 7).trans rfl;have HBG:=Lib.hid hbg;clear ho hb4 h3 hbk hbg))
 go_ret
 obtain ⟨q1,q2,q3,q4,q5⟩:=Yx (W1:=_) p1 (.slice V1 p2.length c1) p3 p4 p5 (.slice V2 l1.length c2) HBG.out rfl
 have h4:=jY TW.out BF.out HB4.out
 exact ⟨_,_,rfl,q1,q4 _ _ _ (Kd.kr Vt.out (jY TW.out BF.out su.out).2.1.size),q5 _ _ _ (Kd.kr HO4.out (jY TW.out BF.out (aG iE.out _)).2.1.size),q3 _ h4.2.1 HGE.out,h4.2.2.trans q2 (.inl rfl)⟩
end Go.Proofs.YtokpnfljjjjikaaGreatDoor.nK
