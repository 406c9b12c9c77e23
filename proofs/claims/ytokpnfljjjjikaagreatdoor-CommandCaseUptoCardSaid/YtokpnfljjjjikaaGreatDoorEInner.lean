import Derived.Test.YtokpnfljjjjikaaGreatDoorQCbx8
set_option maxHeartbeats 8000000
set_option maxRecDepth 100000
namespace Go.Proofs.YtokpnfljjjjikaaGreatDoor.n9
open Go.RowKit Go.Proofs.aj.bQ Go.Proofs.aj.gf Go.Proofs.aj.cT
set_option linter.unusedSimpArgs false
def iz.f (k:Nat) (s:ByteArray) (p:Int) (rs:List ByteArray):Option (Bool×ByteArray×Int×List ByteArray):=
 (bu.f s p 64).bind fun t=>(ck.f k t.2.1 t.2.2).bind fun d=>if rs.length < 8000000000000 then some (t.1 && d.2.1,d.2.2.1,d.2.2.2,rs ++ [d.1]) else none
def dD.l0:Nat→ByteArray→Int→List ByteArray→Option (Bool×ByteArray×Int×List ByteArray)
 | 0,_,_,_ =>none
 |k + 1,s,p,rs=>(iz.f k s p rs).bind fun t=>if t.1=true then (bu.f t.2.1 t.2.2.1 44).bind fun c=>if c.1=true then dD.l0 k c.2.1 c.2.2 t.2.2.2 else some (true,c.2.1,c.2.2,t.2.2.2) else some (false,t.2.1,t.2.2.1,t.2.2.2)
structure Held (w0 we W:World) (g a b:Nat) (s:ByteArray) (p:Int) (v:Value) (rs:List ByteArray):Prop where
 st:ay w0 W g s p
 bl:Below w0.heap.size w0 W
 kp:bB we W g none
 ha:W.heap[a]? =some (.cells #[.pointer (some ⟨g,0,none⟩)] 80 (0,0))
 hb:W.heap[b]? =some (.cells #[.bool false,v,.string ⟨#[]⟩,.string ⟨#[]⟩,.bool false] 32 (0,0))
 hr:Kd.R Kd.string 9 W we.heap.size (fun _ =>True) v rs
 sz:w0.heap.size≤we.heap.size
 hc:W.heap[we.heap.size + 1]? =some (.cells #[.bool false,.slice none 0 0,.string ⟨#[]⟩,.string ⟨#[]⟩,.bool false] 32 (0,0))
 ga:we.heap.size≤a
 gb:we.heap.size + 1 < b
section
variable {w0 we W W1:World} {g a b:Nat} {s s1:ByteArray} {p p1:Int} {v:Value} {rs:List ByteArray}
theorem Held.call (H:Held w0 we W g a b s p v rs) (hi:ay w0 W1 g s1 p1) (hb:Below w0.heap.size w0 W1) (hk:bB W W1 g none):Held w0 we W1 g a b s1 p1 v rs where
 st:=hi
 bl:=hb
 kp:=H.kp.trans hk (.inl rfl)
 ha:=bB.blk hk H.ha (ay.rq H.st H.ha bL).symm bf
 hb:=bB.blk hk H.hb (ay.rq H.st H.hb bL).symm bf
 hr:=Kd.gp (Kd.ud (ay.apart H.st H.hr bL) hk (fun _ h=>h.2)) (fun _ h=>h.1)
 sz:=H.sz
 hc:=bB.blk hk H.hc (ay.rq H.st H.hc bL).symm bf
 ga:=H.ga
 gb:=H.gb
theorem Held.ca (H:Held w0 we W g a b s p v rs):W.cell? ⟨a,0,none⟩=some (.pointer (some ⟨g,0,none⟩)):=(af H.ha 0).trans rfl
theorem Held.cb (H:Held w0 we W g a b s p v rs):W.cell? ⟨b,1,none⟩=some v:=(af H.hb 1).trans rfl
theorem Held.fb (H:Held w0 we W g a b s p v rs) (j:Nat):W.frozen? ⟨b,j,none⟩=false:=aa H.hb j
theorem Held.alloc (H:Held w0 we W g a b s p v rs) (o:Obj):Held w0 we (W.alloc o) g a b s p v rs:=
 H.call (H.st.alloc o) (aD H.bl o) (pH (bB.refl _ _ _) o)
theorem Held.app (H:Held w0 we W g a b s p v rs) {v1:Value} {W2:World} {n:ByteArray} (ho:Kd.R Kd.string 9 W2 we.heap.size (fun _ =>True) v1 (rs ++ [n])) (hb:Below we.heap.size W W2) (hg:W.grownBy W2 v.ownBlock):Held w0 we (W2.setCell ⟨b,1,none⟩ v1) g a b s p v1 (rs ++ [n]):=by
 have hB:W2.heap[b]? =some (.cells #[.bool false,v,.string ⟨#[]⟩,.string ⟨#[]⟩,.bool false] 32 (0,0)):=tM H.hb hg (Kd.UL H.hr H.hb bL)
 have hA:W2.heap[a]? =some (.cells #[.pointer (some ⟨g,0,none⟩)] 80 (0,0)):=tM H.ha hg (Kd.UL H.hr H.ha bL)
 have hS:ay w0 W2 g s p:=ay.grown H.st hg (ay.own_ne H.st H.hr bL)
 have hab:a≠b:=by
  rintro rfl
  rw [hA] at hB
  simp at hB
 have hgb:g≠b:=ay.rq hS hB bL
 have hC:W2.heap[we.heap.size + 1]? =some (.cells #[.bool false,.slice none 0 0,.string ⟨#[]⟩,.string ⟨#[]⟩,.bool false] 32 (0,0)):=tM H.hc hg (Kd.UL H.hr H.hc bL)
 have hG:=H.gb
 refine ⟨ay.far hS hgb _,?_,?_,?_,?_,?_,H.sz,fG hC (by show _≠b;omega) _,H.ga,H.gb⟩
 ·exact (bS H.bl H.sz hb).setCell (Nat.le_trans H.sz (by show _≤b;omega)) _
 ·exact oO (bB.trans H.kp (bB.qg hg g) (Kd.wU H.hr)) (by show _≤b;omega) _
 ·exact fG hA hab _
 ·have:=Fm hB 1 v1
  simpa using this
 ·refine Kd.gp (Kd.cJ (Kd.gp (Kd.wT ho) (ok':=fun k=>k≠b) ?_) (fun k hk=>hk) v1) (fun _ _ =>trivial)
  rintro k ⟨_,_,_,q,hq,cells,hc⟩ rfl
  rw [hB] at hc
  injection hc with hc
  injection hc with _ hc
  have h1:q=9∨q∈Kd.string.E:=by simpa using hq
  rcases h1 with h1|h1
  ·exact absurd (hc.trans h1) bL
  ·cases h1
end
theorem iz.calls (k g a b:Nat) (s:ByteArray) (p:Int) (v:Value) (rs:List ByteArray) (r1:Bool) (s1:ByteArray) (p1:Int) (rs1:List ByteArray) (w0 we w:World) (H:Held w0 we w g a b s p v rs) (h:iz.f k s p rs=some (r1,s1,p1,rs1)):
 Calls Tryz.prog 116 #[.pointer (some ⟨a,0,none⟩),.pointer (some ⟨b,0,none⟩)] w fun e w'=>e= .returned (.bool r1)∧∃ v1,Held w0 we w' g a b s1 p1 v1 rs1:=by
 unfold iz.f at h
 obtain ⟨⟨t1,t2,t3⟩,A1,h⟩:=Option.bind_eq_some_iff.mp h
 obtain ⟨⟨d1,d2,d3,d4⟩,A2,h⟩:=Option.bind_eq_some_iff.mp h
 dsimp only at A1 A2 h
 have ht:t1=true∨t1=false:=by cases t1<;>simp
 by_cases hl:rs.length < 8000000000000
 case neg=>rw [if_neg hl] at h;cases h
 rw [if_pos hl] at h
 simp only [Option.some.injEq,Prod.mk.injEq] at h
 obtain ⟨rfl,rfl,rfl,rfl⟩:=h
 have HL:=ah.mk hl
 have qY:=ah.mk A1
 have rR:=ah.mk A2
 have HH:=ah.mk H
 have hca:=H.ca
 clear hl A1 A2 H
 go_enter Tryz.func116,Tryz.ntmps116
 go_wp2_with (first
  |(go_at_call 56;refine (bu.calls g s p 64 t1 t2 t3 w0 w HH.out.st HH.out.bl qY.out).mono ?_;rintro e w1 ⟨rfl,hi,hb,hk⟩;have Tg:=ah.mk (HH.out.call hi hb hk);clear hi hb hk;have asK:=Tg.out.ca)
  |(go_at_call 80;refine (ck.calls k g t2 t3 d1 d2 d3 d4 w0 w1 Tg.out.st Tg.out.bl rR.out).mono ?_;rintro e w2 ⟨rfl,hi,hb,hk⟩;have Th:=ah.mk (Tg.out.call hi hb hk);clear hi hb hk;have aox:=Th.out.cb)
  |((with_reducible refine lH (b:= .append) (xs:=#[.tmp 14,.tmp 16]) rfl ?_);at_builtin;refine Kd.su Kd.string we.heap.size rfl (.tmp 14) (.tmp 16) 28 9 (.string ⟨#[]⟩) 16 rfl Tryz.underlying28 afl rfl bL aq v rs d1 [.string d1] (fun _ =>True) (fun _ =>False) rfl ux ?aP (fun _ hk=>hk.elim) ?aF ?aO (Below.refl _ _) ?aS ?aL ?_;(case aP=>exact rfl);(case aF=>exact (fun _ _ =>trivial));(case aO=>exact Th.out.hr);(case aS=>exact pR Th.out.kp);(case aL=>have:=HL.out;omega);intro v3 w3 ho hb hg hat;obtain ⟨A3,c3,rfl⟩:=Kd.eB ho;have HH3:=ah.mk (Th.out.app ho hb hg);have asM:=(aa (tM Th.out.hb hg (Kd.UL Th.out.hr Th.out.hb bL)) 1);have aoy:=(af (tM Th.out.hb hg (Kd.UL Th.out.hr Th.out.hb bL)) 1).trans rfl;clear ho hb hg hat))
 all_goals
  go_ret
  exact ⟨by first|rfl|(simp [*];done)|(rename_i ht;simp [ht];done)|(rename_i _ ht;simp [ht];done),_,by have h1:=HH3.out;rw [List.length_append] at h1;exact h1⟩
theorem dD.calls (k g a b:Nat) (s:ByteArray) (p:Int) (v:Value) (rs:List ByteArray) (r1:Bool) (s1:ByteArray) (p1:Int) (rs1:List ByteArray) (w0 we w:World) (H:Held w0 we w g a b s p v rs) (h:dD.l0 k s p rs=some (r1,s1,p1,rs1)):
 Calls Tryz.prog 67 #[.pointer (some ⟨g,0,none⟩),.int .u8 44,.func (.func 116) #[] #[.pointer (some ⟨a,0,none⟩),.pointer (some ⟨b,0,none⟩)]] w fun e w'=>e= .returned (.bool r1)∧∃ v1,Held w0 we w' g a b s1 p1 v1 rs1:=by
 have HH:=ah.mk H
 have HS:=ah.mk h
 clear H h
 go_enter Tryz.func67,Tryz.ntmps67
 go_wp2
 go_loopg [] k (fun kq w'=>∃ (s2:ByteArray) (p2:Int) (v2:Value) (rs2:List ByteArray),ah (dD.l0 kq s2 p2 rs2=some (r1,s1,p1,rs1))∧ah (Held w0 we w' g a b s2 p2 v2 rs2))
 case atStart=>exact ⟨s,p,v,rs,HS,HH⟩
 case round=>
  clear HS HH
  obtain ⟨s2,p2,v2,rs2,HA,HH⟩:=hrel
  cases gk with
  |zero=>exact absurd HA.out (by simp [dD.l0])
  |succ k1=>
   have h:=HA.out
   clear HA
   simp only [dD.l0] at h
   obtain ⟨⟨t1,t2,t3,t4⟩,A1,h⟩:=Option.bind_eq_some_iff.mp h
   dsimp only at h
   have qY:=ah.mk A1
   clear A1
   cases t1 with
   |true=>
    rw [if_pos rfl] at h
    obtain ⟨⟨c1,c2,c3⟩,A2,h⟩:=Option.bind_eq_some_iff.mp h
    dsimp only at A2 h
    have rR:=ah.mk A2
    have HH':=ah.mk h
    clear A2 h
    cases c1 with
    |true=>
     have HN:=ah.mk (show dD.l0 k1 c2 c3 t4=some (r1,s1,p1,rs1) from (if_pos rfl).symm.trans HH'.out)
     clear HH'
     go_wp2_with (first
      |(go_at_call 116;refine (iz.calls k1 g a b s2 p2 v2 rs2 true t2 t3 t4 w0 we _ HH.out qY.out).mono ?_;rintro e w2 ⟨rfl,v3,h3⟩;have Tg:=ah.mk h3;clear h3)
      |(go_at_call 56;refine (bu.calls g t2 t3 44 true c2 c3 w0 _ Tg.out.st Tg.out.bl rR.out).mono ?_;rintro e w3 ⟨rfl,hi,hb,hk⟩;have Th:=ah.mk (Tg.out.call hi hb hk);clear hi hb hk))
     go_roundg k1
     case measure=>omega
     case rel=>exact ⟨c2,c3,_,t4,HN,Th⟩
    |false=>
     have hN:=(if_neg bL).symm.trans HH'.out
     simp only [Option.some.injEq,Prod.mk.injEq] at hN
     obtain ⟨rfl,rfl,rfl,rfl⟩:=hN
     clear HH'
     go_wp2_with (first
      |(go_at_call 116;refine (iz.calls k1 g a b s2 p2 v2 rs2 true t2 t3 t4 w0 we _ HH.out qY.out).mono ?_;rintro e w2 ⟨rfl,v3,h3⟩;have Tg:=ah.mk h3;clear h3)
      |(go_at_call 56;refine (bu.calls g t2 t3 44 false c2 c3 w0 _ Tg.out.st Tg.out.bl rR.out).mono ?_;rintro e w3 ⟨rfl,hi,hb,hk⟩;have Th:=ah.mk (Tg.out.call hi hb hk);clear hi hb hk))
     go_ret
     exact ⟨rfl,_,Th.out⟩
   |false=>
    rw [if_neg bL] at h
    simp only [Option.some.injEq,Prod.mk.injEq] at h
    obtain ⟨rfl,rfl,rfl,rfl⟩:=h
    go_wp2_with (first
     |(go_at_call 116;refine (iz.calls k1 g a b s2 p2 v2 rs2 false t2 t3 t4 w0 we _ HH.out qY.out).mono ?_;rintro e w2 ⟨rfl,v3,h3⟩;have Tg:=ah.mk h3;clear h3))
    go_ret
    exact ⟨rfl,_,Tg.out⟩
def dh.f3 (k:Nat) (s:ByteArray) (p:Int) (rs:List ByteArray):Option (Bool×List ByteArray×ByteArray×ByteArray×Bool×Bool×ByteArray×Int):=
 (cz.f k s p).bind fun m=>some (false,rs,m.1,m.2.1,m.2.2.1,m.2.2.2.1,m.2.2.2.2.1,m.2.2.2.2.2)
def dh.f2 (k:Nat) (s:ByteArray) (p:Int):Option (Bool×List ByteArray×ByteArray×ByteArray×Bool×Bool×ByteArray×Int):=
 (dg.f s p).bind fun c=>if c.1=64 then (dD.l0 k c.2.1 c.2.2 []).bind fun l=>if l.1=true then (bu.f l.2.1 l.2.2.1 58).bind fun t=>if t.1=true then dh.f3 k t.2.1 t.2.2 l.2.2.2 else some (false,[],⟨#[]⟩,⟨#[]⟩,false,false,t.2.1,t.2.2) else some (false,[],⟨#[]⟩,⟨#[]⟩,false,false,l.2.1,l.2.2.1) else dh.f3 k c.2.1 c.2.2 []
def lC:ByteArray:=⟨#[112,111,115,116,109,97,115,116,101,114]⟩
def qG (s:ByteArray) (p:Int):Bool:=decide (p + 10 < (s.size:Int)) && (cE.g (s.extract p.toNat (p + 10).toNat)).toList == ([112,111,115,116,109,97,115,116,101,114]:List UInt8) && (bt s (p + 10)) == 62
def dh.f (k:Nat) (s:ByteArray) (p:Int):Option (Bool×List ByteArray×ByteArray×ByteArray×Bool×Bool×ByteArray×Int):=
 if 0≤p∧p≤(s.size:Int)∧(s.size:Int) < 4611686018427387904 then
  (if qG s p=true then some (false,[],lC,⟨#[]⟩,false,true,s,p + 10) else dh.f2 k s p)
 else none
structure pX (w0 w W:World) (g:Nat) (s:ByteArray) (p:Int):Prop where
 st:ay w0 W g s p
 bl:Below w0.heap.size w0 W
 sz:w0.heap.size≤w.heap.size
 kp:bB w W g none
 ha:W.heap[w.heap.size]? =some (.cells #[.pointer (some ⟨g,0,none⟩)] 80 (0,0))
 hc:W.heap[w.heap.size + 1]? =some (.cells #[.bool false,.slice none 0 0,.string ⟨#[]⟩,.string ⟨#[]⟩,.bool false] 32 (0,0))
section
variable {w0 w W W1:World} {g a b:Nat} {s:ByteArray} {p:Int} {v:Value} {rs:List ByteArray}
theorem pX.begin (hI:ay w0 w g s p) (hB:Below w0.heap.size w0 w):pX w0 w ((w.alloc (.cells #[.pointer (some ⟨g,0,none⟩)] 80)).alloc (.cells #[.bool false,.slice none 0 0,.string ⟨#[]⟩,.string ⟨#[]⟩,.bool false] 32)) g s p where
 st:=(hI.alloc _).alloc _
 bl:=aD (aD hB _) _
 sz:=hB.size
 kp:=pH (pH (bB.refl _ _ _) _) _
 ha:=by
  refine aJ ?_ _
  simpa using heap_alloc_new w _
 hc:=by
  have:=heap_alloc_new (w.alloc (.cells #[.pointer (some ⟨g,0,none⟩)] 80)) (.cells #[.bool false,.slice none 0 0,.string ⟨#[]⟩,.string ⟨#[]⟩,.bool false] 32)
  simpa using this
theorem pX.below (H:pX w0 w W g s p) (hb:Below W.heap.size W W1):pX w0 w W1 g s p where
 st:=H.st.below hb
 bl:=bS H.bl H.bl.size hb
 sz:=H.sz
 kp:=H.kp.trans (bB.of_below hb g none) (.inl rfl)
 ha:=(hb.block _ (jq H.ha)).trans H.ha
 hc:=(hb.block _ (jq H.hc)).trans H.hc
theorem pX.set (H:pX w0 w W g s p) (q:Int):pX w0 w (W.setCell ⟨g,1,none⟩ (.int .i64 q)) g s q where
 st:=H.st.fP q
 bl:=bp H.bl H.st.ge
 sz:=H.sz
 kp:=H.kp.Gh _ _
 ha:=fG H.ha (ay.rq H.st H.ha bL).symm _
 hc:=fG H.hc (ay.rq H.st H.hc bL).symm _
theorem pX.held (H:pX w0 w W g s p):Held w0 w (W.alloc (.cells #[.bool false,.slice none 0 0,.string ⟨#[]⟩,.string ⟨#[]⟩,.bool false] 32)) g w.heap.size W.heap.size s p (.slice none 0 0) [] where
 st:=H.st.alloc _
 bl:=aD H.bl _
 kp:=pH H.kp _
 ha:=aJ H.ha _
 hb:=by simpa using heap_alloc_new W _
 hr:=Kd.fF _ _ _ _ _
 sz:=H.sz
 hc:=aJ H.hc _
 ga:=Nat.le_refl _
 gb:=jq H.hc
theorem rE {c:Nat} {y0 y1 y2 y3 y4:Value} (x0 x1 x2 x3 x4:Value) (hst:ay w0 W g s p) (hbl:Below w0.heap.size w0 W) (hkp:bB w W g none) (hsz:w0.heap.size≤w.heap.size) (hgc:w.heap.size≤c)
 (hc:W.heap[c]? =some (.cells #[y0,y1,y2,y3,y4] 32 (0,0))) (hW:W1=((((W.setCell ⟨c,0,none⟩ x0).setCell ⟨c,1,none⟩ x1).setCell ⟨c,2,none⟩ x2).setCell ⟨c,3,none⟩ x3).setCell ⟨c,4,none⟩ x4):
 W1.heap[c]? =some (.cells #[x0,x1,x2,x3,x4] 32 (0,0))∧ay w0 W1 g s p∧Below w0.heap.size w0 W1∧bB w W1 g none∧∀ (v:Value) (xs:List ByteArray),Kd.R Kd.string 9 W w.heap.size (fun _ =>True) v xs→Kd.R Kd.string 9 W1 w.heap.size (fun _ =>True) v xs:=by
 subst hW
 have Xo:g≠c:=ay.rq hst hc bL
 refine ⟨?_,?_,?_,?_,?_⟩
 ·refine cj (cs:=#[x0,x1,x2,x3,y4]) ?_ 4 _ rfl
  refine cj (cs:=#[x0,x1,x2,y3,y4]) ?_ 3 _ rfl
  refine cj (cs:=#[x0,x1,y2,y3,y4]) ?_ 2 _ rfl
  refine cj (cs:=#[x0,y1,y2,y3,y4]) ?_ 1 _ rfl
  exact cj hc 0 _ rfl
 ·exact ((((hst.far Xo _).far Xo _).far Xo _).far Xo _).far Xo _
 ·have h0:=Nat.le_trans hsz hgc
  exact bp (bp (bp (bp (bp hbl h0) h0) h0) h0) h0
 ·exact oO (oO (oO (oO (oO hkp hgc _) hgc _) hgc _) hgc _) hgc _
 ·intro v xs ho
  have hne:∀ (W2:World),W2.heap[c]? =some (.cells #[y0,y1,y2,y3,y4] 32 (0,0))→Kd.R Kd.string 9 W2 w.heap.size (fun _ =>True) v xs→Kd.R Kd.string 9 W2 w.heap.size (fun k=>k≠c) v xs:=by
   intro W2 hB h1
   refine Kd.gp (Kd.wT h1) ?_
   rintro k ⟨_,_,_,q,hq,cells,hcc⟩ rfl
   rw [hB] at hcc
   injection hcc with hcc
   injection hcc with _ hcc
   have h1:q=9∨q∈Kd.string.E:=by simpa using hq
   rcases h1 with h1|h1
   ·exact absurd (hcc.trans h1) bL
   ·cases h1
  have h1:=hne W hc ho
  exact Kd.gp (Kd.cJ (Kd.cJ (Kd.cJ (Kd.cJ (Kd.cJ h1 (fun _ h=>h) x0) (fun _ h=>h) x1) (fun _ h=>h) x2) (fun _ h=>h) x3) (fun _ h=>h) x4) (fun _ _ =>trivial)
theorem Held.box (H:Held w0 w W g a b s p v rs) (x2 x3 x4:Value) (hW:W1=((W.setCell ⟨b,2,none⟩ x2).setCell ⟨b,3,none⟩ x3).setCell ⟨b,4,none⟩ x4):
 W1.heap[b]? =some (.cells #[.bool false,v,x2,x3,x4] 32 (0,0))∧ay w0 W1 g s p∧Below w0.heap.size w0 W1∧bB w W1 g none∧Kd.R Kd.string 9 W1 w.heap.size (fun _ =>True) v rs∧W1.heap[w.heap.size + 1]? =some (.cells #[.bool false,.slice none 0 0,.string ⟨#[]⟩,.string ⟨#[]⟩,.bool false] 32 (0,0)):=by
 subst hW
 have hG:=H.gb
 have hgb:g≠b:=ay.rq H.st H.hb bL
 have hcb:w.heap.size + 1≠b:=by omega
 have hwb:w.heap.size≤b:=by omega
 refine ⟨?_,((H.st.far hgb _).far hgb _).far hgb _,?_,oO (oO (oO H.kp hwb _) hwb _) hwb _,?_,fG (fG (fG H.hc hcb _) hcb _) hcb _⟩
 ·refine cj (cs:=#[.bool false,v,x2,x3,.bool false]) ?_ 4 _ rfl
  refine cj (cs:=#[.bool false,v,x2,.string ⟨#[]⟩,.bool false]) ?_ 3 _ rfl
  exact cj H.hb 2 _ rfl
 ·have h0:=Nat.le_trans H.sz hwb
  exact bp (bp (bp H.bl h0) h0) h0
 ·have h1:Kd.R Kd.string 9 W w.heap.size (fun k=>k≠b) v rs:=by
   refine Kd.gp (Kd.wT H.hr) ?_
   rintro k ⟨_,_,_,q,hq,cells,hcc⟩ rfl
   rw [H.hb] at hcc
   injection hcc with hcc
   injection hcc with _ hcc
   have h1:q=9∨q∈Kd.string.E:=by simpa using hq
   rcases h1 with h1|h1
   ·exact absurd (hcc.trans h1) bL
   ·cases h1
  exact Kd.gp (Kd.cJ (Kd.cJ (Kd.cJ h1 (fun _ h=>h) x2) (fun _ h=>h) x3) (fun _ h=>h) x4) (fun _ _ =>trivial)
end
theorem iz.mono:∀ s p rs k,cN (iz.f k s p rs) (iz.f (k + 1) s p rs):=by
 intro s p rs k
 unfold iz.f
 exact cN.bind (cN.refl _) fun _ =>cN.bind (ck.mono _ _ _) fun _ =>cN.refl _
theorem dD.mono:∀ k s p rs,cN (dD.l0 k s p rs) (dD.l0 (k + 1) s p rs)
 | 0,_,_,_ =>fun r h=>by simp [dD.l0] at h
 |k + 1,s,p,rs=>by
  have ih:=dD.mono k
  unfold dD.l0
  exact cN.bind (iz.mono _ _ _ _) fun _ =>cN.ite (cN.bind (cN.refl _) fun _ =>cN.ite (ih _ _ _) (cN.refl _)) (cN.refl _)
theorem dh.ab8:∀ k s p rs,cN (dh.f3 k s p rs) (dh.f3 (k + 1) s p rs):=by
 intro k s p rs
 unfold dh.f3
 exact cN.bind (cz.mono _ _ _) fun _ =>cN.refl _
theorem dh.afX:∀ k s p,cN (dh.f2 k s p) (dh.f2 (k + 1) s p):=by
 intro k s p
 unfold dh.f2
 exact cN.bind (cN.refl _) fun _ =>cN.ite (cN.bind (dD.mono _ _ _ _) fun _ =>cN.ite (cN.bind (cN.refl _) fun _ =>cN.ite (dh.ab8 _ _ _ _) (cN.refl _)) (cN.refl _)) (dh.ab8 _ _ _ _)
theorem dh.mono:∀ s p k,cN (dh.f k s p) (dh.f (k + 1) s p):=by
 intro s p k
 unfold dh.f
 exact cN.ite (cN.ite (cN.refl _) (dh.afX _ _ _)) (cN.refl _)
theorem dh.calls (k g:Nat) (s:ByteArray) (p:Int) (r1:Bool) (r2:List ByteArray) (r3 r4:ByteArray) (r5 r6:Bool) (r7:ByteArray) (r8:Int) (w0 w:World) (hI:ay w0 w g s p) (hB:Below w0.heap.size w0 w) (hG:aW w0) (h:dh.f k s p=some (r1,r2,r3,r4,r5,r6,r7,r8)):
 Calls Tryz.prog 57 #[.pointer (some ⟨g,0,none⟩)] w fun e w'=>∃ Ti:Value,e= .returned (.tuple #[.agg #[.bool r1,Ti,.string r3,.string r4,.bool r5],.bool r6])∧Kd.R Kd.string 9 w' w.heap.size (fun _ =>True) Ti r2∧ay w0 w' g r7 r8∧Below w0.heap.size w0 w'∧bB w w' g none:=by
 unfold dh.f at h
 by_cases hp: 0≤p∧p≤(s.size:Int)∧(s.size:Int) < 4611686018427387904
 case neg=>rw [if_neg hp] at h;cases h
 rw [if_pos hp] at h
 have HF:=ah.mk (pX.begin hI hB)
 have HG:=ah.mk hG
 have HH:=ah.mk h
 clear hI hB hG h
 obtain ⟨hp0,hp1,hp2⟩:=hp
 go_enter Tryz.func57,Tryz.ntmps57
 go_wp2
 generalize ((w.alloc (.cells #[.pointer (some ⟨g,0,none⟩)] 80)).alloc (.cells #[.bool false,.slice none 0 0,.string ⟨#[]⟩,.string ⟨#[]⟩,.bool false] 32))=w1 at HF ⊢
 have hw1:IntKind.i64.wrap ((s.size:Int) - p)=(s.size:Int) - p:=(cS _).trans (by unfold wrap64;omega)
 have hw2:IntKind.i64.wrap (p + 10)=p + 10:=(cS _).trans (by unfold wrap64;omega)
 have hca:w1.cell? ⟨w.heap.size,0,none⟩=some (.pointer (some ⟨g,0,none⟩)):=(af HF.out.ha 0).trans rfl
 obtain ⟨hgb,_⟩:=HF.out.st
 have hc0:w1.cell? ⟨g,0,none⟩=some (.string s):=(af hgb 0).trans rfl
 have hc1:w1.cell? ⟨g,1,none⟩=some (.int .i64 p):=(af hgb 1).trans rfl
 clear hgb
 by_cases hr:p + 10 < (s.size:Int)
 case neg=>
  have HA:=ah.mk (show qG s p=false by unfold qG;rw [decide_eq_false hr];rfl)
  have hd:decide (10 < (s.size:Int) - p)=false:=decide_eq_false aq
  go_quiet (fail)
  have hW:=aM (Below.refl w1.heap.size w1)
  have HFA:=ah.mk (fun n=>HF.out.below (hW n))
  clear hW
  generalize hWn:World.drewN w1 _=w3
  have BG:=ah.mk (show pX w0 w w3 g s p from hWn ▸ HFA.out _)
  clear HFA hWn
  have H2:=ah.mk (show dh.f2 k s p=some (r1,r2,r3,r4,r5,r6,r7,r8) from (if_neg (by rw [HA.out];decide)).symm.trans HH.out)
  clear HA HH
  have HE:=ah.mk BG.out.held
  have afY:=HE.out.ca
  have h:=H2.out
  clear H2
  unfold dh.f2 at h
  obtain ⟨⟨c1,c2,c3⟩,A1,h⟩:=Option.bind_eq_some_iff.mp h
  dsimp only at A1 h
  have qY:=ah.mk A1
  clear A1
  cases h64:(c1 == 64) with
  |false=>
   rw [if_neg zJ] at h
   unfold dh.f3 at h
   obtain ⟨⟨m1,m2,m3,m4,m5,m6⟩,Ab,h⟩:=Option.bind_eq_some_iff.mp h
   dsimp only at Ab h
   simp only [Option.some.injEq,Prod.mk.injEq] at h
   obtain ⟨rfl,rfl,rfl,rfl,rfl,rfl,rfl,rfl⟩:=h
   have Xp:=ah.mk Ab
   clear Ab
   go_wp2_with (first
    |(go_at_call 115;refine (dg.calls g s p c1 c2 c3 w0 _ HE.out.st HE.out.bl qY.out).mono ?_;rintro e w4 ⟨rfl,hi,hb,hk⟩;have wE:=ah.mk (HE.out.call hi hb hk);have G3:=wE.out.ca;clear hi hb hk)
    |(go_at_call 71;refine (cz.calls k g c2 c3 m1 m2 m3 m4 m5 m6 w0 _ wE.out.st wE.out.bl HG.out Xp.out).mono ?_;rintro e w9 ⟨rfl,hi,hb,hk⟩;have ij:=ah.mk (wE.out.call hi hb hk);have Xq:=ij.out.fb 0;have Xr:=ij.out.fb 1;have Xt:=ij.out.fb 2;have Xu:=ij.out.fb 3;have Xv:=ij.out.fb 4;have Xw:w9.cell? ⟨w3.heap.size,0,none⟩=some (Value.bool false):=(af ij.out.hb 0).trans rfl;have Xx:w9.cell? ⟨w3.heap.size,1,none⟩=some (Value.slice none 0 0):=(af ij.out.hb 1).trans rfl;have Xy:w9.cell? ⟨w3.heap.size,2,none⟩=some (Value.string ⟨#[]⟩):=(af ij.out.hb 2).trans rfl;have Xz:w9.cell? ⟨w3.heap.size,3,none⟩=some (Value.string ⟨#[]⟩):=(af ij.out.hb 3).trans rfl;have XA:w9.cell? ⟨w3.heap.size,4,none⟩=some (Value.bool false):=(af ij.out.hb 4).trans rfl;have ET:=aa ij.out.hc 0;have EU:=aa ij.out.hc 1;have EW:=aa ij.out.hc 2;have EX:=aa ij.out.hc 3;have EY:=aa ij.out.hc 4;have EZ:w9.cell? ⟨w.heap.size + 1,0,none⟩=some (Value.bool false):=(af ij.out.hc 0).trans rfl;have E0:w9.cell? ⟨w.heap.size + 1,1,none⟩=some (Value.slice none 0 0):=(af ij.out.hc 1).trans rfl;have E1:w9.cell? ⟨w.heap.size + 1,2,none⟩=some (Value.string ⟨#[]⟩):=(af ij.out.hc 2).trans rfl;have E2:w9.cell? ⟨w.heap.size + 1,3,none⟩=some (Value.string ⟨#[]⟩):=(af ij.out.hc 3).trans rfl;have E3:w9.cell? ⟨w.heap.size + 1,4,none⟩=some (Value.bool false):=(af ij.out.hc 4).trans rfl;have hnb:w.heap.size + 1≠w3.heap.size:=Nat.ne_of_lt ij.out.gb;have XB:w3.heap.size≠w.heap.size + 1:=(Nat.ne_of_lt ij.out.gb).symm;clear hi hb hk))
   have H8:=ij.out.box (.string m1) (.string m2) (.bool m3) rfl
   have H9:=rE (.bool false) (.slice none 0 0) (.string m1) (.string m2) (.bool m3) H8.2.1 H8.2.2.1 H8.2.2.2.1 ij.out.sz (Nat.le_succ _) H8.2.2.2.2.2 rfl
   refine bodyPost_ret (dm rfl _ _ (w.heap.size + 1) 32 #[.bool false,.slice none 0 0,.string m1,.string m2,.bool m3] (0,0) _ rfl H9.1 Tryz.underlying32 rfl av) rfl ?_
   exact ⟨_,rfl,H9.2.2.2.2 _ _ H8.2.2.2.2.1,H9.2.1,H9.2.2.1,H9.2.2.2.1⟩
  |true=>
   rw [if_pos zJ] at h
   obtain ⟨⟨l1,l2,l3,l4⟩,A2,h⟩:=Option.bind_eq_some_iff.mp h
   dsimp only at A2 h
   have rR:=ah.mk A2
   clear A2
   cases l1 with
   |false=>
    rw [if_neg bL] at h
    simp only [Option.some.injEq,Prod.mk.injEq] at h
    obtain ⟨rfl,rfl,rfl,rfl,rfl,rfl,rfl,rfl⟩:=h
    go_wp2_with (first
     |(go_at_call 115;refine (dg.calls g s p c1 c2 c3 w0 _ HE.out.st HE.out.bl qY.out).mono ?_;rintro e w4 ⟨rfl,hi,hb,hk⟩;have wE:=ah.mk (HE.out.call hi hb hk);have G3:=wE.out.ca;clear hi hb hk)
     |(go_at_call 67;refine (dD.calls k g _ _ c2 c3 _ [] false l2 l3 l4 w0 w _ wE.out rR.out).mono ?_;rintro e w5 ⟨rfl,v5,h5⟩;have mq:=ah.mk h5;have NT:=mq.out.ca;clear h5;have ET:=aa mq.out.hc 0;have EU:=aa mq.out.hc 1;have EW:=aa mq.out.hc 2;have EX:=aa mq.out.hc 3;have EY:=aa mq.out.hc 4;have EZ:w5.cell? ⟨w.heap.size + 1,0,none⟩=some (Value.bool false):=(af mq.out.hc 0).trans rfl;have E0:w5.cell? ⟨w.heap.size + 1,1,none⟩=some (Value.slice none 0 0):=(af mq.out.hc 1).trans rfl;have E1:w5.cell? ⟨w.heap.size + 1,2,none⟩=some (Value.string ⟨#[]⟩):=(af mq.out.hc 2).trans rfl;have E2:w5.cell? ⟨w.heap.size + 1,3,none⟩=some (Value.string ⟨#[]⟩):=(af mq.out.hc 3).trans rfl;have E3:w5.cell? ⟨w.heap.size + 1,4,none⟩=some (Value.bool false):=(af mq.out.hc 4).trans rfl))
    have H9:=rE (W:=w5) (.bool false) (.slice none 0 0) (.string ⟨#[]⟩) (.string ⟨#[]⟩) (.bool false) mq.out.st mq.out.bl mq.out.kp mq.out.sz (Nat.le_succ _) mq.out.hc rfl
    refine bodyPost_ret (dm rfl _ _ (w.heap.size + 1) 32 #[.bool false,.slice none 0 0,.string ⟨#[]⟩,.string ⟨#[]⟩,.bool false] (0,0) _ rfl H9.1 Tryz.underlying32 rfl av) rfl ?_
    exact ⟨_,rfl,Kd.fF _ _ _ _ _,H9.2.1,H9.2.2.1,H9.2.2.2.1⟩
   |true=>
    rw [if_pos rfl] at h
    obtain ⟨⟨u1,u2,u3⟩,A3,h⟩:=Option.bind_eq_some_iff.mp h
    dsimp only at A3 h
    have wM:=ah.mk A3
    clear A3
    cases u1 with
    |false=>
     rw [if_neg bL] at h
     simp only [Option.some.injEq,Prod.mk.injEq] at h
     obtain ⟨rfl,rfl,rfl,rfl,rfl,rfl,rfl,rfl⟩:=h
     go_wp2_with (first
      |(go_at_call 115;refine (dg.calls g s p c1 c2 c3 w0 _ HE.out.st HE.out.bl qY.out).mono ?_;rintro e w4 ⟨rfl,hi,hb,hk⟩;have wE:=ah.mk (HE.out.call hi hb hk);have G3:=wE.out.ca;clear hi hb hk)
      |(go_at_call 67;refine (dD.calls k g _ _ c2 c3 _ [] true l2 l3 l4 w0 w _ wE.out rR.out).mono ?_;rintro e w5 ⟨rfl,v5,h5⟩;have mq:=ah.mk h5;have NT:=mq.out.ca;clear h5)
      |(go_at_call 56;refine (bu.calls g l2 l3 58 false u2 u3 w0 _ mq.out.st mq.out.bl wM.out).mono ?_;rintro e w6 ⟨rfl,hi,hb,hk⟩;have pg:=ah.mk (mq.out.call hi hb hk);have XC:=pg.out.ca;clear hi hb hk;have ET:=aa pg.out.hc 0;have EU:=aa pg.out.hc 1;have EW:=aa pg.out.hc 2;have EX:=aa pg.out.hc 3;have EY:=aa pg.out.hc 4;have EZ:w6.cell? ⟨w.heap.size + 1,0,none⟩=some (Value.bool false):=(af pg.out.hc 0).trans rfl;have E0:w6.cell? ⟨w.heap.size + 1,1,none⟩=some (Value.slice none 0 0):=(af pg.out.hc 1).trans rfl;have E1:w6.cell? ⟨w.heap.size + 1,2,none⟩=some (Value.string ⟨#[]⟩):=(af pg.out.hc 2).trans rfl;have E2:w6.cell? ⟨w.heap.size + 1,3,none⟩=some (Value.string ⟨#[]⟩):=(af pg.out.hc 3).trans rfl;have E3:w6.cell? ⟨w.heap.size + 1,4,none⟩=some (Value.bool false):=(af pg.out.hc 4).trans rfl))
     have H9:=rE (W:=w6) (.bool false) (.slice none 0 0) (.string ⟨#[]⟩) (.string ⟨#[]⟩) (.bool false) pg.out.st pg.out.bl pg.out.kp pg.out.sz (Nat.le_succ _) pg.out.hc rfl
     refine bodyPost_ret (dm rfl _ _ (w.heap.size + 1) 32 #[.bool false,.slice none 0 0,.string ⟨#[]⟩,.string ⟨#[]⟩,.bool false] (0,0) _ rfl H9.1 Tryz.underlying32 rfl av) rfl ?_
     exact ⟨_,rfl,Kd.fF _ _ _ _ _,H9.2.1,H9.2.2.1,H9.2.2.2.1⟩
    |true=>
     rw [if_pos rfl] at h
     unfold dh.f3 at h
     obtain ⟨⟨m1,m2,m3,m4,m5,m6⟩,Ab,h⟩:=Option.bind_eq_some_iff.mp h
     dsimp only at Ab h
     simp only [Option.some.injEq,Prod.mk.injEq] at h
     obtain ⟨rfl,rfl,rfl,rfl,rfl,rfl,rfl,rfl⟩:=h
     have Xp:=ah.mk Ab
     clear Ab
     go_wp2_with (first
      |(go_at_call 115;refine (dg.calls g s p c1 c2 c3 w0 _ HE.out.st HE.out.bl qY.out).mono ?_;rintro e w4 ⟨rfl,hi,hb,hk⟩;have wE:=ah.mk (HE.out.call hi hb hk);have G3:=wE.out.ca;clear hi hb hk)
      |(go_at_call 67;refine (dD.calls k g _ _ c2 c3 _ [] true l2 l3 l4 w0 w _ wE.out rR.out).mono ?_;rintro e w5 ⟨rfl,v5,h5⟩;have mq:=ah.mk h5;have NT:=mq.out.ca;clear h5)
      |(go_at_call 56;refine (bu.calls g l2 l3 58 true u2 u3 w0 _ mq.out.st mq.out.bl wM.out).mono ?_;rintro e w6 ⟨rfl,hi,hb,hk⟩;have pg:=ah.mk (mq.out.call hi hb hk);have XC:=pg.out.ca;clear hi hb hk)
      |(go_at_call 71;refine (cz.calls k g u2 u3 m1 m2 m3 m4 m5 m6 w0 _ pg.out.st pg.out.bl HG.out Xp.out).mono ?_;rintro e w9 ⟨rfl,hi,hb,hk⟩;have ij:=ah.mk (pg.out.call hi hb hk);obtain ⟨A9,c9,e9⟩:=Kd.eB ij.out.hr;subst e9;have Xq:=ij.out.fb 0;have Xr:=ij.out.fb 1;have Xt:=ij.out.fb 2;have Xu:=ij.out.fb 3;have Xv:=ij.out.fb 4;have Xw:w9.cell? ⟨w3.heap.size,0,none⟩=some (Value.bool false):=(af ij.out.hb 0).trans rfl;have Xx:w9.cell? ⟨w3.heap.size,1,none⟩=some (Value.slice A9 l4.length c9):=(af ij.out.hb 1).trans rfl;have Xy:w9.cell? ⟨w3.heap.size,2,none⟩=some (Value.string ⟨#[]⟩):=(af ij.out.hb 2).trans rfl;have Xz:w9.cell? ⟨w3.heap.size,3,none⟩=some (Value.string ⟨#[]⟩):=(af ij.out.hb 3).trans rfl;have XA:w9.cell? ⟨w3.heap.size,4,none⟩=some (Value.bool false):=(af ij.out.hb 4).trans rfl;have ET:=aa ij.out.hc 0;have EU:=aa ij.out.hc 1;have EW:=aa ij.out.hc 2;have EX:=aa ij.out.hc 3;have EY:=aa ij.out.hc 4;have EZ:w9.cell? ⟨w.heap.size + 1,0,none⟩=some (Value.bool false):=(af ij.out.hc 0).trans rfl;have E0:w9.cell? ⟨w.heap.size + 1,1,none⟩=some (Value.slice none 0 0):=(af ij.out.hc 1).trans rfl;have E1:w9.cell? ⟨w.heap.size + 1,2,none⟩=some (Value.string ⟨#[]⟩):=(af ij.out.hc 2).trans rfl;have E2:w9.cell? ⟨w.heap.size + 1,3,none⟩=some (Value.string ⟨#[]⟩):=(af ij.out.hc 3).trans rfl;have E3:w9.cell? ⟨w.heap.size + 1,4,none⟩=some (Value.bool false):=(af ij.out.hc 4).trans rfl;have hnb:w.heap.size + 1≠w3.heap.size:=Nat.ne_of_lt ij.out.gb;have XB:w3.heap.size≠w.heap.size + 1:=(Nat.ne_of_lt ij.out.gb).symm;clear hi hb hk))
     have H8:=ij.out.box (.string m1) (.string m2) (.bool m3) rfl
     have H9:=rE (.bool false) (.slice A9 l4.length c9) (.string m1) (.string m2) (.bool m3) H8.2.1 H8.2.2.1 H8.2.2.2.1 ij.out.sz (Nat.le_succ _) H8.2.2.2.2.2 rfl
     refine bodyPost_ret (dm rfl _ _ (w.heap.size + 1) 32 #[.bool false,.slice A9 l4.length c9,.string m1,.string m2,.bool m3] (0,0) _ rfl H9.1 Tryz.underlying32 rfl av) rfl ?_
     exact ⟨_,rfl,H9.2.2.2.2 _ _ H8.2.2.2.2.1,H9.2.1,H9.2.2.1,H9.2.2.2.1⟩
 case pos=>
  have hd:decide (10 < (s.size:Int) - p)=true:=decide_eq_true aq
  have e1:(0≤p)=True:=eq_true hp0
  have e2:(p≤p + 10)=True:=eq_true aq
  have e3:(p + 10≤(s.size:Int))=True:=eq_true aq
  have e4:(0≤p + 10)=True:=eq_true aq
  have e5:(p + 10 < (s.size:Int))=True:=eq_true hr
  have hx:=ig s (p + 10)
  obtain ⟨X,hX⟩:∃ X,cE.g (s.extract p.toNat (p + 10).toNat)=X:=⟨_,rfl⟩
  have HX:=ah.mk hX
  have HC:=ah.mk (fun W=>cE.calls (s.extract p.toNat (p + 10).toNat) X W (by unfold cE.f;rw [if_pos,hX];simp;omega))
  clear hX
  cases hq:(X.toList == ([112,111,115,116,109,97,115,116,101,114]:List UInt8)) with
  |false=>
   have HA:=ah.mk (show qG s p=false by unfold qG;rw [HX.out,hq];simp)
   refine Bf (n:=45) (S:=fun w'=>w'.cell? ⟨w.heap.size,0,none⟩=some (.pointer (some ⟨g,0,none⟩))∧w'.cell? ⟨g,0,none⟩=some (.string s)∧w'.cell? ⟨g,1,none⟩=some (.int .i64 p)∧ah (pX w0 w w' g s p)) (ds:=[]) #[false,false,false,false,false,false,false,false,false,false,false,false,false,false,false,false,false,false,false,false,false,false,false,false,false,false,false,false,false,false,false,false,false,false,false,false,false,false,false,false,false,false,false,false,false] av (by rfl) (by rfl) ⟨hca,hc0,hc1,(ah.mk (HF.out.below (bq (Below.refl _ _))))⟩ (fun hHeld=>?_)
   refine eG (i:=10) (N:=some 18) (v:=?_) (a':=?_) #[false,false,false,false,false,false,false,false,false,false,true,false,false,false,false,false,false,false,false,false,false,false,false,false,false,false,false,false,false,false,false,false,false,false,false,false,false,false,false,false,false,false,false,false,false] rfl rfl av (fun _ _ _ h=>h) (Or.inl ⟨by rfl,?_⟩) ?_ ?_
   rotate_left
   ·intro w'
    go_simp
    with_reducible rfl
   rotate_left
   ·simp only [Act.put,List.setIfInBounds_toArray,List.set_cons_zero,List.set_cons_succ,cS,cV]
    rfl
   refine nR (i:=0) (N:=some 8) (v:=?_) (a':=?_) #[true,false,false,false,false,false,false,false,false,false,true,false,false,false,false,false,false,false,false,false,false,false,false,false,false,false,false,false,false,false,false,false,false,false,false,false,false,false,false,false,false,false,false,false,false] rfl rfl av (fun _ _ _ h=>h) (Or.inl ⟨by rfl,?_⟩) hHeld ?_ ?_
   rotate_left
   ·rintro w' ⟨s0,s1,s2,s3⟩
    go_simp
    with_reducible rfl
   rotate_left
   ·simp only [Act.put,List.setIfInBounds_toArray,List.set_cons_zero,List.set_cons_succ,cS,cV]
    rfl
   refine eG (i:=1) (N:=some 9) (v:=?_) (a':=?_) #[true,true,false,false,false,false,false,false,false,false,true,false,false,false,false,false,false,false,false,false,false,false,false,false,false,false,false,false,false,false,false,false,false,false,false,false,false,false,false,false,false,false,false,false,false] rfl rfl av (fun _ _ _ h=>h) (Or.inl ⟨by rfl,?_⟩) ?_ ?_
   rotate_left
   ·intro w'
    go_simp
    with_reducible rfl
   rotate_left
   ·simp only [Act.put,List.setIfInBounds_toArray,List.set_cons_zero,List.set_cons_succ,cS,cV]
    rfl
   refine eG (i:=2) (N:=some 10) (v:=?_) (a':=?_) #[true,true,true,false,false,false,false,false,false,false,true,false,false,false,false,false,false,false,false,false,false,false,false,false,false,false,false,false,false,false,false,false,false,false,false,false,false,false,false,false,false,false,false,false,false] rfl rfl av (fun _ _ _ h=>h) (Or.inl ⟨by rfl,?_⟩) ?_ ?_
   rotate_left
   ·intro w'
    go_simp
    with_reducible rfl
   rotate_left
   ·simp only [Act.put,List.setIfInBounds_toArray,List.set_cons_zero,List.set_cons_succ,cS,cV]
    rfl
   refine nR (i:=3) (N:=some 11) (v:=?_) (a':=?_) #[true,true,true,true,false,false,false,false,false,false,true,false,false,false,false,false,false,false,false,false,false,false,false,false,false,false,false,false,false,false,false,false,false,false,false,false,false,false,false,false,false,false,false,false,false] rfl rfl av (fun _ _ _ h=>h) (Or.inl ⟨by rfl,?_⟩) hHeld ?_ ?_
   rotate_left
   ·rintro w' ⟨s0,s1,s2,s3⟩
    go_simp
    with_reducible rfl
   rotate_left
   ·simp only [Act.put,List.setIfInBounds_toArray,List.set_cons_zero,List.set_cons_succ,cS,cV]
    rfl
   refine eG (i:=4) (N:=some 12) (v:=?_) (a':=?_) #[true,true,true,true,true,false,false,false,false,false,true,false,false,false,false,false,false,false,false,false,false,false,false,false,false,false,false,false,false,false,false,false,false,false,false,false,false,false,false,false,false,false,false,false,false] rfl rfl av (fun _ _ _ h=>h) (Or.inl ⟨by rfl,?_⟩) ?_ ?_
   rotate_left
   ·intro w'
    go_simp
    with_reducible rfl
   rotate_left
   ·simp only [Act.put,List.setIfInBounds_toArray,List.set_cons_zero,List.set_cons_succ,cS,cV]
    rfl
   refine nR (i:=5) (N:=some 13) (v:=?_) (a':=?_) #[true,true,true,true,true,true,false,false,false,false,true,false,false,false,false,false,false,false,false,false,false,false,false,false,false,false,false,false,false,false,false,false,false,false,false,false,false,false,false,false,false,false,false,false,false] rfl rfl av (fun _ _ _ h=>h) (Or.inl ⟨by rfl,?_⟩) hHeld ?_ ?_
   rotate_left
   ·rintro w' ⟨s0,s1,s2,s3⟩
    go_simp
    with_reducible rfl
   rotate_left
   ·simp only [Act.put,List.setIfInBounds_toArray,List.set_cons_zero,List.set_cons_succ,cS,cV]
    rfl
   refine eG (i:=6) (N:=some 14) (v:=?_) (a':=?_) #[true,true,true,true,true,true,true,false,false,false,true,false,false,false,false,false,false,false,false,false,false,false,false,false,false,false,false,false,false,false,false,false,false,false,false,false,false,false,false,false,false,false,false,false,false] rfl rfl av (fun _ _ _ h=>h) (Or.inl ⟨by rfl,?_⟩) ?_ ?_
   rotate_left
   ·intro w'
    go_simp
    with_reducible rfl
   rotate_left
   ·simp only [Act.put,List.setIfInBounds_toArray,List.set_cons_zero,List.set_cons_succ,cS,cV]
    rfl
   refine eG (i:=7) (N:=some 15) (v:=?_) (a':=?_) #[true,true,true,true,true,true,true,true,false,false,true,false,false,false,false,false,false,false,false,false,false,false,false,false,false,false,false,false,false,false,false,false,false,false,false,false,false,false,false,false,false,false,false,false,false] rfl rfl av (fun _ _ _ h=>h) (Or.inl ⟨by rfl,?_⟩) ?_ ?_
   rotate_left
   ·intro w'
    go_simp
    with_reducible rfl
   rotate_left
   ·simp only [Act.put,List.setIfInBounds_toArray,List.set_cons_zero,List.set_cons_succ,cS,cV]
    rfl
   refine nR (i:=8) (N:=some 16) (v:=?_) (a':=?_) #[true,true,true,true,true,true,true,true,true,false,true,false,false,false,false,false,false,false,false,false,false,false,false,false,false,false,false,false,false,false,false,false,false,false,false,false,false,false,false,false,false,false,false,false,false] rfl rfl av (fun _ _ _ h=>h) (Or.inl ⟨by rfl,?_⟩) hHeld ?_ ?_
   rotate_left
   ·rintro w' ⟨s0,s1,s2,s3⟩
    go_simp
    with_reducible rfl
   rotate_left
   ·simp only [Act.put,List.setIfInBounds_toArray,List.set_cons_zero,List.set_cons_succ,cS,cV]
    rfl
   refine eG (i:=9) (N:=some 17) (v:=?_) (a':=?_) #[true,true,true,true,true,true,true,true,true,true,true,false,false,false,false,false,false,false,false,false,false,false,false,false,false,false,false,false,false,false,false,false,false,false,false,false,false,false,false,false,false,false,false,false,false] rfl rfl av (fun _ _ _ h=>h) (Or.inl ⟨by rfl,?_⟩) ?_ ?_
   rotate_left
   ·intro w'
    go_simp
    with_reducible rfl
   rotate_left
   ·simp only [Act.put,List.setIfInBounds_toArray,List.set_cons_zero,List.set_cons_succ,cS,cV]
    rfl
   refine eG (i:=11) (N:=some 19) (v:=?_) (a':=?_) #[true,true,true,true,true,true,true,true,true,true,true,true,false,false,false,false,false,false,false,false,false,false,false,false,false,false,false,false,false,false,false,false,false,false,false,false,false,false,false,false,false,false,false,false,false] rfl rfl av (fun _ _ _ h=>h) (Or.inl ⟨by rfl,?_⟩) ?_ ?_
   rotate_left
   ·intro w'
    go_simp
    with_reducible rfl
   rotate_left
   ·simp only [Act.put,List.setIfInBounds_toArray,List.set_cons_zero,List.set_cons_succ,cS,cV]
    rfl
   refine eG (i:=12) (N:=some 20) (v:=?_) (a':=?_) #[true,true,true,true,true,true,true,true,true,true,true,true,true,false,false,false,false,false,false,false,false,false,false,false,false,false,false,false,false,false,false,false,false,false,false,false,false,false,false,false,false,false,false,false,false] rfl rfl av (fun _ _ _ h=>h) (Or.inl ⟨by rfl,?_⟩) ?_ ?_
   rotate_left
   ·intro w'
    go_simp
    with_reducible rfl
   rotate_left
   ·simp only [Act.put,List.setIfInBounds_toArray,List.set_cons_zero,List.set_cons_succ,cS,cV]
    rfl
   refine eG (i:=25) (N:=some 33) (v:=?_) (a':=?_) #[true,true,true,true,true,true,true,true,true,true,true,true,true,false,false,false,false,false,false,false,false,false,false,false,false,true,false,false,false,false,false,false,false,false,false,false,false,false,false,false,false,false,false,false,false] rfl rfl av (fun _ _ _ h=>h) (Or.inl ⟨by rfl,?_⟩) ?_ ?_
   rotate_left
   ·intro w'
    go_simp
    with_reducible rfl
   rotate_left
   ·simp only [Act.put,List.setIfInBounds_toArray,List.set_cons_zero,List.set_cons_succ,cS,cV]
    rfl
   refine nR (i:=13) (N:=some 21) (v:=?_) (a':=?_) #[true,true,true,true,true,true,true,true,true,true,true,true,true,true,false,false,false,false,false,false,false,false,false,false,false,true,false,false,false,false,false,false,false,false,false,false,false,false,false,false,false,false,false,false,false] rfl rfl av (fun _ _ _ h=>h) (Or.inl ⟨by rfl,?_⟩) hHeld ?_ ?_
   rotate_left
   ·rintro w' ⟨s0,s1,s2,s3⟩
    go_simp
    with_reducible rfl
   rotate_left
   ·simp only [Act.put,List.setIfInBounds_toArray,List.set_cons_zero,List.set_cons_succ,cS,cV]
    rfl
   refine eG (i:=14) (N:=some 22) (v:=?_) (a':=?_) #[true,true,true,true,true,true,true,true,true,true,true,true,true,true,true,false,false,false,false,false,false,false,false,false,false,true,false,false,false,false,false,false,false,false,false,false,false,false,false,false,false,false,false,false,false] rfl rfl av (fun _ _ _ h=>h) (Or.inl ⟨by rfl,?_⟩) ?_ ?_
   rotate_left
   ·intro w'
    go_simp
    with_reducible rfl
   rotate_left
   ·simp only [Act.put,List.setIfInBounds_toArray,List.set_cons_zero,List.set_cons_succ,cS,cV]
    rfl
   refine eG (i:=15) (N:=some 23) (v:=?_) (a':=?_) #[true,true,true,true,true,true,true,true,true,true,true,true,true,true,true,true,false,false,false,false,false,false,false,false,false,true,false,false,false,false,false,false,false,false,false,false,false,false,false,false,false,false,false,false,false] rfl rfl av (fun _ _ _ h=>h) (Or.inl ⟨by rfl,?_⟩) ?_ ?_
   rotate_left
   ·intro w'
    go_simp
    with_reducible rfl
   rotate_left
   ·simp only [Act.put,List.setIfInBounds_toArray,List.set_cons_zero,List.set_cons_succ,cS,cV]
    rfl
   refine nR (i:=16) (N:=some 24) (v:=?_) (a':=?_) #[true,true,true,true,true,true,true,true,true,true,true,true,true,true,true,true,true,false,false,false,false,false,false,false,false,true,false,false,false,false,false,false,false,false,false,false,false,false,false,false,false,false,false,false,false] rfl rfl av (fun _ _ _ h=>h) (Or.inl ⟨by rfl,?_⟩) hHeld ?_ ?_
   rotate_left
   ·rintro w' ⟨s0,s1,s2,s3⟩
    go_simp
    with_reducible rfl
   rotate_left
   ·simp only [Act.put,List.setIfInBounds_toArray,List.set_cons_zero,List.set_cons_succ,cS,cV]
    rfl
   refine nR (i:=17) (N:=some 25) (v:=?_) (a':=?_) #[true,true,true,true,true,true,true,true,true,true,true,true,true,true,true,true,true,true,false,false,false,false,false,false,false,true,false,false,false,false,false,false,false,false,false,false,false,false,false,false,false,false,false,false,false] rfl rfl av (fun _ _ _ h=>h) (Or.inl ⟨by rfl,?_⟩) hHeld ?_ ?_
   rotate_left
   ·rintro w' ⟨s0,s1,s2,s3⟩
    go_simp
    with_reducible rfl
   rotate_left
   ·simp only [Act.put,List.setIfInBounds_toArray,List.set_cons_zero,List.set_cons_succ,cS,cV]
    rfl
   refine eG (i:=18) (N:=some 26) (v:=?_) (a':=?_) #[true,true,true,true,true,true,true,true,true,true,true,true,true,true,true,true,true,true,true,false,false,false,false,false,false,true,false,false,false,false,false,false,false,false,false,false,false,false,false,false,false,false,false,false,false] rfl rfl av (fun _ _ _ h=>h) (Or.inl ⟨by rfl,?_⟩) ?_ ?_
   rotate_left
   ·intro w'
    go_simp
    with_reducible rfl
   rotate_left
   ·simp only [Act.put,List.setIfInBounds_toArray,List.set_cons_zero,List.set_cons_succ,cS,cV]
    rfl
   refine eG (i:=19) (N:=some 27) (v:=?_) (a':=?_) #[true,true,true,true,true,true,true,true,true,true,true,true,true,true,true,true,true,true,true,true,false,false,false,false,false,true,false,false,false,false,false,false,false,false,false,false,false,false,false,false,false,false,false,false,false] rfl rfl av (fun _ _ _ h=>h) (Or.inl ⟨by rfl,?_⟩) ?_ ?_
   rotate_left
   ·intro w'
    go_simp
    with_reducible rfl
   rotate_left
   ·simp only [Act.put,List.setIfInBounds_toArray,List.set_cons_zero,List.set_cons_succ,cS,cV]
    rfl
   refine nR (i:=20) (N:=some 28) (v:=?_) (a':=?_) #[true,true,true,true,true,true,true,true,true,true,true,true,true,true,true,true,true,true,true,true,true,false,false,false,false,true,false,false,false,false,false,false,false,false,false,false,false,false,false,false,false,false,false,false,false] rfl rfl av (fun _ _ _ h=>h) (Or.inl ⟨by rfl,?_⟩) hHeld ?_ ?_
   rotate_left
   ·rintro w' ⟨s0,s1,s2,s3⟩
    go_simp
    with_reducible rfl
   rotate_left
   ·simp only [Act.put,List.setIfInBounds_toArray,List.set_cons_zero,List.set_cons_succ,cS,cV]
    rfl
   refine nR (i:=21) (N:=some 29) (v:=?_) (a':=?_) #[true,true,true,true,true,true,true,true,true,true,true,true,true,true,true,true,true,true,true,true,true,true,false,false,false,true,false,false,false,false,false,false,false,false,false,false,false,false,false,false,false,false,false,false,false] rfl rfl av (fun _ _ _ h=>h) (Or.inl ⟨by rfl,?_⟩) hHeld ?_ ?_
   rotate_left
   ·rintro w' ⟨s0,s1,s2,s3⟩
    go_simp
    with_reducible rfl
   rotate_left
   ·simp only [Act.put,List.setIfInBounds_toArray,List.set_cons_zero,List.set_cons_succ,cS,cV]
    rfl
   refine eG (i:=22) (N:=some 30) (v:=?_) (a':=?_) #[true,true,true,true,true,true,true,true,true,true,true,true,true,true,true,true,true,true,true,true,true,true,true,false,false,true,false,false,false,false,false,false,false,false,false,false,false,false,false,false,false,false,false,false,false] rfl rfl av (fun _ _ _ h=>h) (Or.inl ⟨by rfl,?_⟩) ?_ ?_
   rotate_left
   ·intro w'
    go_simp
    with_reducible rfl
   rotate_left
   ·simp only [Act.put,List.setIfInBounds_toArray,List.set_cons_zero,List.set_cons_succ,cS,cV]
    rfl
   refine eG (i:=23) (N:=some 31) (v:=?_) (a':=?_) #[true,true,true,true,true,true,true,true,true,true,true,true,true,true,true,true,true,true,true,true,true,true,true,true,false,true,false,false,false,false,false,false,false,false,false,false,false,false,false,false,false,false,false,false,false] rfl rfl av (fun _ _ _ h=>h) (Or.inl ⟨by rfl,?_⟩) ?_ ?_
   rotate_left
   ·intro w'
    go_simp
    with_reducible rfl
   rotate_left
   ·simp only [Act.put,List.setIfInBounds_toArray,List.set_cons_zero,List.set_cons_succ,cS,cV]
    rfl
   refine nR (i:=24) (N:=some 32) (v:=?_) (a':=?_) #[true,true,true,true,true,true,true,true,true,true,true,true,true,true,true,true,true,true,true,true,true,true,true,true,true,true,false,false,false,false,false,false,false,false,false,false,false,false,false,false,false,false,false,false,false] rfl rfl av (fun _ _ _ h=>h) (Or.inl ⟨by rfl,?_⟩) hHeld ?_ ?_
   rotate_left
   ·rintro w' ⟨s0,s1,s2,s3⟩
    go_simp
    with_reducible rfl
   rotate_left
   ·simp only [Act.put,List.setIfInBounds_toArray,List.set_cons_zero,List.set_cons_succ,cS,cV]
    rfl
   refine eG (i:=26) (N:=some 34) (v:=?_) (a':=?_) #[true,true,true,true,true,true,true,true,true,true,true,true,true,true,true,true,true,true,true,true,true,true,true,true,true,true,true,false,false,false,false,false,false,false,false,false,false,false,false,false,false,false,false,false,false] rfl rfl av (fun _ _ _ h=>h) (Or.inl ⟨by rfl,?_⟩) ?_ ?_
   rotate_left
   ·intro w'
    go_simp
    with_reducible rfl
   rotate_left
   ·simp only [Act.put,List.setIfInBounds_toArray,List.set_cons_zero,List.set_cons_succ,cS,cV]
    rfl
   refine eG (i:=27) (N:=some 35) (v:=?_) (a':=?_) #[true,true,true,true,true,true,true,true,true,true,true,true,true,true,true,true,true,true,true,true,true,true,true,true,true,true,true,true,false,false,false,false,false,false,false,false,false,false,false,false,false,false,false,false,false] rfl rfl av (fun _ _ _ h=>h) (Or.inl ⟨by rfl,?_⟩) ?_ ?_
   rotate_left
   ·intro w'
    go_simp
    with_reducible rfl
   rotate_left
   ·simp only [Act.put,List.setIfInBounds_toArray,List.set_cons_zero,List.set_cons_succ,cS,cV]
    rfl
   refine II (i:=28) (N:=some 36) #[true,true,true,true,true,true,true,true,true,true,true,true,true,true,true,true,true,true,true,true,true,true,true,true,true,true,true,true,true,false,false,false,false,false,false,false,false,false,false,false,false,false,false,false,false] rfl rfl av bL (fun K hK=>?_)
   refine BV Tryz.func81 av rfl #[.string (s.extract p.toNat (p + 10).toNat)] (by rfl) rfl rfl (by simp only [List.map_toArray,List.map_cons,List.map_nil];rfl) ?_
   with_reducible refine (HC.out _).mono ?_
   rintro e w3 ⟨rfl,hb⟩
   refine ⟨_,rfl,?_⟩
   have BG:=ah.mk (pX.below hHeld.2.2.2.out hb)
   clear hb
   refine hK.out _ _ ⟨(af BG.out.ha 0).trans rfl,(af BG.out.st.1 0).trans rfl,(af BG.out.st.1 1).trans rfl,BG⟩ (fun hHeld=>?_)
   clear hK K
   refine BU (a':=?_) ?_ ?_
   rotate_left
   ·show Act.put _ (some 36) _=_
    simp only [Act.put,List.setIfInBounds_toArray,List.set_cons_zero,List.set_cons_succ,cS,cV]
    rfl
   refine eG (i:=29) (N:=some 37) (v:=?_) (a':=?_) #[true,true,true,true,true,true,true,true,true,true,true,true,true,true,true,true,true,true,true,true,true,true,true,true,true,true,true,true,true,true,false,false,false,false,false,false,false,false,false,false,false,false,false,false,false] rfl rfl av (fun _ _ _ h=>h) (Or.inl ⟨by rfl,?_⟩) ?_ ?_
   rotate_left
   ·intro w'
    go_simp
    with_reducible rfl
   rotate_left
   ·simp only [Act.put,List.setIfInBounds_toArray,List.set_cons_zero,List.set_cons_succ,cS,cV]
    rfl
   refine eG (i:=30) (N:=some 38) (v:=?_) (a':=?_) #[true,true,true,true,true,true,true,true,true,true,true,true,true,true,true,true,true,true,true,true,true,true,true,true,true,true,true,true,true,true,true,false,false,false,false,false,false,false,false,false,false,false,false,false,false] rfl rfl av (fun _ _ _ h=>h) (Or.inl ⟨by rfl,?_⟩) ?_ ?_
   rotate_left
   ·intro w'
    go_simp
    with_reducible rfl
   rotate_left
   ·simp only [Act.put,List.setIfInBounds_toArray,List.set_cons_zero,List.set_cons_succ,cS,cV]
    rfl
   refine eG (i:=31) (N:=some 39) (v:=?_) (a':=?_) #[true,true,true,true,true,true,true,true,true,true,true,true,true,true,true,true,true,true,true,true,true,true,true,true,true,true,true,true,true,true,true,true,false,false,false,false,false,false,false,false,false,false,false,false,false] rfl rfl av (fun _ _ _ h=>h) (Or.inl ⟨by rfl,?_⟩) ?_ ?_
   rotate_left
   ·intro w'
    go_simp
    with_reducible rfl
   rotate_left
   ·simp only [Act.put,List.setIfInBounds_toArray,List.set_cons_zero,List.set_cons_succ,cS,cV]
    rfl
   refine eG (i:=32) (N:=some 40) (v:=undef) (a':=?_) #[true,true,true,true,true,true,true,true,true,true,true,true,true,true,true,true,true,true,true,true,true,true,true,true,true,true,true,true,true,true,true,true,true,false,false,false,false,false,false,false,false,false,false,false,false] rfl rfl av (fun _ _ _ h=>h) (Or.inr ⟨by rfl,rfl⟩) ?_ ?_
   rotate_left
   ·simp only [Act.put,List.setIfInBounds_toArray,List.set_cons_zero,List.set_cons_succ,cS,cV]
    rfl
   refine eG (i:=33) (N:=some 41) (v:=undef) (a':=?_) #[true,true,true,true,true,true,true,true,true,true,true,true,true,true,true,true,true,true,true,true,true,true,true,true,true,true,true,true,true,true,true,true,true,true,false,false,false,false,false,false,false,false,false,false,false] rfl rfl av (fun _ _ _ h=>h) (Or.inr ⟨by rfl,rfl⟩) ?_ ?_
   rotate_left
   ·simp only [Act.put,List.setIfInBounds_toArray,List.set_cons_zero,List.set_cons_succ,cS,cV]
    rfl
   refine eG (i:=34) (N:=some 42) (v:=undef) (a':=?_) #[true,true,true,true,true,true,true,true,true,true,true,true,true,true,true,true,true,true,true,true,true,true,true,true,true,true,true,true,true,true,true,true,true,true,true,false,false,false,false,false,false,false,false,false,false] rfl rfl av (fun _ _ _ h=>h) (Or.inr ⟨by rfl,rfl⟩) ?_ ?_
   rotate_left
   ·simp only [Act.put,List.setIfInBounds_toArray,List.set_cons_zero,List.set_cons_succ,cS,cV]
    rfl
   refine eG (i:=35) (N:=some 43) (v:=undef) (a':=?_) #[true,true,true,true,true,true,true,true,true,true,true,true,true,true,true,true,true,true,true,true,true,true,true,true,true,true,true,true,true,true,true,true,true,true,true,true,false,false,false,false,false,false,false,false,false] rfl rfl av (fun _ _ _ h=>h) (Or.inr ⟨by rfl,rfl⟩) ?_ ?_
   rotate_left
   ·simp only [Act.put,List.setIfInBounds_toArray,List.set_cons_zero,List.set_cons_succ,cS,cV]
    rfl
   refine eG (i:=36) (N:=some 44) (v:=undef) (a':=?_) #[true,true,true,true,true,true,true,true,true,true,true,true,true,true,true,true,true,true,true,true,true,true,true,true,true,true,true,true,true,true,true,true,true,true,true,true,true,false,false,false,false,false,false,false,false] rfl rfl av (fun _ _ _ h=>h) (Or.inr ⟨by rfl,rfl⟩) ?_ ?_
   rotate_left
   ·simp only [Act.put,List.setIfInBounds_toArray,List.set_cons_zero,List.set_cons_succ,cS,cV]
    rfl
   refine eG (i:=37) (N:=some 45) (v:=undef) (a':=?_) #[true,true,true,true,true,true,true,true,true,true,true,true,true,true,true,true,true,true,true,true,true,true,true,true,true,true,true,true,true,true,true,true,true,true,true,true,true,true,false,false,false,false,false,false,false] rfl rfl av (fun _ _ _ h=>h) (Or.inr ⟨by rfl,rfl⟩) ?_ ?_
   rotate_left
   ·simp only [Act.put,List.setIfInBounds_toArray,List.set_cons_zero,List.set_cons_succ,cS,cV]
    rfl
   refine eG (i:=38) (N:=some 46) (v:=undef) (a':=?_) #[true,true,true,true,true,true,true,true,true,true,true,true,true,true,true,true,true,true,true,true,true,true,true,true,true,true,true,true,true,true,true,true,true,true,true,true,true,true,true,false,false,false,false,false,false] rfl rfl av (fun _ _ _ h=>h) (Or.inr ⟨by rfl,rfl⟩) ?_ ?_
   rotate_left
   ·simp only [Act.put,List.setIfInBounds_toArray,List.set_cons_zero,List.set_cons_succ,cS,cV]
    rfl
   refine eG (i:=39) (N:=some 47) (v:=undef) (a':=?_) #[true,true,true,true,true,true,true,true,true,true,true,true,true,true,true,true,true,true,true,true,true,true,true,true,true,true,true,true,true,true,true,true,true,true,true,true,true,true,true,true,false,false,false,false,false] rfl rfl av (fun _ _ _ h=>h) (Or.inr ⟨by rfl,rfl⟩) ?_ ?_
   rotate_left
   ·simp only [Act.put,List.setIfInBounds_toArray,List.set_cons_zero,List.set_cons_succ,cS,cV]
    rfl
   refine eG (i:=40) (N:=some 48) (v:=undef) (a':=?_) #[true,true,true,true,true,true,true,true,true,true,true,true,true,true,true,true,true,true,true,true,true,true,true,true,true,true,true,true,true,true,true,true,true,true,true,true,true,true,true,true,true,false,false,false,false] rfl rfl av (fun _ _ _ h=>h) (Or.inr ⟨by rfl,rfl⟩) ?_ ?_
   rotate_left
   ·simp only [Act.put,List.setIfInBounds_toArray,List.set_cons_zero,List.set_cons_succ,cS,cV]
    rfl
   refine eG (i:=41) (N:=some 49) (v:=undef) (a':=?_) #[true,true,true,true,true,true,true,true,true,true,true,true,true,true,true,true,true,true,true,true,true,true,true,true,true,true,true,true,true,true,true,true,true,true,true,true,true,true,true,true,true,true,false,false,false] rfl rfl av (fun _ _ _ h=>h) (Or.inr ⟨by rfl,rfl⟩) ?_ ?_
   rotate_left
   ·simp only [Act.put,List.setIfInBounds_toArray,List.set_cons_zero,List.set_cons_succ,cS,cV]
    rfl
   refine eG (i:=42) (N:=some 50) (v:=undef) (a':=?_) #[true,true,true,true,true,true,true,true,true,true,true,true,true,true,true,true,true,true,true,true,true,true,true,true,true,true,true,true,true,true,true,true,true,true,true,true,true,true,true,true,true,true,true,false,false] rfl rfl av (fun _ _ _ h=>h) (Or.inr ⟨by rfl,rfl⟩) ?_ ?_
   rotate_left
   ·simp only [Act.put,List.setIfInBounds_toArray,List.set_cons_zero,List.set_cons_succ,cS,cV]
    rfl
   refine eG (i:=43) (N:=some 51) (v:=undef) (a':=?_) #[true,true,true,true,true,true,true,true,true,true,true,true,true,true,true,true,true,true,true,true,true,true,true,true,true,true,true,true,true,true,true,true,true,true,true,true,true,true,true,true,true,true,true,true,false] rfl rfl av (fun _ _ _ h=>h) (Or.inr ⟨by rfl,rfl⟩) ?_ ?_
   rotate_left
   ·simp only [Act.put,List.setIfInBounds_toArray,List.set_cons_zero,List.set_cons_succ,cS,cV]
    rfl
   refine eG (i:=44) (N:=some 52) (v:=?_) (a':=?_) #[true,true,true,true,true,true,true,true,true,true,true,true,true,true,true,true,true,true,true,true,true,true,true,true,true,true,true,true,true,true,true,true,true,true,true,true,true,true,true,true,true,true,true,true,true] rfl rfl av (fun _ _ _ h=>h) (Or.inl ⟨by rfl,?_⟩) ?_ ?_
   rotate_left
   ·intro w'
    go_simp
    with_reducible rfl
   rotate_left
   ·simp only [Act.put,List.setIfInBounds_toArray,List.set_cons_zero,List.set_cons_succ,cS,cV]
    rfl
   refine Gz av ?_
   have H2:=ah.mk (show dh.f2 k s p=some (r1,r2,r3,r4,r5,r6,r7,r8) from (if_neg (by rw [HA.out];decide)).symm.trans HH.out)
   clear HA HH
   have HE:=ah.mk BG.out.held
   have afY:=HE.out.ca
   have h:=H2.out
   clear H2
   unfold dh.f2 at h
   obtain ⟨⟨c1,c2,c3⟩,A1,h⟩:=Option.bind_eq_some_iff.mp h
   dsimp only at A1 h
   have qY:=ah.mk A1
   clear A1
   cases h64:(c1 == 64) with
   |false=>
    rw [if_neg zJ] at h
    unfold dh.f3 at h
    obtain ⟨⟨m1,m2,m3,m4,m5,m6⟩,Ab,h⟩:=Option.bind_eq_some_iff.mp h
    dsimp only at Ab h
    simp only [Option.some.injEq,Prod.mk.injEq] at h
    obtain ⟨rfl,rfl,rfl,rfl,rfl,rfl,rfl,rfl⟩:=h
    have Xp:=ah.mk Ab
    clear Ab
    go_wp2_with (first
     |(go_at_call 115;refine (dg.calls g s p c1 c2 c3 w0 _ HE.out.st HE.out.bl qY.out).mono ?_;rintro e w4 ⟨rfl,hi,hb,hk⟩;have wE:=ah.mk (HE.out.call hi hb hk);have G3:=wE.out.ca;clear hi hb hk)
     |(go_at_call 71;refine (cz.calls k g c2 c3 m1 m2 m3 m4 m5 m6 w0 _ wE.out.st wE.out.bl HG.out Xp.out).mono ?_;rintro e w9 ⟨rfl,hi,hb,hk⟩;have ij:=ah.mk (wE.out.call hi hb hk);have Xq:=ij.out.fb 0;have Xr:=ij.out.fb 1;have Xt:=ij.out.fb 2;have Xu:=ij.out.fb 3;have Xv:=ij.out.fb 4;have Xw:w9.cell? ⟨w3.heap.size,0,none⟩=some (Value.bool false):=(af ij.out.hb 0).trans rfl;have Xx:w9.cell? ⟨w3.heap.size,1,none⟩=some (Value.slice none 0 0):=(af ij.out.hb 1).trans rfl;have Xy:w9.cell? ⟨w3.heap.size,2,none⟩=some (Value.string ⟨#[]⟩):=(af ij.out.hb 2).trans rfl;have Xz:w9.cell? ⟨w3.heap.size,3,none⟩=some (Value.string ⟨#[]⟩):=(af ij.out.hb 3).trans rfl;have XA:w9.cell? ⟨w3.heap.size,4,none⟩=some (Value.bool false):=(af ij.out.hb 4).trans rfl;have ET:=aa ij.out.hc 0;have EU:=aa ij.out.hc 1;have EW:=aa ij.out.hc 2;have EX:=aa ij.out.hc 3;have EY:=aa ij.out.hc 4;have EZ:w9.cell? ⟨w.heap.size + 1,0,none⟩=some (Value.bool false):=(af ij.out.hc 0).trans rfl;have E0:w9.cell? ⟨w.heap.size + 1,1,none⟩=some (Value.slice none 0 0):=(af ij.out.hc 1).trans rfl;have E1:w9.cell? ⟨w.heap.size + 1,2,none⟩=some (Value.string ⟨#[]⟩):=(af ij.out.hc 2).trans rfl;have E2:w9.cell? ⟨w.heap.size + 1,3,none⟩=some (Value.string ⟨#[]⟩):=(af ij.out.hc 3).trans rfl;have E3:w9.cell? ⟨w.heap.size + 1,4,none⟩=some (Value.bool false):=(af ij.out.hc 4).trans rfl;have hnb:w.heap.size + 1≠w3.heap.size:=Nat.ne_of_lt ij.out.gb;have XB:w3.heap.size≠w.heap.size + 1:=(Nat.ne_of_lt ij.out.gb).symm;clear hi hb hk))
    have H8:=ij.out.box (.string m1) (.string m2) (.bool m3) rfl
    have H9:=rE (.bool false) (.slice none 0 0) (.string m1) (.string m2) (.bool m3) H8.2.1 H8.2.2.1 H8.2.2.2.1 ij.out.sz (Nat.le_succ _) H8.2.2.2.2.2 rfl
    refine bodyPost_ret (dm rfl _ _ (w.heap.size + 1) 32 #[.bool false,.slice none 0 0,.string m1,.string m2,.bool m3] (0,0) _ rfl H9.1 Tryz.underlying32 rfl av) rfl ?_
    exact ⟨_,rfl,H9.2.2.2.2 _ _ H8.2.2.2.2.1,H9.2.1,H9.2.2.1,H9.2.2.2.1⟩
   |true=>
    rw [if_pos zJ] at h
    obtain ⟨⟨l1,l2,l3,l4⟩,A2,h⟩:=Option.bind_eq_some_iff.mp h
    dsimp only at A2 h
    have rR:=ah.mk A2
    clear A2
    cases l1 with
    |false=>
     rw [if_neg bL] at h
     simp only [Option.some.injEq,Prod.mk.injEq] at h
     obtain ⟨rfl,rfl,rfl,rfl,rfl,rfl,rfl,rfl⟩:=h
     go_wp2_with (first
      |(go_at_call 115;refine (dg.calls g s p c1 c2 c3 w0 _ HE.out.st HE.out.bl qY.out).mono ?_;rintro e w4 ⟨rfl,hi,hb,hk⟩;have wE:=ah.mk (HE.out.call hi hb hk);have G3:=wE.out.ca;clear hi hb hk)
      |(go_at_call 67;refine (dD.calls k g _ _ c2 c3 _ [] false l2 l3 l4 w0 w _ wE.out rR.out).mono ?_;rintro e w5 ⟨rfl,v5,h5⟩;have mq:=ah.mk h5;have NT:=mq.out.ca;clear h5;have ET:=aa mq.out.hc 0;have EU:=aa mq.out.hc 1;have EW:=aa mq.out.hc 2;have EX:=aa mq.out.hc 3;have EY:=aa mq.out.hc 4;have EZ:w5.cell? ⟨w.heap.size + 1,0,none⟩=some (Value.bool false):=(af mq.out.hc 0).trans rfl;have E0:w5.cell? ⟨w.heap.size + 1,1,none⟩=some (Value.slice none 0 0):=(af mq.out.hc 1).trans rfl;have E1:w5.cell? ⟨w.heap.size + 1,2,none⟩=some (Value.string ⟨#[]⟩):=(af mq.out.hc 2).trans rfl;have E2:w5.cell? ⟨w.heap.size + 1,3,none⟩=some (Value.string ⟨#[]⟩):=(af mq.out.hc 3).trans rfl;have E3:w5.cell? ⟨w.heap.size + 1,4,none⟩=some (Value.bool false):=(af mq.out.hc 4).trans rfl))
     have H9:=rE (W:=w5) (.bool false) (.slice none 0 0) (.string ⟨#[]⟩) (.string ⟨#[]⟩) (.bool false) mq.out.st mq.out.bl mq.out.kp mq.out.sz (Nat.le_succ _) mq.out.hc rfl
     refine bodyPost_ret (dm rfl _ _ (w.heap.size + 1) 32 #[.bool false,.slice none 0 0,.string ⟨#[]⟩,.string ⟨#[]⟩,.bool false] (0,0) _ rfl H9.1 Tryz.underlying32 rfl av) rfl ?_
     exact ⟨_,rfl,Kd.fF _ _ _ _ _,H9.2.1,H9.2.2.1,H9.2.2.2.1⟩
    |true=>
     rw [if_pos rfl] at h
     obtain ⟨⟨u1,u2,u3⟩,A3,h⟩:=Option.bind_eq_some_iff.mp h
     dsimp only at A3 h
     have wM:=ah.mk A3
     clear A3
     cases u1 with
     |false=>
      rw [if_neg bL] at h
      simp only [Option.some.injEq,Prod.mk.injEq] at h
      obtain ⟨rfl,rfl,rfl,rfl,rfl,rfl,rfl,rfl⟩:=h
      go_wp2_with (first
       |(go_at_call 115;refine (dg.calls g s p c1 c2 c3 w0 _ HE.out.st HE.out.bl qY.out).mono ?_;rintro e w4 ⟨rfl,hi,hb,hk⟩;have wE:=ah.mk (HE.out.call hi hb hk);have G3:=wE.out.ca;clear hi hb hk)
       |(go_at_call 67;refine (dD.calls k g _ _ c2 c3 _ [] true l2 l3 l4 w0 w _ wE.out rR.out).mono ?_;rintro e w5 ⟨rfl,v5,h5⟩;have mq:=ah.mk h5;have NT:=mq.out.ca;clear h5)
       |(go_at_call 56;refine (bu.calls g l2 l3 58 false u2 u3 w0 _ mq.out.st mq.out.bl wM.out).mono ?_;rintro e w6 ⟨rfl,hi,hb,hk⟩;have pg:=ah.mk (mq.out.call hi hb hk);have XC:=pg.out.ca;clear hi hb hk;have ET:=aa pg.out.hc 0;have EU:=aa pg.out.hc 1;have EW:=aa pg.out.hc 2;have EX:=aa pg.out.hc 3;have EY:=aa pg.out.hc 4;have EZ:w6.cell? ⟨w.heap.size + 1,0,none⟩=some (Value.bool false):=(af pg.out.hc 0).trans rfl;have E0:w6.cell? ⟨w.heap.size + 1,1,none⟩=some (Value.slice none 0 0):=(af pg.out.hc 1).trans rfl;have E1:w6.cell? ⟨w.heap.size + 1,2,none⟩=some (Value.string ⟨#[]⟩):=(af pg.out.hc 2).trans rfl;have E2:w6.cell? ⟨w.heap.size + 1,3,none⟩=some (Value.string ⟨#[]⟩):=(af pg.out.hc 3).trans rfl;have E3:w6.cell? ⟨w.heap.size + 1,4,none⟩=some (Value.bool false):=(af pg.out.hc 4).trans rfl))
      have H9:=rE (W:=w6) (.bool false) (.slice none 0 0) (.string ⟨#[]⟩) (.string ⟨#[]⟩) (.bool false) pg.out.st pg.out.bl pg.out.kp pg.out.sz (Nat.le_succ _) pg.out.hc rfl
      refine bodyPost_ret (dm rfl _ _ (w.heap.size + 1) 32 #[.bool false,.slice none 0 0,.string ⟨#[]⟩,.string ⟨#[]⟩,.bool false] (0,0) _ rfl H9.1 Tryz.underlying32 rfl av) rfl ?_
      exact ⟨_,rfl,Kd.fF _ _ _ _ _,H9.2.1,H9.2.2.1,H9.2.2.2.1⟩
     |true=>
      rw [if_pos rfl] at h
      unfold dh.f3 at h
      obtain ⟨⟨m1,m2,m3,m4,m5,m6⟩,Ab,h⟩:=Option.bind_eq_some_iff.mp h
      dsimp only at Ab h
      simp only [Option.some.injEq,Prod.mk.injEq] at h
      obtain ⟨rfl,rfl,rfl,rfl,rfl,rfl,rfl,rfl⟩:=h
      have Xp:=ah.mk Ab
      clear Ab
      go_wp2_with (first
       |(go_at_call 115;refine (dg.calls g s p c1 c2 c3 w0 _ HE.out.st HE.out.bl qY.out).mono ?_;rintro e w4 ⟨rfl,hi,hb,hk⟩;have wE:=ah.mk (HE.out.call hi hb hk);have G3:=wE.out.ca;clear hi hb hk)
       |(go_at_call 67;refine (dD.calls k g _ _ c2 c3 _ [] true l2 l3 l4 w0 w _ wE.out rR.out).mono ?_;rintro e w5 ⟨rfl,v5,h5⟩;have mq:=ah.mk h5;have NT:=mq.out.ca;clear h5)
       |(go_at_call 56;refine (bu.calls g l2 l3 58 true u2 u3 w0 _ mq.out.st mq.out.bl wM.out).mono ?_;rintro e w6 ⟨rfl,hi,hb,hk⟩;have pg:=ah.mk (mq.out.call hi hb hk);have XC:=pg.out.ca;clear hi hb hk)
       |(go_at_call 71;refine (cz.calls k g u2 u3 m1 m2 m3 m4 m5 m6 w0 _ pg.out.st pg.out.bl HG.out Xp.out).mono ?_;rintro e w9 ⟨rfl,hi,hb,hk⟩;have ij:=ah.mk (pg.out.call hi hb hk);obtain ⟨A9,c9,e9⟩:=Kd.eB ij.out.hr;subst e9;have Xq:=ij.out.fb 0;have Xr:=ij.out.fb 1;have Xt:=ij.out.fb 2;have Xu:=ij.out.fb 3;have Xv:=ij.out.fb 4;have Xw:w9.cell? ⟨w3.heap.size,0,none⟩=some (Value.bool false):=(af ij.out.hb 0).trans rfl;have Xx:w9.cell? ⟨w3.heap.size,1,none⟩=some (Value.slice A9 l4.length c9):=(af ij.out.hb 1).trans rfl;have Xy:w9.cell? ⟨w3.heap.size,2,none⟩=some (Value.string ⟨#[]⟩):=(af ij.out.hb 2).trans rfl;have Xz:w9.cell? ⟨w3.heap.size,3,none⟩=some (Value.string ⟨#[]⟩):=(af ij.out.hb 3).trans rfl;have XA:w9.cell? ⟨w3.heap.size,4,none⟩=some (Value.bool false):=(af ij.out.hb 4).trans rfl;have ET:=aa ij.out.hc 0;have EU:=aa ij.out.hc 1;have EW:=aa ij.out.hc 2;have EX:=aa ij.out.hc 3;have EY:=aa ij.out.hc 4;have EZ:w9.cell? ⟨w.heap.size + 1,0,none⟩=some (Value.bool false):=(af ij.out.hc 0).trans rfl;have E0:w9.cell? ⟨w.heap.size + 1,1,none⟩=some (Value.slice none 0 0):=(af ij.out.hc 1).trans rfl;have E1:w9.cell? ⟨w.heap.size + 1,2,none⟩=some (Value.string ⟨#[]⟩):=(af ij.out.hc 2).trans rfl;have E2:w9.cell? ⟨w.heap.size + 1,3,none⟩=some (Value.string ⟨#[]⟩):=(af ij.out.hc 3).trans rfl;have E3:w9.cell? ⟨w.heap.size + 1,4,none⟩=some (Value.bool false):=(af ij.out.hc 4).trans rfl;have hnb:w.heap.size + 1≠w3.heap.size:=Nat.ne_of_lt ij.out.gb;have XB:w3.heap.size≠w.heap.size + 1:=(Nat.ne_of_lt ij.out.gb).symm;clear hi hb hk))
      have H8:=ij.out.box (.string m1) (.string m2) (.bool m3) rfl
      have H9:=rE (.bool false) (.slice A9 l4.length c9) (.string m1) (.string m2) (.bool m3) H8.2.1 H8.2.2.1 H8.2.2.2.1 ij.out.sz (Nat.le_succ _) H8.2.2.2.2.2 rfl
      refine bodyPost_ret (dm rfl _ _ (w.heap.size + 1) 32 #[.bool false,.slice A9 l4.length c9,.string m1,.string m2,.bool m3] (0,0) _ rfl H9.1 Tryz.underlying32 rfl av) rfl ?_
      exact ⟨_,rfl,H9.2.2.2.2 _ _ H8.2.2.2.2.1,H9.2.1,H9.2.2.1,H9.2.2.2.1⟩
  |true=>
   cases h62:(bt s (p + 10) == 62) with
   |false=>
    have HA:=ah.mk (show qG s p=false by unfold qG;rw [HX.out,hq,h62];simp)
    go_region_held3 (fun w'=>w'.cell? ⟨w.heap.size,0,none⟩=some (.pointer (some ⟨g,0,none⟩))∧w'.cell? ⟨g,0,none⟩=some (.string s)∧w'.cell? ⟨g,1,none⟩=some (.int .i64 p)∧ah (pX w0 w w' g s p)) (first|exact ⟨hca,hc0,hc1,ah.mk (HF.out.below (bq (Below.refl _ _)))⟩|(refine ⟨?_,?_,?_,?_⟩<;>assumption))
     (first|(go_at_call 81;obtain ⟨_,_,_,hF⟩:=‹_∧_∧_∧ah (pX w0 w _ g s p)›;refine (HC.out _).mono ?_;rintro e w3 ⟨rfl,hb⟩;have hF3:=pX.below hF.out hb;have BG:=ah.mk hF3;clear hF hF3;have aoz:w3.cell? ⟨w.heap.size,0,none⟩=some (.pointer (some ⟨g,0,none⟩)):=(af BG.out.ha 0).trans rfl;have aoA:w3.cell? ⟨g,0,none⟩=some (.string s):=(af BG.out.st.1 0).trans rfl;have aoB:w3.cell? ⟨g,1,none⟩=some (.int .i64 p):=(af BG.out.st.1 1).trans rfl;clear hb))
    have H2:=ah.mk (show dh.f2 k s p=some (r1,r2,r3,r4,r5,r6,r7,r8) from (if_neg (by rw [HA.out];decide)).symm.trans HH.out)
    clear HA HH
    have HE:=ah.mk BG.out.held
    have afY:=HE.out.ca
    have h:=H2.out
    clear H2
    unfold dh.f2 at h
    obtain ⟨⟨c1,c2,c3⟩,A1,h⟩:=Option.bind_eq_some_iff.mp h
    dsimp only at A1 h
    have qY:=ah.mk A1
    clear A1
    cases h64:(c1 == 64) with
    |false=>
     rw [if_neg zJ] at h
     unfold dh.f3 at h
     obtain ⟨⟨m1,m2,m3,m4,m5,m6⟩,Ab,h⟩:=Option.bind_eq_some_iff.mp h
     dsimp only at Ab h
     simp only [Option.some.injEq,Prod.mk.injEq] at h
     obtain ⟨rfl,rfl,rfl,rfl,rfl,rfl,rfl,rfl⟩:=h
     have Xp:=ah.mk Ab
     clear Ab
     go_wp2_with (first
      |(go_at_call 115;refine (dg.calls g s p c1 c2 c3 w0 _ HE.out.st HE.out.bl qY.out).mono ?_;rintro e w4 ⟨rfl,hi,hb,hk⟩;have wE:=ah.mk (HE.out.call hi hb hk);have G3:=wE.out.ca;clear hi hb hk)
      |(go_at_call 71;refine (cz.calls k g c2 c3 m1 m2 m3 m4 m5 m6 w0 _ wE.out.st wE.out.bl HG.out Xp.out).mono ?_;rintro e w9 ⟨rfl,hi,hb,hk⟩;have ij:=ah.mk (wE.out.call hi hb hk);have Xq:=ij.out.fb 0;have Xr:=ij.out.fb 1;have Xt:=ij.out.fb 2;have Xu:=ij.out.fb 3;have Xv:=ij.out.fb 4;have Xw:w9.cell? ⟨w3.heap.size,0,none⟩=some (Value.bool false):=(af ij.out.hb 0).trans rfl;have Xx:w9.cell? ⟨w3.heap.size,1,none⟩=some (Value.slice none 0 0):=(af ij.out.hb 1).trans rfl;have Xy:w9.cell? ⟨w3.heap.size,2,none⟩=some (Value.string ⟨#[]⟩):=(af ij.out.hb 2).trans rfl;have Xz:w9.cell? ⟨w3.heap.size,3,none⟩=some (Value.string ⟨#[]⟩):=(af ij.out.hb 3).trans rfl;have XA:w9.cell? ⟨w3.heap.size,4,none⟩=some (Value.bool false):=(af ij.out.hb 4).trans rfl;have ET:=aa ij.out.hc 0;have EU:=aa ij.out.hc 1;have EW:=aa ij.out.hc 2;have EX:=aa ij.out.hc 3;have EY:=aa ij.out.hc 4;have EZ:w9.cell? ⟨w.heap.size + 1,0,none⟩=some (Value.bool false):=(af ij.out.hc 0).trans rfl;have E0:w9.cell? ⟨w.heap.size + 1,1,none⟩=some (Value.slice none 0 0):=(af ij.out.hc 1).trans rfl;have E1:w9.cell? ⟨w.heap.size + 1,2,none⟩=some (Value.string ⟨#[]⟩):=(af ij.out.hc 2).trans rfl;have E2:w9.cell? ⟨w.heap.size + 1,3,none⟩=some (Value.string ⟨#[]⟩):=(af ij.out.hc 3).trans rfl;have E3:w9.cell? ⟨w.heap.size + 1,4,none⟩=some (Value.bool false):=(af ij.out.hc 4).trans rfl;have hnb:w.heap.size + 1≠w3.heap.size:=Nat.ne_of_lt ij.out.gb;have XB:w3.heap.size≠w.heap.size + 1:=(Nat.ne_of_lt ij.out.gb).symm;clear hi hb hk))
     have H8:=ij.out.box (.string m1) (.string m2) (.bool m3) rfl
     have H9:=rE (.bool false) (.slice none 0 0) (.string m1) (.string m2) (.bool m3) H8.2.1 H8.2.2.1 H8.2.2.2.1 ij.out.sz (Nat.le_succ _) H8.2.2.2.2.2 rfl
     refine bodyPost_ret (dm rfl _ _ (w.heap.size + 1) 32 #[.bool false,.slice none 0 0,.string m1,.string m2,.bool m3] (0,0) _ rfl H9.1 Tryz.underlying32 rfl av) rfl ?_
     exact ⟨_,rfl,H9.2.2.2.2 _ _ H8.2.2.2.2.1,H9.2.1,H9.2.2.1,H9.2.2.2.1⟩
    |true=>
     rw [if_pos zJ] at h
     obtain ⟨⟨l1,l2,l3,l4⟩,A2,h⟩:=Option.bind_eq_some_iff.mp h
     dsimp only at A2 h
     have rR:=ah.mk A2
     clear A2
     cases l1 with
     |false=>
      rw [if_neg bL] at h
      simp only [Option.some.injEq,Prod.mk.injEq] at h
      obtain ⟨rfl,rfl,rfl,rfl,rfl,rfl,rfl,rfl⟩:=h
      go_wp2_with (first
       |(go_at_call 115;refine (dg.calls g s p c1 c2 c3 w0 _ HE.out.st HE.out.bl qY.out).mono ?_;rintro e w4 ⟨rfl,hi,hb,hk⟩;have wE:=ah.mk (HE.out.call hi hb hk);have G3:=wE.out.ca;clear hi hb hk)
       |(go_at_call 67;refine (dD.calls k g _ _ c2 c3 _ [] false l2 l3 l4 w0 w _ wE.out rR.out).mono ?_;rintro e w5 ⟨rfl,v5,h5⟩;have mq:=ah.mk h5;have NT:=mq.out.ca;clear h5;have ET:=aa mq.out.hc 0;have EU:=aa mq.out.hc 1;have EW:=aa mq.out.hc 2;have EX:=aa mq.out.hc 3;have EY:=aa mq.out.hc 4;have EZ:w5.cell? ⟨w.heap.size + 1,0,none⟩=some (Value.bool false):=(af mq.out.hc 0).trans rfl;have E0:w5.cell? ⟨w.heap.size + 1,1,none⟩=some (Value.slice none 0 0):=(af mq.out.hc 1).trans rfl;have E1:w5.cell? ⟨w.heap.size + 1,2,none⟩=some (Value.string ⟨#[]⟩):=(af mq.out.hc 2).trans rfl;have E2:w5.cell? ⟨w.heap.size + 1,3,none⟩=some (Value.string ⟨#[]⟩):=(af mq.out.hc 3).trans rfl;have E3:w5.cell? ⟨w.heap.size + 1,4,none⟩=some (Value.bool false):=(af mq.out.hc 4).trans rfl))
      have H9:=rE (W:=w5) (.bool false) (.slice none 0 0) (.string ⟨#[]⟩) (.string ⟨#[]⟩) (.bool false) mq.out.st mq.out.bl mq.out.kp mq.out.sz (Nat.le_succ _) mq.out.hc rfl
      refine bodyPost_ret (dm rfl _ _ (w.heap.size + 1) 32 #[.bool false,.slice none 0 0,.string ⟨#[]⟩,.string ⟨#[]⟩,.bool false] (0,0) _ rfl H9.1 Tryz.underlying32 rfl av) rfl ?_
      exact ⟨_,rfl,Kd.fF _ _ _ _ _,H9.2.1,H9.2.2.1,H9.2.2.2.1⟩
     |true=>
      rw [if_pos rfl] at h
      obtain ⟨⟨u1,u2,u3⟩,A3,h⟩:=Option.bind_eq_some_iff.mp h
      dsimp only at A3 h
      have wM:=ah.mk A3
      clear A3
      cases u1 with
      |false=>
       rw [if_neg bL] at h
       simp only [Option.some.injEq,Prod.mk.injEq] at h
       obtain ⟨rfl,rfl,rfl,rfl,rfl,rfl,rfl,rfl⟩:=h
       go_wp2_with (first
        |(go_at_call 115;refine (dg.calls g s p c1 c2 c3 w0 _ HE.out.st HE.out.bl qY.out).mono ?_;rintro e w4 ⟨rfl,hi,hb,hk⟩;have wE:=ah.mk (HE.out.call hi hb hk);have G3:=wE.out.ca;clear hi hb hk)
        |(go_at_call 67;refine (dD.calls k g _ _ c2 c3 _ [] true l2 l3 l4 w0 w _ wE.out rR.out).mono ?_;rintro e w5 ⟨rfl,v5,h5⟩;have mq:=ah.mk h5;have NT:=mq.out.ca;clear h5)
        |(go_at_call 56;refine (bu.calls g l2 l3 58 false u2 u3 w0 _ mq.out.st mq.out.bl wM.out).mono ?_;rintro e w6 ⟨rfl,hi,hb,hk⟩;have pg:=ah.mk (mq.out.call hi hb hk);have XC:=pg.out.ca;clear hi hb hk;have ET:=aa pg.out.hc 0;have EU:=aa pg.out.hc 1;have EW:=aa pg.out.hc 2;have EX:=aa pg.out.hc 3;have EY:=aa pg.out.hc 4;have EZ:w6.cell? ⟨w.heap.size + 1,0,none⟩=some (Value.bool false):=(af pg.out.hc 0).trans rfl;have E0:w6.cell? ⟨w.heap.size + 1,1,none⟩=some (Value.slice none 0 0):=(af pg.out.hc 1).trans rfl;have E1:w6.cell? ⟨w.heap.size + 1,2,none⟩=some (Value.string ⟨#[]⟩):=(af pg.out.hc 2).trans rfl;have E2:w6.cell? ⟨w.heap.size + 1,3,none⟩=some (Value.string ⟨#[]⟩):=(af pg.out.hc 3).trans rfl;have E3:w6.cell? ⟨w.heap.size + 1,4,none⟩=some (Value.bool false):=(af pg.out.hc 4).trans rfl))
       have H9:=rE (W:=w6) (.bool false) (.slice none 0 0) (.string ⟨#[]⟩) (.string ⟨#[]⟩) (.bool false) pg.out.st pg.out.bl pg.out.kp pg.out.sz (Nat.le_succ _) pg.out.hc rfl
       refine bodyPost_ret (dm rfl _ _ (w.heap.size + 1) 32 #[.bool false,.slice none 0 0,.string ⟨#[]⟩,.string ⟨#[]⟩,.bool false] (0,0) _ rfl H9.1 Tryz.underlying32 rfl av) rfl ?_
       exact ⟨_,rfl,Kd.fF _ _ _ _ _,H9.2.1,H9.2.2.1,H9.2.2.2.1⟩
      |true=>
       rw [if_pos rfl] at h
       unfold dh.f3 at h
       obtain ⟨⟨m1,m2,m3,m4,m5,m6⟩,Ab,h⟩:=Option.bind_eq_some_iff.mp h
       dsimp only at Ab h
       simp only [Option.some.injEq,Prod.mk.injEq] at h
       obtain ⟨rfl,rfl,rfl,rfl,rfl,rfl,rfl,rfl⟩:=h
       have Xp:=ah.mk Ab
       clear Ab
       go_wp2_with (first
        |(go_at_call 115;refine (dg.calls g s p c1 c2 c3 w0 _ HE.out.st HE.out.bl qY.out).mono ?_;rintro e w4 ⟨rfl,hi,hb,hk⟩;have wE:=ah.mk (HE.out.call hi hb hk);have G3:=wE.out.ca;clear hi hb hk)
        |(go_at_call 67;refine (dD.calls k g _ _ c2 c3 _ [] true l2 l3 l4 w0 w _ wE.out rR.out).mono ?_;rintro e w5 ⟨rfl,v5,h5⟩;have mq:=ah.mk h5;have NT:=mq.out.ca;clear h5)
        |(go_at_call 56;refine (bu.calls g l2 l3 58 true u2 u3 w0 _ mq.out.st mq.out.bl wM.out).mono ?_;rintro e w6 ⟨rfl,hi,hb,hk⟩;have pg:=ah.mk (mq.out.call hi hb hk);have XC:=pg.out.ca;clear hi hb hk)
        |(go_at_call 71;refine (cz.calls k g u2 u3 m1 m2 m3 m4 m5 m6 w0 _ pg.out.st pg.out.bl HG.out Xp.out).mono ?_;rintro e w9 ⟨rfl,hi,hb,hk⟩;have ij:=ah.mk (pg.out.call hi hb hk);obtain ⟨A9,c9,e9⟩:=Kd.eB ij.out.hr;subst e9;have Xq:=ij.out.fb 0;have Xr:=ij.out.fb 1;have Xt:=ij.out.fb 2;have Xu:=ij.out.fb 3;have Xv:=ij.out.fb 4;have Xw:w9.cell? ⟨w3.heap.size,0,none⟩=some (Value.bool false):=(af ij.out.hb 0).trans rfl;have Xx:w9.cell? ⟨w3.heap.size,1,none⟩=some (Value.slice A9 l4.length c9):=(af ij.out.hb 1).trans rfl;have Xy:w9.cell? ⟨w3.heap.size,2,none⟩=some (Value.string ⟨#[]⟩):=(af ij.out.hb 2).trans rfl;have Xz:w9.cell? ⟨w3.heap.size,3,none⟩=some (Value.string ⟨#[]⟩):=(af ij.out.hb 3).trans rfl;have XA:w9.cell? ⟨w3.heap.size,4,none⟩=some (Value.bool false):=(af ij.out.hb 4).trans rfl;have ET:=aa ij.out.hc 0;have EU:=aa ij.out.hc 1;have EW:=aa ij.out.hc 2;have EX:=aa ij.out.hc 3;have EY:=aa ij.out.hc 4;have EZ:w9.cell? ⟨w.heap.size + 1,0,none⟩=some (Value.bool false):=(af ij.out.hc 0).trans rfl;have E0:w9.cell? ⟨w.heap.size + 1,1,none⟩=some (Value.slice none 0 0):=(af ij.out.hc 1).trans rfl;have E1:w9.cell? ⟨w.heap.size + 1,2,none⟩=some (Value.string ⟨#[]⟩):=(af ij.out.hc 2).trans rfl;have E2:w9.cell? ⟨w.heap.size + 1,3,none⟩=some (Value.string ⟨#[]⟩):=(af ij.out.hc 3).trans rfl;have E3:w9.cell? ⟨w.heap.size + 1,4,none⟩=some (Value.bool false):=(af ij.out.hc 4).trans rfl;have hnb:w.heap.size + 1≠w3.heap.size:=Nat.ne_of_lt ij.out.gb;have XB:w3.heap.size≠w.heap.size + 1:=(Nat.ne_of_lt ij.out.gb).symm;clear hi hb hk))
       have H8:=ij.out.box (.string m1) (.string m2) (.bool m3) rfl
       have H9:=rE (.bool false) (.slice A9 l4.length c9) (.string m1) (.string m2) (.bool m3) H8.2.1 H8.2.2.1 H8.2.2.2.1 ij.out.sz (Nat.le_succ _) H8.2.2.2.2.2 rfl
       refine bodyPost_ret (dm rfl _ _ (w.heap.size + 1) 32 #[.bool false,.slice A9 l4.length c9,.string m1,.string m2,.bool m3] (0,0) _ rfl H9.1 Tryz.underlying32 rfl av) rfl ?_
       exact ⟨_,rfl,H9.2.2.2.2 _ _ H8.2.2.2.2.1,H9.2.1,H9.2.2.1,H9.2.2.2.1⟩
   |true=>
    have HA:=ah.mk (show qG s p=true by unfold qG;rw [HX.out,hq,h62,decide_eq_true hr];rfl)
    go_region_held3 (fun w'=>w'.cell? ⟨w.heap.size,0,none⟩=some (.pointer (some ⟨g,0,none⟩))∧w'.cell? ⟨g,0,none⟩=some (.string s)∧w'.cell? ⟨g,1,none⟩=some (.int .i64 p)∧ah (pX w0 w w' g s p)) (first|exact ⟨hca,hc0,hc1,ah.mk (HF.out.below (bq (Below.refl _ _)))⟩|(refine ⟨?_,?_,?_,?_⟩<;>assumption))
     (first|(go_at_call 81;obtain ⟨_,_,_,hF⟩:=‹_∧_∧_∧ah (pX w0 w _ g s p)›;refine (HC.out _).mono ?_;rintro e w3 ⟨rfl,hb⟩;have hF3:=pX.below hF.out hb;have BG:=ah.mk hF3;clear hF hF3;have aoz:w3.cell? ⟨w.heap.size,0,none⟩=some (.pointer (some ⟨g,0,none⟩)):=(af BG.out.ha 0).trans rfl;have aoA:w3.cell? ⟨g,0,none⟩=some (.string s):=(af BG.out.st.1 0).trans rfl;have aoB:w3.cell? ⟨g,1,none⟩=some (.int .i64 p):=(af BG.out.st.1 1).trans rfl;clear hb))
    have H2:=ah.mk ((if_pos HA.out).symm.trans HH.out)
    have h:=H2.out
    simp only [Option.some.injEq,Prod.mk.injEq] at h
    obtain ⟨rfl,rfl,rfl,rfl,rfl,rfl,rfl,rfl⟩:=h
    clear H2 HH
    have hk1:w3.frozen? ⟨g,1,none⟩=false:=aa BG.out.st.1 1
    have ET:=aa BG.out.hc 0
    have EU:=aa BG.out.hc 1
    have EW:=aa BG.out.hc 2
    have EX:=aa BG.out.hc 3
    have EY:=aa BG.out.hc 4
    have EZ:w3.cell? ⟨w.heap.size + 1,0,none⟩=some (Value.bool false):=(af BG.out.hc 0).trans rfl
    have E0:w3.cell? ⟨w.heap.size + 1,1,none⟩=some (Value.slice none 0 0):=(af BG.out.hc 1).trans rfl
    have E1:w3.cell? ⟨w.heap.size + 1,2,none⟩=some (Value.string ⟨#[]⟩):=(af BG.out.hc 2).trans rfl
    have E2:w3.cell? ⟨w.heap.size + 1,3,none⟩=some (Value.string ⟨#[]⟩):=(af BG.out.hc 3).trans rfl
    have E3:w3.cell? ⟨w.heap.size + 1,4,none⟩=some (Value.bool false):=(af BG.out.hc 4).trans rfl
    have hng:g≠w.heap.size + 1:=ay.rq BG.out.st BG.out.hc bL
    have asO:=hng.symm
    go_wp2
    have H0:=BG.out.set (p + 10)
    have H9:=rE (.bool false) (.slice none 0 0) (.string lC) (.string ⟨#[]⟩) (.bool false) H0.st H0.bl H0.kp H0.sz (Nat.le_succ _) H0.hc rfl
    refine bodyPost_ret (dm rfl _ _ (w.heap.size + 1) 32 #[.bool false,.slice none 0 0,.string lC,.string ⟨#[]⟩,.bool false] (0,0) _ rfl H9.1 Tryz.underlying32 rfl av) rfl ?_
    exact ⟨_,rfl,Kd.fF _ _ _ _ _,H9.2.1,H9.2.2.1,H9.2.2.2.1⟩
end Go.Proofs.YtokpnfljjjjikaaGreatDoor.n9
