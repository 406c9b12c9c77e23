import Derived.Test.YtokpnfljjjjikaaGreatDoorZo
import Derived.Test.YtokpnfljjjjikaaGreatDoorQCbx3
import Derived.Test.YtokpnfljjjjikaaGreatDoorQCbx4
import Derived.Test.YtokpnfljjjjikaaGreatDoorQCbx6
import Derived.Test.YtokpnfljjjjikaaGreatDoorQCbx8
import Derived.Deep.RegionHeld3
import Derived.Lib.Hide
namespace Go.Proofs.YtokpnfljjjjikaaGreatDoor.nX
open Go.RowKit Go.Proofs.aj.bW Go.Proofs.aj.fW Go.Proofs.aj.dz
set_option linter.unusedSimpArgs false
def ia.f (k:Nat) (s:ByteArray) (p:Int) (rs:List ByteArray):Option (Bool×ByteArray×Int×List ByteArray):=
 (br.f s p 64).bind fun t=>(ck.f k t.2.1 t.2.2).bind fun d=>if rs.length < 8000000000000 then some (t.1 && d.2.1,d.2.2.1,d.2.2.2,rs ++ [d.1]) else none
def dJ.l0:Nat→ByteArray→Int→List ByteArray→Option (Bool×ByteArray×Int×List ByteArray)
 | 0,_,_,_ =>none
 |k + 1,s,p,rs=>(ia.f k s p rs).bind fun t=>if t.1=true then (br.f t.2.1 t.2.2.1 44).bind fun c=>if c.1=true then dJ.l0 k c.2.1 c.2.2 t.2.2.2 else some (true,c.2.1,c.2.2,t.2.2.2) else some (false,t.2.1,t.2.2.1,t.2.2.2)
structure Held (w0 we W:World) (g a b:Nat) (s:ByteArray) (p:Int) (v:Value) (rs:List ByteArray):Prop where
 st:av w0 W g s p
 bl:Below w0.heap.size w0 W
 kp:bA we W g none
 ha:W.heap[a]? =some (.cells #[.pointer (some ⟨g,0,none⟩)] 80 (0,0))
 hb:W.heap[b]? =some (.cells #[.bool false,v,.string ⟨#[]⟩,.string ⟨#[]⟩,.bool false] 32 (0,0))
 hr:Kd.R Kd.string 9 W we.heap.size (fun _ =>True) v rs
 sz:w0.heap.size≤we.heap.size
 hc:W.heap[we.heap.size + 1]? =some (.cells #[.bool false,.slice none 0 0,.string ⟨#[]⟩,.string ⟨#[]⟩,.bool false] 32 (0,0))
 ga:we.heap.size≤a
 gb:we.heap.size + 1 < b
section
variable {w0 we W W1:World} {g a b:Nat} {s s1:ByteArray} {p p1:Int} {v:Value} {rs:List ByteArray}
theorem Held.call (H:Held w0 we W g a b s p v rs) (hi:av w0 W1 g s1 p1) (hb:Below w0.heap.size w0 W1) (hk:bA W W1 g none):Held w0 we W1 g a b s1 p1 v rs where
 st:=hi
 bl:=hb
 kp:=H.kp.trans hk (.inl rfl)
 ha:=bA.blk hk H.ha (av.qi H.st H.ha bR).symm bn
 hb:=bA.blk hk H.hb (av.qi H.st H.hb bR).symm bn
 hr:=Kd.gi (Kd.sw (av.apart H.st H.hr bR) hk (fun _ h=>h.2)) (fun _ h=>h.1)
 sz:=H.sz
 hc:=bA.blk hk H.hc (av.qi H.st H.hc bR).symm bn
 ga:=H.ga
 gb:=H.gb
theorem Held.ca (H:Held w0 we W g a b s p v rs):W.cell? ⟨a,0,none⟩=some (.pointer (some ⟨g,0,none⟩)):=(af H.ha 0).trans rfl
theorem Held.cb (H:Held w0 we W g a b s p v rs):W.cell? ⟨b,1,none⟩=some v:=(af H.hb 1).trans rfl
theorem Held.fb (H:Held w0 we W g a b s p v rs) (j:Nat):W.frozen? ⟨b,j,none⟩=false:=aa H.hb j
theorem Held.alloc (H:Held w0 we W g a b s p v rs) (o:Obj):Held w0 we (W.alloc o) g a b s p v rs:=
 H.call (H.st.alloc o) (az H.bl o) (oG (bA.refl _ _ _) o)
theorem Held.app (H:Held w0 we W g a b s p v rs) {v1:Value} {W2:World} {n:ByteArray} (ho:Kd.R Kd.string 9 W2 we.heap.size (fun _ =>True) v1 (rs ++ [n])) (hb:Below we.heap.size W W2) (hg:W.grownBy W2 v.ownBlock):Held w0 we (W2.setCell ⟨b,1,none⟩ v1) g a b s p v1 (rs ++ [n]):=by
 have hB:W2.heap[b]? =some (.cells #[.bool false,v,.string ⟨#[]⟩,.string ⟨#[]⟩,.bool false] 32 (0,0)):=rR H.hb hg (Kd.SL H.hr H.hb bR)
 have hA:W2.heap[a]? =some (.cells #[.pointer (some ⟨g,0,none⟩)] 80 (0,0)):=rR H.ha hg (Kd.SL H.hr H.ha bR)
 have hS:av w0 W2 g s p:=av.grown H.st hg (av.own_ne H.st H.hr bR)
 have hab:a≠b:=by
  rintro rfl
  rw [hA] at hB
  simp at hB
 have hgb:g≠b:=av.qi hS hB bR
 have hC:W2.heap[we.heap.size + 1]? =some (.cells #[.bool false,.slice none 0 0,.string ⟨#[]⟩,.string ⟨#[]⟩,.bool false] 32 (0,0)):=rR H.hc hg (Kd.SL H.hr H.hc bR)
 have hG:=H.gb
 refine ⟨av.far hS hgb _,?_,?_,?_,?_,?_,H.sz,gB hC (by show _≠b;omega) _,H.ga,H.gb⟩
 ·exact (bq H.bl H.sz hb).setCell (Nat.le_trans H.sz (by show _≤b;omega)) _
 ·exact n7 (bA.trans H.kp (bA.pL hg g) (Kd.uF H.hr)) (by show _≤b;omega) _
 ·exact gB hA hab _
 ·have:=DB hB 1 v1
  simpa using this
 ·refine Kd.gi (Kd.cH (Kd.gi (Kd.uE ho) (ok':=fun k=>k≠b) ?_) (fun k hk=>hk) v1) (fun _ _ =>trivial)
  rintro k ⟨_,_,_,q,hq,cells,hc⟩ rfl
  rw [hB] at hc
  injection hc with hc
  injection hc with _ hc
  have h1:q=9∨q∈Kd.string.E:=by simpa using hq
  rcases h1 with h1|h1
  ·exact absurd (hc.trans h1) bR
  ·cases h1
end
set_option maxRecDepth 100000 in
set_option maxHeartbeats 8000000 in
theorem ia.calls (k g a b:Nat) (s:ByteArray) (p:Int) (v:Value) (rs:List ByteArray) (r1:Bool) (s1:ByteArray) (p1:Int) (rs1:List ByteArray) (w0 we w:World) (H:Held w0 we w g a b s p v rs) (h:ia.f k s p rs=some (r1,s1,p1,rs1)):
 Calls Tryz.prog 116 #[.pointer (some ⟨a,0,none⟩),.pointer (some ⟨b,0,none⟩)] w fun e w'=>e= .returned (.bool r1)∧∃ v1,Held w0 we w' g a b s1 p1 v1 rs1:=by
 unfold ia.f at h
 obtain ⟨⟨t1,t2,t3⟩,A1,h⟩:=Option.bind_eq_some_iff.mp h
 obtain ⟨⟨d1,d2,d3,d4⟩,A2,h⟩:=Option.bind_eq_some_iff.mp h
 dsimp only at A1 A2 h
 have ht:t1=true∨t1=false:=by cases t1<;>simp
 by_cases hl:rs.length < 8000000000000
 case neg=>rw [if_neg hl] at h;cases h
 rw [if_pos hl] at h
 simp only [Option.some.injEq,Prod.mk.injEq] at h
 obtain ⟨rfl,rfl,rfl,rfl⟩:=h
 have HL:=ah.mk hl
 have qd:=ah.mk A1
 have qG:=ah.mk A2
 have HH:=ah.mk H
 have hca:=H.ca
 clear hl A1 A2 H
 go_enter Tryz.func116,Tryz.ntmps116
 go_wp2_with (first
  |(go_at_call 56;refine (br.calls g s p 64 t1 t2 t3 w0 w HH.out.st HH.out.bl qd.out).mono ?_;rintro e w1 ⟨rfl,hi,hb,hk⟩;have Rp:=ah.mk (HH.out.call hi hb hk);clear hi hb hk;have aqZ:=Rp.out.ca)
  |(go_at_call 80;refine (ck.calls k g t2 t3 d1 d2 d3 d4 w0 w1 Rp.out.st Rp.out.bl qG.out).mono ?_;rintro e w2 ⟨rfl,hi,hb,hk⟩;have Rq:=ah.mk (Rp.out.call hi hb hk);clear hi hb hk;have anl:=Rq.out.cb)
  |((with_reducible refine lF (b:= .append) (xs:=#[.tmp 14,.tmp 16]) rfl ?_);at_builtin;refine Kd.qI Kd.string we.heap.size rfl (.tmp 14) (.tmp 16) 28 9 (.string ⟨#[]⟩) 16 rfl Tryz.underlying28 ad1 rfl bR aq v rs d1 [.string d1] (fun _ =>True) (fun _ =>False) rfl sP ?aP (fun _ hk=>hk.elim) ?aF ?aO (Below.refl _ _) ?aS ?aL ?_;(case aP=>exact rfl);(case aF=>exact (fun _ _ =>trivial));(case aO=>exact Rq.out.hr);(case aS=>exact oU Rq.out.kp);(case aL=>have:=HL.out;omega);intro v3 w3 ho hb hg hat;obtain ⟨A3,c3,rfl⟩:=Kd.eG ho;have HH3:=ah.mk (Rq.out.app ho hb hg);have aq1:=(aa (rR Rq.out.hb hg (Kd.SL Rq.out.hr Rq.out.hb bR)) 1);have anm:=(af (rR Rq.out.hb hg (Kd.SL Rq.out.hr Rq.out.hb bR)) 1).trans rfl;clear ho hb hg hat))
 all_goals
  go_ret
  exact ⟨by first|rfl|(simp [*];done)|(rename_i ht;simp [ht];done)|(rename_i _ ht;simp [ht];done),_,by have h1:=HH3.out;rw [List.length_append] at h1;exact h1⟩
set_option maxRecDepth 100000 in
set_option maxHeartbeats 8000000 in
theorem dJ.calls (k g a b:Nat) (s:ByteArray) (p:Int) (v:Value) (rs:List ByteArray) (r1:Bool) (s1:ByteArray) (p1:Int) (rs1:List ByteArray) (w0 we w:World) (H:Held w0 we w g a b s p v rs) (h:dJ.l0 k s p rs=some (r1,s1,p1,rs1)):
 Calls Tryz.prog 67 #[.pointer (some ⟨g,0,none⟩),.int .u8 44,.func (.func 116) #[] #[.pointer (some ⟨a,0,none⟩),.pointer (some ⟨b,0,none⟩)]] w fun e w'=>e= .returned (.bool r1)∧∃ v1,Held w0 we w' g a b s1 p1 v1 rs1:=by
 have HH:=ah.mk H
 have HS:=ah.mk h
 clear H h
 go_enter Tryz.func67,Tryz.ntmps67
 go_wp2
 go_loopg [] k (fun kq w'=>∃ (s2:ByteArray) (p2:Int) (v2:Value) (rs2:List ByteArray),ah (dJ.l0 kq s2 p2 rs2=some (r1,s1,p1,rs1))∧ah (Held w0 we w' g a b s2 p2 v2 rs2))
 case atStart=>exact ⟨s,p,v,rs,HS,HH⟩
 case round=>
  clear HS HH
  obtain ⟨s2,p2,v2,rs2,HA,HH⟩:=hrel
  cases gk with
  |zero=>exact absurd HA.out (by simp [dJ.l0])
  |succ k1=>
   have h:=HA.out
   clear HA
   simp only [dJ.l0] at h
   obtain ⟨⟨t1,t2,t3,t4⟩,A1,h⟩:=Option.bind_eq_some_iff.mp h
   dsimp only at h
   have qd:=ah.mk A1
   clear A1
   cases t1 with
   |true=>
    rw [if_pos rfl] at h
    obtain ⟨⟨c1,c2,c3⟩,A2,h⟩:=Option.bind_eq_some_iff.mp h
    dsimp only at A2 h
    have qG:=ah.mk A2
    have HH':=ah.mk h
    clear A2 h
    cases c1 with
    |true=>
     have HN:=ah.mk (show dJ.l0 k1 c2 c3 t4=some (r1,s1,p1,rs1) from (if_pos rfl).symm.trans HH'.out)
     clear HH'
     go_wp2_with (first
      |(go_at_call 116;refine (ia.calls k1 g a b s2 p2 v2 rs2 true t2 t3 t4 w0 we _ HH.out qd.out).mono ?_;rintro e w2 ⟨rfl,v3,h3⟩;have Rp:=ah.mk h3;clear h3)
      |(go_at_call 56;refine (br.calls g t2 t3 44 true c2 c3 w0 _ Rp.out.st Rp.out.bl qG.out).mono ?_;rintro e w3 ⟨rfl,hi,hb,hk⟩;have Rq:=ah.mk (Rp.out.call hi hb hk);clear hi hb hk))
     go_roundg k1
     case measure=>omega
     case rel=>exact ⟨c2,c3,_,t4,HN,Rq⟩
    |false=>
     have hN:=(if_neg bR).symm.trans HH'.out
     simp only [Option.some.injEq,Prod.mk.injEq] at hN
     obtain ⟨rfl,rfl,rfl,rfl⟩:=hN
     clear HH'
     go_wp2_with (first
      |(go_at_call 116;refine (ia.calls k1 g a b s2 p2 v2 rs2 true t2 t3 t4 w0 we _ HH.out qd.out).mono ?_;rintro e w2 ⟨rfl,v3,h3⟩;have Rp:=ah.mk h3;clear h3)
      |(go_at_call 56;refine (br.calls g t2 t3 44 false c2 c3 w0 _ Rp.out.st Rp.out.bl qG.out).mono ?_;rintro e w3 ⟨rfl,hi,hb,hk⟩;have Rq:=ah.mk (Rp.out.call hi hb hk);clear hi hb hk))
     go_ret
     exact ⟨rfl,_,Rq.out⟩
   |false=>
    rw [if_neg bR] at h
    simp only [Option.some.injEq,Prod.mk.injEq] at h
    obtain ⟨rfl,rfl,rfl,rfl⟩:=h
    go_wp2_with (first
     |(go_at_call 116;refine (ia.calls k1 g a b s2 p2 v2 rs2 false t2 t3 t4 w0 we _ HH.out qd.out).mono ?_;rintro e w2 ⟨rfl,v3,h3⟩;have Rp:=ah.mk h3;clear h3))
    go_ret
    exact ⟨rfl,_,Rp.out⟩
def dw.f3 (k:Nat) (s:ByteArray) (p:Int) (rs:List ByteArray):Option (Bool×List ByteArray×ByteArray×ByteArray×Bool×Bool×ByteArray×Int):=
 (cA.f k s p).bind fun m=>some (false,rs,m.1,m.2.1,m.2.2.1,m.2.2.2.1,m.2.2.2.2.1,m.2.2.2.2.2)
def dw.f2 (k:Nat) (s:ByteArray) (p:Int):Option (Bool×List ByteArray×ByteArray×ByteArray×Bool×Bool×ByteArray×Int):=
 (dn.f s p).bind fun c=>if c.1=64 then (dJ.l0 k c.2.1 c.2.2 []).bind fun l=>if l.1=true then (br.f l.2.1 l.2.2.1 58).bind fun t=>if t.1=true then dw.f3 k t.2.1 t.2.2 l.2.2.2 else some (false,[],⟨#[]⟩,⟨#[]⟩,false,false,t.2.1,t.2.2) else some (false,[],⟨#[]⟩,⟨#[]⟩,false,false,l.2.1,l.2.2.1) else dw.f3 k c.2.1 c.2.2 []
def lA:ByteArray:=⟨#[112,111,115,116,109,97,115,116,101,114]⟩
def pU (s:ByteArray) (p:Int):Bool:=decide (p + 10 < (s.size:Int)) && (cC.g (s.extract p.toNat (p + 10).toNat)).toList == ([112,111,115,116,109,97,115,116,101,114]:List UInt8) && (bt s (p + 10)) == 62
def dw.f (k:Nat) (s:ByteArray) (p:Int):Option (Bool×List ByteArray×ByteArray×ByteArray×Bool×Bool×ByteArray×Int):=
 if 0≤p∧p≤(s.size:Int)∧(s.size:Int) < 4611686018427387904 then
  (if pU s p=true then some (false,[],lA,⟨#[]⟩,false,true,s,p + 10) else dw.f2 k s p)
 else none
structure o9 (w0 w W:World) (g:Nat) (s:ByteArray) (p:Int):Prop where
 st:av w0 W g s p
 bl:Below w0.heap.size w0 W
 sz:w0.heap.size≤w.heap.size
 kp:bA w W g none
 ha:W.heap[w.heap.size]? =some (.cells #[.pointer (some ⟨g,0,none⟩)] 80 (0,0))
 hc:W.heap[w.heap.size + 1]? =some (.cells #[.bool false,.slice none 0 0,.string ⟨#[]⟩,.string ⟨#[]⟩,.bool false] 32 (0,0))
section
variable {w0 w W W1:World} {g a b:Nat} {s:ByteArray} {p:Int} {v:Value} {rs:List ByteArray}
theorem o9.begin (hI:av w0 w g s p) (hB:Below w0.heap.size w0 w):o9 w0 w ((w.alloc (.cells #[.pointer (some ⟨g,0,none⟩)] 80)).alloc (.cells #[.bool false,.slice none 0 0,.string ⟨#[]⟩,.string ⟨#[]⟩,.bool false] 32)) g s p where
 st:=(hI.alloc _).alloc _
 bl:=az (az hB _) _
 sz:=hB.size
 kp:=oG (oG (bA.refl _ _ _) _) _
 ha:=by
  refine aU ?_ _
  simpa using heap_alloc_new w _
 hc:=by
  have:=heap_alloc_new (w.alloc (.cells #[.pointer (some ⟨g,0,none⟩)] 80)) (.cells #[.bool false,.slice none 0 0,.string ⟨#[]⟩,.string ⟨#[]⟩,.bool false] 32)
  simpa using this
theorem o9.below (H:o9 w0 w W g s p) (hb:Below W.heap.size W W1):o9 w0 w W1 g s p where
 st:=H.st.below hb
 bl:=bq H.bl H.bl.size hb
 sz:=H.sz
 kp:=H.kp.trans (bA.of_below hb g none) (.inl rfl)
 ha:=(hb.block _ (jV H.ha)).trans H.ha
 hc:=(hb.block _ (jV H.hc)).trans H.hc
theorem o9.set (H:o9 w0 w W g s p) (q:Int):o9 w0 w (W.setCell ⟨g,1,none⟩ (.int .i64 q)) g s q where
 st:=H.st.fM q
 bl:=bp H.bl H.st.ge
 sz:=H.sz
 kp:=H.kp.EH _ _
 ha:=gB H.ha (av.qi H.st H.ha bR).symm _
 hc:=gB H.hc (av.qi H.st H.hc bR).symm _
theorem o9.held (H:o9 w0 w W g s p):Held w0 w (W.alloc (.cells #[.bool false,.slice none 0 0,.string ⟨#[]⟩,.string ⟨#[]⟩,.bool false] 32)) g w.heap.size W.heap.size s p (.slice none 0 0) [] where
 st:=H.st.alloc _
 bl:=az H.bl _
 kp:=oG H.kp _
 ha:=aU H.ha _
 hb:=by simpa using heap_alloc_new W _
 hr:=Kd.fB _ _ _ _ _
 sz:=H.sz
 hc:=aU H.hc _
 ga:=Nat.le_refl _
 gb:=jV H.hc
theorem qx {c:Nat} {y0 y1 y2 y3 y4:Value} (x0 x1 x2 x3 x4:Value) (hst:av w0 W g s p) (hbl:Below w0.heap.size w0 W) (hkp:bA w W g none) (hsz:w0.heap.size≤w.heap.size) (hgc:w.heap.size≤c)
 (hc:W.heap[c]? =some (.cells #[y0,y1,y2,y3,y4] 32 (0,0))) (hW:W1=((((W.setCell ⟨c,0,none⟩ x0).setCell ⟨c,1,none⟩ x1).setCell ⟨c,2,none⟩ x2).setCell ⟨c,3,none⟩ x3).setCell ⟨c,4,none⟩ x4):
 W1.heap[c]? =some (.cells #[x0,x1,x2,x3,x4] 32 (0,0))∧av w0 W1 g s p∧Below w0.heap.size w0 W1∧bA w W1 g none∧∀ (v:Value) (xs:List ByteArray),Kd.R Kd.string 9 W w.heap.size (fun _ =>True) v xs→Kd.R Kd.string 9 W1 w.heap.size (fun _ =>True) v xs:=by
 subst hW
 have Vl:g≠c:=av.qi hst hc bR
 refine ⟨?_,?_,?_,?_,?_⟩
 ·refine cv (cs:=#[x0,x1,x2,x3,y4]) ?_ 4 _ rfl
  refine cv (cs:=#[x0,x1,x2,y3,y4]) ?_ 3 _ rfl
  refine cv (cs:=#[x0,x1,y2,y3,y4]) ?_ 2 _ rfl
  refine cv (cs:=#[x0,y1,y2,y3,y4]) ?_ 1 _ rfl
  exact cv hc 0 _ rfl
 ·exact ((((hst.far Vl _).far Vl _).far Vl _).far Vl _).far Vl _
 ·have h0:=Nat.le_trans hsz hgc
  exact bp (bp (bp (bp (bp hbl h0) h0) h0) h0) h0
 ·exact n7 (n7 (n7 (n7 (n7 hkp hgc _) hgc _) hgc _) hgc _) hgc _
 ·intro v xs ho
  have hne:∀ (W2:World),W2.heap[c]? =some (.cells #[y0,y1,y2,y3,y4] 32 (0,0))→Kd.R Kd.string 9 W2 w.heap.size (fun _ =>True) v xs→Kd.R Kd.string 9 W2 w.heap.size (fun k=>k≠c) v xs:=by
   intro W2 hB h1
   refine Kd.gi (Kd.uE h1) ?_
   rintro k ⟨_,_,_,q,hq,cells,hcc⟩ rfl
   rw [hB] at hcc
   injection hcc with hcc
   injection hcc with _ hcc
   have h1:q=9∨q∈Kd.string.E:=by simpa using hq
   rcases h1 with h1|h1
   ·exact absurd (hcc.trans h1) bR
   ·cases h1
  have h1:=hne W hc ho
  exact Kd.gi (Kd.cH (Kd.cH (Kd.cH (Kd.cH (Kd.cH h1 (fun _ h=>h) x0) (fun _ h=>h) x1) (fun _ h=>h) x2) (fun _ h=>h) x3) (fun _ h=>h) x4) (fun _ _ =>trivial)
theorem Held.box (H:Held w0 w W g a b s p v rs) (x2 x3 x4:Value) (hW:W1=((W.setCell ⟨b,2,none⟩ x2).setCell ⟨b,3,none⟩ x3).setCell ⟨b,4,none⟩ x4):
 W1.heap[b]? =some (.cells #[.bool false,v,x2,x3,x4] 32 (0,0))∧av w0 W1 g s p∧Below w0.heap.size w0 W1∧bA w W1 g none∧Kd.R Kd.string 9 W1 w.heap.size (fun _ =>True) v rs∧W1.heap[w.heap.size + 1]? =some (.cells #[.bool false,.slice none 0 0,.string ⟨#[]⟩,.string ⟨#[]⟩,.bool false] 32 (0,0)):=by
 subst hW
 have hG:=H.gb
 have hgb:g≠b:=av.qi H.st H.hb bR
 have hcb:w.heap.size + 1≠b:=by omega
 have hwb:w.heap.size≤b:=by omega
 refine ⟨?_,((H.st.far hgb _).far hgb _).far hgb _,?_,n7 (n7 (n7 H.kp hwb _) hwb _) hwb _,?_,gB (gB (gB H.hc hcb _) hcb _) hcb _⟩
 ·refine cv (cs:=#[.bool false,v,x2,x3,.bool false]) ?_ 4 _ rfl
  refine cv (cs:=#[.bool false,v,x2,.string ⟨#[]⟩,.bool false]) ?_ 3 _ rfl
  exact cv H.hb 2 _ rfl
 ·have h0:=Nat.le_trans H.sz hwb
  exact bp (bp (bp H.bl h0) h0) h0
 ·have h1:Kd.R Kd.string 9 W w.heap.size (fun k=>k≠b) v rs:=by
   refine Kd.gi (Kd.uE H.hr) ?_
   rintro k ⟨_,_,_,q,hq,cells,hcc⟩ rfl
   rw [H.hb] at hcc
   injection hcc with hcc
   injection hcc with _ hcc
   have h1:q=9∨q∈Kd.string.E:=by simpa using hq
   rcases h1 with h1|h1
   ·exact absurd (hcc.trans h1) bR
   ·cases h1
  exact Kd.gi (Kd.cH (Kd.cH (Kd.cH h1 (fun _ h=>h) x2) (fun _ h=>h) x3) (fun _ h=>h) x4) (fun _ _ =>trivial)
end
theorem ia.mono:∀ s p rs k,cR (ia.f k s p rs) (ia.f (k + 1) s p rs):=by
 intro s p rs k
 unfold ia.f
 exact cR.bind (cR.refl _) fun _ =>cR.bind (ck.mono _ _ _) fun _ =>cR.refl _
theorem dJ.mono:∀ k s p rs,cR (dJ.l0 k s p rs) (dJ.l0 (k + 1) s p rs)
 | 0,_,_,_ =>fun r h=>by simp [dJ.l0] at h
 |k + 1,s,p,rs=>by
  have ih:=dJ.mono k
  unfold dJ.l0
  exact cR.bind (ia.mono _ _ _ _) fun _ =>cR.ite (cR.bind (cR.refl _) fun _ =>cR.ite (ih _ _ _) (cR.refl _)) (cR.refl _)
theorem dw.aaP:∀ k s p rs,cR (dw.f3 k s p rs) (dw.f3 (k + 1) s p rs):=by
 intro k s p rs
 unfold dw.f3
 exact cR.bind (cA.mono _ _ _) fun _ =>cR.refl _
theorem dw.aeJ:∀ k s p,cR (dw.f2 k s p) (dw.f2 (k + 1) s p):=by
 intro k s p
 unfold dw.f2
 exact cR.bind (cR.refl _) fun _ =>cR.ite (cR.bind (dJ.mono _ _ _ _) fun _ =>cR.ite (cR.bind (cR.refl _) fun _ =>cR.ite (dw.aaP _ _ _ _) (cR.refl _)) (cR.refl _)) (dw.aaP _ _ _ _)
theorem dw.mono:∀ s p k,cR (dw.f k s p) (dw.f (k + 1) s p):=by
 intro s p k
 unfold dw.f
 exact cR.ite (cR.ite (cR.refl _) (dw.aeJ _ _ _)) (cR.refl _)
set_option maxRecDepth 100000 in
set_option maxHeartbeats 8000000 in
theorem dw.calls (k g:Nat) (s:ByteArray) (p:Int) (r1:Bool) (r2:List ByteArray) (r3 r4:ByteArray) (r5 r6:Bool) (r7:ByteArray) (r8:Int) (w0 w:World) (hI:av w0 w g s p) (hB:Below w0.heap.size w0 w) (hG:aT w0) (h:dw.f k s p=some (r1,r2,r3,r4,r5,r6,r7,r8)):
 Calls Tryz.prog 57 #[.pointer (some ⟨g,0,none⟩)] w fun e w'=>∃ Rs:Value,e= .returned (.tuple #[.agg #[.bool r1,Rs,.string r3,.string r4,.bool r5],.bool r6])∧Kd.R Kd.string 9 w' w.heap.size (fun _ =>True) Rs r2∧av w0 w' g r7 r8∧Below w0.heap.size w0 w'∧bA w w' g none:=by
 unfold dw.f at h
 by_cases hp: 0≤p∧p≤(s.size:Int)∧(s.size:Int) < 4611686018427387904
 case neg=>rw [if_neg hp] at h;cases h
 rw [if_pos hp] at h
 have HF:=ah.mk (o9.begin hI hB)
 have HG:=ah.mk hG
 have HH:=ah.mk h
 clear hI hB hG h
 obtain ⟨hp0,hp1,hp2⟩:=hp
 go_enter Tryz.func57,Tryz.ntmps57
 go_wp2
 generalize ((w.alloc (.cells #[.pointer (some ⟨g,0,none⟩)] 80)).alloc (.cells #[.bool false,.slice none 0 0,.string ⟨#[]⟩,.string ⟨#[]⟩,.bool false] 32))=w1 at HF ⊢
 have hw1:IntKind.i64.wrap ((s.size:Int) - p)=(s.size:Int) - p:=(dB _).trans (by unfold wrap64;omega)
 have hw2:IntKind.i64.wrap (p + 10)=p + 10:=(dB _).trans (by unfold wrap64;omega)
 have hca:w1.cell? ⟨w.heap.size,0,none⟩=some (.pointer (some ⟨g,0,none⟩)):=(af HF.out.ha 0).trans rfl
 obtain ⟨hgb,_⟩:=HF.out.st
 have hc0:w1.cell? ⟨g,0,none⟩=some (.string s):=(af hgb 0).trans rfl
 have hc1:w1.cell? ⟨g,1,none⟩=some (.int .i64 p):=(af hgb 1).trans rfl
 clear hgb
 by_cases hr:p + 10 < (s.size:Int)
 case neg=>
  have HA:=ah.mk (show pU s p=false by unfold pU;rw [decide_eq_false hr];rfl)
  have hd:decide (10 < (s.size:Int) - p)=false:=decide_eq_false aq
  go_quiet (fail)
  have hW:=aB (Below.refl w1.heap.size w1)
  have HFA:=ah.mk (fun n=>HF.out.below (hW n))
  clear hW
  generalize hWn:World.drewN w1 _=w3
  have zH:=ah.mk (show o9 w0 w w3 g s p from hWn ▸ HFA.out _)
  clear HFA hWn
  have H2:=ah.mk (show dw.f2 k s p=some (r1,r2,r3,r4,r5,r6,r7,r8) from (if_neg (by rw [HA.out];decide)).symm.trans HH.out)
  clear HA HH
  have HE:=ah.mk zH.out.held
  have aeK:=HE.out.ca
  have h:=H2.out
  clear H2
  unfold dw.f2 at h
  obtain ⟨⟨c1,c2,c3⟩,A1,h⟩:=Option.bind_eq_some_iff.mp h
  dsimp only at A1 h
  have qd:=ah.mk A1
  clear A1
  cases h64:(c1 == 64) with
  |false=>
   rw [if_neg xK] at h
   unfold dw.f3 at h
   obtain ⟨⟨m1,m2,m3,m4,m5,m6⟩,Ab,h⟩:=Option.bind_eq_some_iff.mp h
   dsimp only at Ab h
   simp only [Option.some.injEq,Prod.mk.injEq] at h
   obtain ⟨rfl,rfl,rfl,rfl,rfl,rfl,rfl,rfl⟩:=h
   have Vm:=ah.mk Ab
   clear Ab
   go_wp2_with (first
    |(go_at_call 115;refine (dn.calls g s p c1 c2 c3 w0 _ HE.out.st HE.out.bl qd.out).mono ?_;rintro e w4 ⟨rfl,hi,hb,hk⟩;have uf:=ah.mk (HE.out.call hi hb hk);have Fm:=uf.out.ca;clear hi hb hk)
    |(go_at_call 71;refine (cA.calls k g c2 c3 m1 m2 m3 m4 m5 m6 w0 _ uf.out.st uf.out.bl HG.out Vm.out).mono ?_;rintro e w9 ⟨rfl,hi,hb,hk⟩;have gW:=ah.mk (uf.out.call hi hb hk);have Vn:=gW.out.fb 0;have Vo:=gW.out.fb 1;have Vp:=gW.out.fb 2;have Vq:=gW.out.fb 3;have Vr:=gW.out.fb 4;have Vs:w9.cell? ⟨w3.heap.size,0,none⟩=some (Value.bool false):=(af gW.out.hb 0).trans rfl;have Vt:w9.cell? ⟨w3.heap.size,1,none⟩=some (Value.slice none 0 0):=(af gW.out.hb 1).trans rfl;have Vu:w9.cell? ⟨w3.heap.size,2,none⟩=some (Value.string ⟨#[]⟩):=(af gW.out.hb 2).trans rfl;have Vv:w9.cell? ⟨w3.heap.size,3,none⟩=some (Value.string ⟨#[]⟩):=(af gW.out.hb 3).trans rfl;have Vw:w9.cell? ⟨w3.heap.size,4,none⟩=some (Value.bool false):=(af gW.out.hb 4).trans rfl;have C9:=aa gW.out.hc 0;have Da:=aa gW.out.hc 1;have Db:=aa gW.out.hc 2;have Dc:=aa gW.out.hc 3;have Dd:=aa gW.out.hc 4;have De:w9.cell? ⟨w.heap.size + 1,0,none⟩=some (Value.bool false):=(af gW.out.hc 0).trans rfl;have Df:w9.cell? ⟨w.heap.size + 1,1,none⟩=some (Value.slice none 0 0):=(af gW.out.hc 1).trans rfl;have Dg:w9.cell? ⟨w.heap.size + 1,2,none⟩=some (Value.string ⟨#[]⟩):=(af gW.out.hc 2).trans rfl;have Dh:w9.cell? ⟨w.heap.size + 1,3,none⟩=some (Value.string ⟨#[]⟩):=(af gW.out.hc 3).trans rfl;have Di:w9.cell? ⟨w.heap.size + 1,4,none⟩=some (Value.bool false):=(af gW.out.hc 4).trans rfl;have hnb:w.heap.size + 1≠w3.heap.size:=Nat.ne_of_lt gW.out.gb;have Vx:w3.heap.size≠w.heap.size + 1:=(Nat.ne_of_lt gW.out.gb).symm;clear hi hb hk))
   have H8:=gW.out.box (.string m1) (.string m2) (.bool m3) rfl
   have H9:=qx (.bool false) (.slice none 0 0) (.string m1) (.string m2) (.bool m3) H8.2.1 H8.2.2.1 H8.2.2.2.1 gW.out.sz (Nat.le_succ _) H8.2.2.2.2.2 rfl
   refine bodyPost_ret (dA rfl _ _ (w.heap.size + 1) 32 #[.bool false,.slice none 0 0,.string m1,.string m2,.bool m3] (0,0) _ rfl H9.1 Tryz.underlying32 rfl au) rfl ?_
   exact ⟨_,rfl,H9.2.2.2.2 _ _ H8.2.2.2.2.1,H9.2.1,H9.2.2.1,H9.2.2.2.1⟩
  |true=>
   rw [if_pos xK] at h
   obtain ⟨⟨l1,l2,l3,l4⟩,A2,h⟩:=Option.bind_eq_some_iff.mp h
   dsimp only at A2 h
   have qG:=ah.mk A2
   clear A2
   cases l1 with
   |false=>
    rw [if_neg bR] at h
    simp only [Option.some.injEq,Prod.mk.injEq] at h
    obtain ⟨rfl,rfl,rfl,rfl,rfl,rfl,rfl,rfl⟩:=h
    go_wp2_with (first
     |(go_at_call 115;refine (dn.calls g s p c1 c2 c3 w0 _ HE.out.st HE.out.bl qd.out).mono ?_;rintro e w4 ⟨rfl,hi,hb,hk⟩;have uf:=ah.mk (HE.out.call hi hb hk);have Fm:=uf.out.ca;clear hi hb hk)
     |(go_at_call 67;refine (dJ.calls k g _ _ c2 c3 _ [] false l2 l3 l4 w0 w _ uf.out qG.out).mono ?_;rintro e w5 ⟨rfl,v5,h5⟩;have lY:=ah.mk h5;have Ml:=lY.out.ca;clear h5;have C9:=aa lY.out.hc 0;have Da:=aa lY.out.hc 1;have Db:=aa lY.out.hc 2;have Dc:=aa lY.out.hc 3;have Dd:=aa lY.out.hc 4;have De:w5.cell? ⟨w.heap.size + 1,0,none⟩=some (Value.bool false):=(af lY.out.hc 0).trans rfl;have Df:w5.cell? ⟨w.heap.size + 1,1,none⟩=some (Value.slice none 0 0):=(af lY.out.hc 1).trans rfl;have Dg:w5.cell? ⟨w.heap.size + 1,2,none⟩=some (Value.string ⟨#[]⟩):=(af lY.out.hc 2).trans rfl;have Dh:w5.cell? ⟨w.heap.size + 1,3,none⟩=some (Value.string ⟨#[]⟩):=(af lY.out.hc 3).trans rfl;have Di:w5.cell? ⟨w.heap.size + 1,4,none⟩=some (Value.bool false):=(af lY.out.hc 4).trans rfl))
    have H9:=qx (W:=w5) (.bool false) (.slice none 0 0) (.string ⟨#[]⟩) (.string ⟨#[]⟩) (.bool false) lY.out.st lY.out.bl lY.out.kp lY.out.sz (Nat.le_succ _) lY.out.hc rfl
    refine bodyPost_ret (dA rfl _ _ (w.heap.size + 1) 32 #[.bool false,.slice none 0 0,.string ⟨#[]⟩,.string ⟨#[]⟩,.bool false] (0,0) _ rfl H9.1 Tryz.underlying32 rfl au) rfl ?_
    exact ⟨_,rfl,Kd.fB _ _ _ _ _,H9.2.1,H9.2.2.1,H9.2.2.2.1⟩
   |true=>
    rw [if_pos rfl] at h
    obtain ⟨⟨u1,u2,u3⟩,A3,h⟩:=Option.bind_eq_some_iff.mp h
    dsimp only at A3 h
    have uv:=ah.mk A3
    clear A3
    cases u1 with
    |false=>
     rw [if_neg bR] at h
     simp only [Option.some.injEq,Prod.mk.injEq] at h
     obtain ⟨rfl,rfl,rfl,rfl,rfl,rfl,rfl,rfl⟩:=h
     go_wp2_with (first
      |(go_at_call 115;refine (dn.calls g s p c1 c2 c3 w0 _ HE.out.st HE.out.bl qd.out).mono ?_;rintro e w4 ⟨rfl,hi,hb,hk⟩;have uf:=ah.mk (HE.out.call hi hb hk);have Fm:=uf.out.ca;clear hi hb hk)
      |(go_at_call 67;refine (dJ.calls k g _ _ c2 c3 _ [] true l2 l3 l4 w0 w _ uf.out qG.out).mono ?_;rintro e w5 ⟨rfl,v5,h5⟩;have lY:=ah.mk h5;have Ml:=lY.out.ca;clear h5)
      |(go_at_call 56;refine (br.calls g l2 l3 58 false u2 u3 w0 _ lY.out.st lY.out.bl uv.out).mono ?_;rintro e w6 ⟨rfl,hi,hb,hk⟩;have ow:=ah.mk (lY.out.call hi hb hk);have Vy:=ow.out.ca;clear hi hb hk;have C9:=aa ow.out.hc 0;have Da:=aa ow.out.hc 1;have Db:=aa ow.out.hc 2;have Dc:=aa ow.out.hc 3;have Dd:=aa ow.out.hc 4;have De:w6.cell? ⟨w.heap.size + 1,0,none⟩=some (Value.bool false):=(af ow.out.hc 0).trans rfl;have Df:w6.cell? ⟨w.heap.size + 1,1,none⟩=some (Value.slice none 0 0):=(af ow.out.hc 1).trans rfl;have Dg:w6.cell? ⟨w.heap.size + 1,2,none⟩=some (Value.string ⟨#[]⟩):=(af ow.out.hc 2).trans rfl;have Dh:w6.cell? ⟨w.heap.size + 1,3,none⟩=some (Value.string ⟨#[]⟩):=(af ow.out.hc 3).trans rfl;have Di:w6.cell? ⟨w.heap.size + 1,4,none⟩=some (Value.bool false):=(af ow.out.hc 4).trans rfl))
     have H9:=qx (W:=w6) (.bool false) (.slice none 0 0) (.string ⟨#[]⟩) (.string ⟨#[]⟩) (.bool false) ow.out.st ow.out.bl ow.out.kp ow.out.sz (Nat.le_succ _) ow.out.hc rfl
     refine bodyPost_ret (dA rfl _ _ (w.heap.size + 1) 32 #[.bool false,.slice none 0 0,.string ⟨#[]⟩,.string ⟨#[]⟩,.bool false] (0,0) _ rfl H9.1 Tryz.underlying32 rfl au) rfl ?_
     exact ⟨_,rfl,Kd.fB _ _ _ _ _,H9.2.1,H9.2.2.1,H9.2.2.2.1⟩
    |true=>
     rw [if_pos rfl] at h
     unfold dw.f3 at h
     obtain ⟨⟨m1,m2,m3,m4,m5,m6⟩,Ab,h⟩:=Option.bind_eq_some_iff.mp h
     dsimp only at Ab h
     simp only [Option.some.injEq,Prod.mk.injEq] at h
     obtain ⟨rfl,rfl,rfl,rfl,rfl,rfl,rfl,rfl⟩:=h
     have Vm:=ah.mk Ab
     clear Ab
     go_wp2_with (first
      |(go_at_call 115;refine (dn.calls g s p c1 c2 c3 w0 _ HE.out.st HE.out.bl qd.out).mono ?_;rintro e w4 ⟨rfl,hi,hb,hk⟩;have uf:=ah.mk (HE.out.call hi hb hk);have Fm:=uf.out.ca;clear hi hb hk)
      |(go_at_call 67;refine (dJ.calls k g _ _ c2 c3 _ [] true l2 l3 l4 w0 w _ uf.out qG.out).mono ?_;rintro e w5 ⟨rfl,v5,h5⟩;have lY:=ah.mk h5;have Ml:=lY.out.ca;clear h5)
      |(go_at_call 56;refine (br.calls g l2 l3 58 true u2 u3 w0 _ lY.out.st lY.out.bl uv.out).mono ?_;rintro e w6 ⟨rfl,hi,hb,hk⟩;have ow:=ah.mk (lY.out.call hi hb hk);have Vy:=ow.out.ca;clear hi hb hk)
      |(go_at_call 71;refine (cA.calls k g u2 u3 m1 m2 m3 m4 m5 m6 w0 _ ow.out.st ow.out.bl HG.out Vm.out).mono ?_;rintro e w9 ⟨rfl,hi,hb,hk⟩;have gW:=ah.mk (ow.out.call hi hb hk);obtain ⟨A9,c9,e9⟩:=Kd.eG gW.out.hr;subst e9;have Vn:=gW.out.fb 0;have Vo:=gW.out.fb 1;have Vp:=gW.out.fb 2;have Vq:=gW.out.fb 3;have Vr:=gW.out.fb 4;have Vs:w9.cell? ⟨w3.heap.size,0,none⟩=some (Value.bool false):=(af gW.out.hb 0).trans rfl;have Vt:w9.cell? ⟨w3.heap.size,1,none⟩=some (Value.slice A9 l4.length c9):=(af gW.out.hb 1).trans rfl;have Vu:w9.cell? ⟨w3.heap.size,2,none⟩=some (Value.string ⟨#[]⟩):=(af gW.out.hb 2).trans rfl;have Vv:w9.cell? ⟨w3.heap.size,3,none⟩=some (Value.string ⟨#[]⟩):=(af gW.out.hb 3).trans rfl;have Vw:w9.cell? ⟨w3.heap.size,4,none⟩=some (Value.bool false):=(af gW.out.hb 4).trans rfl;have C9:=aa gW.out.hc 0;have Da:=aa gW.out.hc 1;have Db:=aa gW.out.hc 2;have Dc:=aa gW.out.hc 3;have Dd:=aa gW.out.hc 4;have De:w9.cell? ⟨w.heap.size + 1,0,none⟩=some (Value.bool false):=(af gW.out.hc 0).trans rfl;have Df:w9.cell? ⟨w.heap.size + 1,1,none⟩=some (Value.slice none 0 0):=(af gW.out.hc 1).trans rfl;have Dg:w9.cell? ⟨w.heap.size + 1,2,none⟩=some (Value.string ⟨#[]⟩):=(af gW.out.hc 2).trans rfl;have Dh:w9.cell? ⟨w.heap.size + 1,3,none⟩=some (Value.string ⟨#[]⟩):=(af gW.out.hc 3).trans rfl;have Di:w9.cell? ⟨w.heap.size + 1,4,none⟩=some (Value.bool false):=(af gW.out.hc 4).trans rfl;have hnb:w.heap.size + 1≠w3.heap.size:=Nat.ne_of_lt gW.out.gb;have Vx:w3.heap.size≠w.heap.size + 1:=(Nat.ne_of_lt gW.out.gb).symm;clear hi hb hk))
     have H8:=gW.out.box (.string m1) (.string m2) (.bool m3) rfl
     have H9:=qx (.bool false) (.slice A9 l4.length c9) (.string m1) (.string m2) (.bool m3) H8.2.1 H8.2.2.1 H8.2.2.2.1 gW.out.sz (Nat.le_succ _) H8.2.2.2.2.2 rfl
     refine bodyPost_ret (dA rfl _ _ (w.heap.size + 1) 32 #[.bool false,.slice A9 l4.length c9,.string m1,.string m2,.bool m3] (0,0) _ rfl H9.1 Tryz.underlying32 rfl au) rfl ?_
     exact ⟨_,rfl,H9.2.2.2.2 _ _ H8.2.2.2.2.1,H9.2.1,H9.2.2.1,H9.2.2.2.1⟩
 case pos=>
  have hd:decide (10 < (s.size:Int) - p)=true:=decide_eq_true aq
  have e1:(0≤p)=True:=eq_true hp0
  have e2:(p≤p + 10)=True:=eq_true aq
  have e3:(p + 10≤(s.size:Int))=True:=eq_true aq
  have e4:(0≤p + 10)=True:=eq_true aq
  have e5:(p + 10 < (s.size:Int))=True:=eq_true hr
  have hx:=gV s (p + 10)
  obtain ⟨X,hX⟩:∃ X,cC.g (s.extract p.toNat (p + 10).toNat)=X:=⟨_,rfl⟩
  have HX:=ah.mk hX
  have HC:=ah.mk (fun W=>cC.calls (s.extract p.toNat (p + 10).toNat) X W (by unfold cC.f;rw [if_pos,hX];simp;omega))
  clear hX
  cases hq:(X.toList == ([112,111,115,116,109,97,115,116,101,114]:List UInt8)) with
  |false=>
   have HA:=ah.mk (show pU s p=false by unfold pU;rw [HX.out,hq];simp)
   refine BK (n:=45) (S:=fun w'=>w'.cell? ⟨w.heap.size,0,none⟩=some (.pointer (some ⟨g,0,none⟩))∧w'.cell? ⟨g,0,none⟩=some (.string s)∧w'.cell? ⟨g,1,none⟩=some (.int .i64 p)∧ah (o9 w0 w w' g s p)) (ds:=[]) #[false,false,false,false,false,false,false,false,false,false,false,false,false,false,false,false,false,false,false,false,false,false,false,false,false,false,false,false,false,false,false,false,false,false,false,false,false,false,false,false,false,false,false,false,false] au (by rfl) (by rfl) ⟨hca,hc0,hc1,(ah.mk (HF.out.below (bu (Below.refl _ _))))⟩ (fun hHeld=>?_)
   refine eP (i:=10) (N:=some 18) (v:=?_) (a':=?_) #[false,false,false,false,false,false,false,false,false,false,true,false,false,false,false,false,false,false,false,false,false,false,false,false,false,false,false,false,false,false,false,false,false,false,false,false,false,false,false,false,false,false,false,false,false] rfl rfl au (fun _ _ _ h=>h) (Or.inl ⟨by rfl,?_⟩) ?_ ?_
   rotate_left
   ·intro w'
    go_simp
    with_reducible rfl
   rotate_left
   ·simp only [Act.put,List.setIfInBounds_toArray,List.set_cons_zero,List.set_cons_succ,dB,dD]
    rfl
   refine nB (i:=0) (N:=some 8) (v:=?_) (a':=?_) #[true,false,false,false,false,false,false,false,false,false,true,false,false,false,false,false,false,false,false,false,false,false,false,false,false,false,false,false,false,false,false,false,false,false,false,false,false,false,false,false,false,false,false,false,false] rfl rfl au (fun _ _ _ h=>h) (Or.inl ⟨by rfl,?_⟩) hHeld ?_ ?_
   rotate_left
   ·rintro w' ⟨s0,s1,s2,s3⟩
    go_simp
    with_reducible rfl
   rotate_left
   ·simp only [Act.put,List.setIfInBounds_toArray,List.set_cons_zero,List.set_cons_succ,dB,dD]
    rfl
   refine eP (i:=1) (N:=some 9) (v:=?_) (a':=?_) #[true,true,false,false,false,false,false,false,false,false,true,false,false,false,false,false,false,false,false,false,false,false,false,false,false,false,false,false,false,false,false,false,false,false,false,false,false,false,false,false,false,false,false,false,false] rfl rfl au (fun _ _ _ h=>h) (Or.inl ⟨by rfl,?_⟩) ?_ ?_
   rotate_left
   ·intro w'
    go_simp
    with_reducible rfl
   rotate_left
   ·simp only [Act.put,List.setIfInBounds_toArray,List.set_cons_zero,List.set_cons_succ,dB,dD]
    rfl
   refine eP (i:=2) (N:=some 10) (v:=?_) (a':=?_) #[true,true,true,false,false,false,false,false,false,false,true,false,false,false,false,false,false,false,false,false,false,false,false,false,false,false,false,false,false,false,false,false,false,false,false,false,false,false,false,false,false,false,false,false,false] rfl rfl au (fun _ _ _ h=>h) (Or.inl ⟨by rfl,?_⟩) ?_ ?_
   rotate_left
   ·intro w'
    go_simp
    with_reducible rfl
   rotate_left
   ·simp only [Act.put,List.setIfInBounds_toArray,List.set_cons_zero,List.set_cons_succ,dB,dD]
    rfl
   refine nB (i:=3) (N:=some 11) (v:=?_) (a':=?_) #[true,true,true,true,false,false,false,false,false,false,true,false,false,false,false,false,false,false,false,false,false,false,false,false,false,false,false,false,false,false,false,false,false,false,false,false,false,false,false,false,false,false,false,false,false] rfl rfl au (fun _ _ _ h=>h) (Or.inl ⟨by rfl,?_⟩) hHeld ?_ ?_
   rotate_left
   ·rintro w' ⟨s0,s1,s2,s3⟩
    go_simp
    with_reducible rfl
   rotate_left
   ·simp only [Act.put,List.setIfInBounds_toArray,List.set_cons_zero,List.set_cons_succ,dB,dD]
    rfl
   refine eP (i:=4) (N:=some 12) (v:=?_) (a':=?_) #[true,true,true,true,true,false,false,false,false,false,true,false,false,false,false,false,false,false,false,false,false,false,false,false,false,false,false,false,false,false,false,false,false,false,false,false,false,false,false,false,false,false,false,false,false] rfl rfl au (fun _ _ _ h=>h) (Or.inl ⟨by rfl,?_⟩) ?_ ?_
   rotate_left
   ·intro w'
    go_simp
    with_reducible rfl
   rotate_left
   ·simp only [Act.put,List.setIfInBounds_toArray,List.set_cons_zero,List.set_cons_succ,dB,dD]
    rfl
   refine nB (i:=5) (N:=some 13) (v:=?_) (a':=?_) #[true,true,true,true,true,true,false,false,false,false,true,false,false,false,false,false,false,false,false,false,false,false,false,false,false,false,false,false,false,false,false,false,false,false,false,false,false,false,false,false,false,false,false,false,false] rfl rfl au (fun _ _ _ h=>h) (Or.inl ⟨by rfl,?_⟩) hHeld ?_ ?_
   rotate_left
   ·rintro w' ⟨s0,s1,s2,s3⟩
    go_simp
    with_reducible rfl
   rotate_left
   ·simp only [Act.put,List.setIfInBounds_toArray,List.set_cons_zero,List.set_cons_succ,dB,dD]
    rfl
   refine eP (i:=6) (N:=some 14) (v:=?_) (a':=?_) #[true,true,true,true,true,true,true,false,false,false,true,false,false,false,false,false,false,false,false,false,false,false,false,false,false,false,false,false,false,false,false,false,false,false,false,false,false,false,false,false,false,false,false,false,false] rfl rfl au (fun _ _ _ h=>h) (Or.inl ⟨by rfl,?_⟩) ?_ ?_
   rotate_left
   ·intro w'
    go_simp
    with_reducible rfl
   rotate_left
   ·simp only [Act.put,List.setIfInBounds_toArray,List.set_cons_zero,List.set_cons_succ,dB,dD]
    rfl
   refine eP (i:=7) (N:=some 15) (v:=?_) (a':=?_) #[true,true,true,true,true,true,true,true,false,false,true,false,false,false,false,false,false,false,false,false,false,false,false,false,false,false,false,false,false,false,false,false,false,false,false,false,false,false,false,false,false,false,false,false,false] rfl rfl au (fun _ _ _ h=>h) (Or.inl ⟨by rfl,?_⟩) ?_ ?_
   rotate_left
   ·intro w'
    go_simp
    with_reducible rfl
   rotate_left
   ·simp only [Act.put,List.setIfInBounds_toArray,List.set_cons_zero,List.set_cons_succ,dB,dD]
    rfl
   refine nB (i:=8) (N:=some 16) (v:=?_) (a':=?_) #[true,true,true,true,true,true,true,true,true,false,true,false,false,false,false,false,false,false,false,false,false,false,false,false,false,false,false,false,false,false,false,false,false,false,false,false,false,false,false,false,false,false,false,false,false] rfl rfl au (fun _ _ _ h=>h) (Or.inl ⟨by rfl,?_⟩) hHeld ?_ ?_
   rotate_left
   ·rintro w' ⟨s0,s1,s2,s3⟩
    go_simp
    with_reducible rfl
   rotate_left
   ·simp only [Act.put,List.setIfInBounds_toArray,List.set_cons_zero,List.set_cons_succ,dB,dD]
    rfl
   refine eP (i:=9) (N:=some 17) (v:=?_) (a':=?_) #[true,true,true,true,true,true,true,true,true,true,true,false,false,false,false,false,false,false,false,false,false,false,false,false,false,false,false,false,false,false,false,false,false,false,false,false,false,false,false,false,false,false,false,false,false] rfl rfl au (fun _ _ _ h=>h) (Or.inl ⟨by rfl,?_⟩) ?_ ?_
   rotate_left
   ·intro w'
    go_simp
    with_reducible rfl
   rotate_left
   ·simp only [Act.put,List.setIfInBounds_toArray,List.set_cons_zero,List.set_cons_succ,dB,dD]
    rfl
   refine eP (i:=11) (N:=some 19) (v:=?_) (a':=?_) #[true,true,true,true,true,true,true,true,true,true,true,true,false,false,false,false,false,false,false,false,false,false,false,false,false,false,false,false,false,false,false,false,false,false,false,false,false,false,false,false,false,false,false,false,false] rfl rfl au (fun _ _ _ h=>h) (Or.inl ⟨by rfl,?_⟩) ?_ ?_
   rotate_left
   ·intro w'
    go_simp
    with_reducible rfl
   rotate_left
   ·simp only [Act.put,List.setIfInBounds_toArray,List.set_cons_zero,List.set_cons_succ,dB,dD]
    rfl
   refine eP (i:=12) (N:=some 20) (v:=?_) (a':=?_) #[true,true,true,true,true,true,true,true,true,true,true,true,true,false,false,false,false,false,false,false,false,false,false,false,false,false,false,false,false,false,false,false,false,false,false,false,false,false,false,false,false,false,false,false,false] rfl rfl au (fun _ _ _ h=>h) (Or.inl ⟨by rfl,?_⟩) ?_ ?_
   rotate_left
   ·intro w'
    go_simp
    with_reducible rfl
   rotate_left
   ·simp only [Act.put,List.setIfInBounds_toArray,List.set_cons_zero,List.set_cons_succ,dB,dD]
    rfl
   refine eP (i:=25) (N:=some 33) (v:=?_) (a':=?_) #[true,true,true,true,true,true,true,true,true,true,true,true,true,false,false,false,false,false,false,false,false,false,false,false,false,true,false,false,false,false,false,false,false,false,false,false,false,false,false,false,false,false,false,false,false] rfl rfl au (fun _ _ _ h=>h) (Or.inl ⟨by rfl,?_⟩) ?_ ?_
   rotate_left
   ·intro w'
    go_simp
    with_reducible rfl
   rotate_left
   ·simp only [Act.put,List.setIfInBounds_toArray,List.set_cons_zero,List.set_cons_succ,dB,dD]
    rfl
   refine nB (i:=13) (N:=some 21) (v:=?_) (a':=?_) #[true,true,true,true,true,true,true,true,true,true,true,true,true,true,false,false,false,false,false,false,false,false,false,false,false,true,false,false,false,false,false,false,false,false,false,false,false,false,false,false,false,false,false,false,false] rfl rfl au (fun _ _ _ h=>h) (Or.inl ⟨by rfl,?_⟩) hHeld ?_ ?_
   rotate_left
   ·rintro w' ⟨s0,s1,s2,s3⟩
    go_simp
    with_reducible rfl
   rotate_left
   ·simp only [Act.put,List.setIfInBounds_toArray,List.set_cons_zero,List.set_cons_succ,dB,dD]
    rfl
   refine eP (i:=14) (N:=some 22) (v:=?_) (a':=?_) #[true,true,true,true,true,true,true,true,true,true,true,true,true,true,true,false,false,false,false,false,false,false,false,false,false,true,false,false,false,false,false,false,false,false,false,false,false,false,false,false,false,false,false,false,false] rfl rfl au (fun _ _ _ h=>h) (Or.inl ⟨by rfl,?_⟩) ?_ ?_
   rotate_left
   ·intro w'
    go_simp
    with_reducible rfl
   rotate_left
   ·simp only [Act.put,List.setIfInBounds_toArray,List.set_cons_zero,List.set_cons_succ,dB,dD]
    rfl
   refine eP (i:=15) (N:=some 23) (v:=?_) (a':=?_) #[true,true,true,true,true,true,true,true,true,true,true,true,true,true,true,true,false,false,false,false,false,false,false,false,false,true,false,false,false,false,false,false,false,false,false,false,false,false,false,false,false,false,false,false,false] rfl rfl au (fun _ _ _ h=>h) (Or.inl ⟨by rfl,?_⟩) ?_ ?_
   rotate_left
   ·intro w'
    go_simp
    with_reducible rfl
   rotate_left
   ·simp only [Act.put,List.setIfInBounds_toArray,List.set_cons_zero,List.set_cons_succ,dB,dD]
    rfl
   refine nB (i:=16) (N:=some 24) (v:=?_) (a':=?_) #[true,true,true,true,true,true,true,true,true,true,true,true,true,true,true,true,true,false,false,false,false,false,false,false,false,true,false,false,false,false,false,false,false,false,false,false,false,false,false,false,false,false,false,false,false] rfl rfl au (fun _ _ _ h=>h) (Or.inl ⟨by rfl,?_⟩) hHeld ?_ ?_
   rotate_left
   ·rintro w' ⟨s0,s1,s2,s3⟩
    go_simp
    with_reducible rfl
   rotate_left
   ·simp only [Act.put,List.setIfInBounds_toArray,List.set_cons_zero,List.set_cons_succ,dB,dD]
    rfl
   refine nB (i:=17) (N:=some 25) (v:=?_) (a':=?_) #[true,true,true,true,true,true,true,true,true,true,true,true,true,true,true,true,true,true,false,false,false,false,false,false,false,true,false,false,false,false,false,false,false,false,false,false,false,false,false,false,false,false,false,false,false] rfl rfl au (fun _ _ _ h=>h) (Or.inl ⟨by rfl,?_⟩) hHeld ?_ ?_
   rotate_left
   ·rintro w' ⟨s0,s1,s2,s3⟩
    go_simp
    with_reducible rfl
   rotate_left
   ·simp only [Act.put,List.setIfInBounds_toArray,List.set_cons_zero,List.set_cons_succ,dB,dD]
    rfl
   refine eP (i:=18) (N:=some 26) (v:=?_) (a':=?_) #[true,true,true,true,true,true,true,true,true,true,true,true,true,true,true,true,true,true,true,false,false,false,false,false,false,true,false,false,false,false,false,false,false,false,false,false,false,false,false,false,false,false,false,false,false] rfl rfl au (fun _ _ _ h=>h) (Or.inl ⟨by rfl,?_⟩) ?_ ?_
   rotate_left
   ·intro w'
    go_simp
    with_reducible rfl
   rotate_left
   ·simp only [Act.put,List.setIfInBounds_toArray,List.set_cons_zero,List.set_cons_succ,dB,dD]
    rfl
   refine eP (i:=19) (N:=some 27) (v:=?_) (a':=?_) #[true,true,true,true,true,true,true,true,true,true,true,true,true,true,true,true,true,true,true,true,false,false,false,false,false,true,false,false,false,false,false,false,false,false,false,false,false,false,false,false,false,false,false,false,false] rfl rfl au (fun _ _ _ h=>h) (Or.inl ⟨by rfl,?_⟩) ?_ ?_
   rotate_left
   ·intro w'
    go_simp
    with_reducible rfl
   rotate_left
   ·simp only [Act.put,List.setIfInBounds_toArray,List.set_cons_zero,List.set_cons_succ,dB,dD]
    rfl
   refine nB (i:=20) (N:=some 28) (v:=?_) (a':=?_) #[true,true,true,true,true,true,true,true,true,true,true,true,true,true,true,true,true,true,true,true,true,false,false,false,false,true,false,false,false,false,false,false,false,false,false,false,false,false,false,false,false,false,false,false,false] rfl rfl au (fun _ _ _ h=>h) (Or.inl ⟨by rfl,?_⟩) hHeld ?_ ?_
   rotate_left
   ·rintro w' ⟨s0,s1,s2,s3⟩
    go_simp
    with_reducible rfl
   rotate_left
   ·simp only [Act.put,List.setIfInBounds_toArray,List.set_cons_zero,List.set_cons_succ,dB,dD]
    rfl
   refine nB (i:=21) (N:=some 29) (v:=?_) (a':=?_) #[true,true,true,true,true,true,true,true,true,true,true,true,true,true,true,true,true,true,true,true,true,true,false,false,false,true,false,false,false,false,false,false,false,false,false,false,false,false,false,false,false,false,false,false,false] rfl rfl au (fun _ _ _ h=>h) (Or.inl ⟨by rfl,?_⟩) hHeld ?_ ?_
   rotate_left
   ·rintro w' ⟨s0,s1,s2,s3⟩
    go_simp
    with_reducible rfl
   rotate_left
   ·simp only [Act.put,List.setIfInBounds_toArray,List.set_cons_zero,List.set_cons_succ,dB,dD]
    rfl
   refine eP (i:=22) (N:=some 30) (v:=?_) (a':=?_) #[true,true,true,true,true,true,true,true,true,true,true,true,true,true,true,true,true,true,true,true,true,true,true,false,false,true,false,false,false,false,false,false,false,false,false,false,false,false,false,false,false,false,false,false,false] rfl rfl au (fun _ _ _ h=>h) (Or.inl ⟨by rfl,?_⟩) ?_ ?_
   rotate_left
   ·intro w'
    go_simp
    with_reducible rfl
   rotate_left
   ·simp only [Act.put,List.setIfInBounds_toArray,List.set_cons_zero,List.set_cons_succ,dB,dD]
    rfl
   refine eP (i:=23) (N:=some 31) (v:=?_) (a':=?_) #[true,true,true,true,true,true,true,true,true,true,true,true,true,true,true,true,true,true,true,true,true,true,true,true,false,true,false,false,false,false,false,false,false,false,false,false,false,false,false,false,false,false,false,false,false] rfl rfl au (fun _ _ _ h=>h) (Or.inl ⟨by rfl,?_⟩) ?_ ?_
   rotate_left
   ·intro w'
    go_simp
    with_reducible rfl
   rotate_left
   ·simp only [Act.put,List.setIfInBounds_toArray,List.set_cons_zero,List.set_cons_succ,dB,dD]
    rfl
   refine nB (i:=24) (N:=some 32) (v:=?_) (a':=?_) #[true,true,true,true,true,true,true,true,true,true,true,true,true,true,true,true,true,true,true,true,true,true,true,true,true,true,false,false,false,false,false,false,false,false,false,false,false,false,false,false,false,false,false,false,false] rfl rfl au (fun _ _ _ h=>h) (Or.inl ⟨by rfl,?_⟩) hHeld ?_ ?_
   rotate_left
   ·rintro w' ⟨s0,s1,s2,s3⟩
    go_simp
    with_reducible rfl
   rotate_left
   ·simp only [Act.put,List.setIfInBounds_toArray,List.set_cons_zero,List.set_cons_succ,dB,dD]
    rfl
   refine eP (i:=26) (N:=some 34) (v:=?_) (a':=?_) #[true,true,true,true,true,true,true,true,true,true,true,true,true,true,true,true,true,true,true,true,true,true,true,true,true,true,true,false,false,false,false,false,false,false,false,false,false,false,false,false,false,false,false,false,false] rfl rfl au (fun _ _ _ h=>h) (Or.inl ⟨by rfl,?_⟩) ?_ ?_
   rotate_left
   ·intro w'
    go_simp
    with_reducible rfl
   rotate_left
   ·simp only [Act.put,List.setIfInBounds_toArray,List.set_cons_zero,List.set_cons_succ,dB,dD]
    rfl
   refine eP (i:=27) (N:=some 35) (v:=?_) (a':=?_) #[true,true,true,true,true,true,true,true,true,true,true,true,true,true,true,true,true,true,true,true,true,true,true,true,true,true,true,true,false,false,false,false,false,false,false,false,false,false,false,false,false,false,false,false,false] rfl rfl au (fun _ _ _ h=>h) (Or.inl ⟨by rfl,?_⟩) ?_ ?_
   rotate_left
   ·intro w'
    go_simp
    with_reducible rfl
   rotate_left
   ·simp only [Act.put,List.setIfInBounds_toArray,List.set_cons_zero,List.set_cons_succ,dB,dD]
    rfl
   refine IG (i:=28) (N:=some 36) #[true,true,true,true,true,true,true,true,true,true,true,true,true,true,true,true,true,true,true,true,true,true,true,true,true,true,true,true,true,false,false,false,false,false,false,false,false,false,false,false,false,false,false,false,false] rfl rfl au bR (fun K hK=>?_)
   refine Cm Tryz.func81 au rfl #[.string (s.extract p.toNat (p + 10).toNat)] (by rfl) rfl rfl (by simp only [List.map_toArray,List.map_cons,List.map_nil];rfl) ?_
   with_reducible refine (HC.out _).mono ?_
   rintro e w3 ⟨rfl,hb⟩
   refine ⟨_,rfl,?_⟩
   have zH:=ah.mk (o9.below hHeld.2.2.2.out hb)
   clear hb
   refine hK.out _ _ ⟨(af zH.out.ha 0).trans rfl,(af zH.out.st.1 0).trans rfl,(af zH.out.st.1 1).trans rfl,zH⟩ (fun hHeld=>?_)
   clear hK K
   refine Cl (a':=?_) ?_ ?_
   rotate_left
   ·show Act.put _ (some 36) _=_
    simp only [Act.put,List.setIfInBounds_toArray,List.set_cons_zero,List.set_cons_succ,dB,dD]
    rfl
   refine eP (i:=29) (N:=some 37) (v:=?_) (a':=?_) #[true,true,true,true,true,true,true,true,true,true,true,true,true,true,true,true,true,true,true,true,true,true,true,true,true,true,true,true,true,true,false,false,false,false,false,false,false,false,false,false,false,false,false,false,false] rfl rfl au (fun _ _ _ h=>h) (Or.inl ⟨by rfl,?_⟩) ?_ ?_
   rotate_left
   ·intro w'
    go_simp
    with_reducible rfl
   rotate_left
   ·simp only [Act.put,List.setIfInBounds_toArray,List.set_cons_zero,List.set_cons_succ,dB,dD]
    rfl
   refine eP (i:=30) (N:=some 38) (v:=?_) (a':=?_) #[true,true,true,true,true,true,true,true,true,true,true,true,true,true,true,true,true,true,true,true,true,true,true,true,true,true,true,true,true,true,true,false,false,false,false,false,false,false,false,false,false,false,false,false,false] rfl rfl au (fun _ _ _ h=>h) (Or.inl ⟨by rfl,?_⟩) ?_ ?_
   rotate_left
   ·intro w'
    go_simp
    with_reducible rfl
   rotate_left
   ·simp only [Act.put,List.setIfInBounds_toArray,List.set_cons_zero,List.set_cons_succ,dB,dD]
    rfl
   refine eP (i:=31) (N:=some 39) (v:=?_) (a':=?_) #[true,true,true,true,true,true,true,true,true,true,true,true,true,true,true,true,true,true,true,true,true,true,true,true,true,true,true,true,true,true,true,true,false,false,false,false,false,false,false,false,false,false,false,false,false] rfl rfl au (fun _ _ _ h=>h) (Or.inl ⟨by rfl,?_⟩) ?_ ?_
   rotate_left
   ·intro w'
    go_simp
    with_reducible rfl
   rotate_left
   ·simp only [Act.put,List.setIfInBounds_toArray,List.set_cons_zero,List.set_cons_succ,dB,dD]
    rfl
   refine eP (i:=32) (N:=some 40) (v:=undef) (a':=?_) #[true,true,true,true,true,true,true,true,true,true,true,true,true,true,true,true,true,true,true,true,true,true,true,true,true,true,true,true,true,true,true,true,true,false,false,false,false,false,false,false,false,false,false,false,false] rfl rfl au (fun _ _ _ h=>h) (Or.inr ⟨by rfl,rfl⟩) ?_ ?_
   rotate_left
   ·simp only [Act.put,List.setIfInBounds_toArray,List.set_cons_zero,List.set_cons_succ,dB,dD]
    rfl
   refine eP (i:=33) (N:=some 41) (v:=undef) (a':=?_) #[true,true,true,true,true,true,true,true,true,true,true,true,true,true,true,true,true,true,true,true,true,true,true,true,true,true,true,true,true,true,true,true,true,true,false,false,false,false,false,false,false,false,false,false,false] rfl rfl au (fun _ _ _ h=>h) (Or.inr ⟨by rfl,rfl⟩) ?_ ?_
   rotate_left
   ·simp only [Act.put,List.setIfInBounds_toArray,List.set_cons_zero,List.set_cons_succ,dB,dD]
    rfl
   refine eP (i:=34) (N:=some 42) (v:=undef) (a':=?_) #[true,true,true,true,true,true,true,true,true,true,true,true,true,true,true,true,true,true,true,true,true,true,true,true,true,true,true,true,true,true,true,true,true,true,true,false,false,false,false,false,false,false,false,false,false] rfl rfl au (fun _ _ _ h=>h) (Or.inr ⟨by rfl,rfl⟩) ?_ ?_
   rotate_left
   ·simp only [Act.put,List.setIfInBounds_toArray,List.set_cons_zero,List.set_cons_succ,dB,dD]
    rfl
   refine eP (i:=35) (N:=some 43) (v:=undef) (a':=?_) #[true,true,true,true,true,true,true,true,true,true,true,true,true,true,true,true,true,true,true,true,true,true,true,true,true,true,true,true,true,true,true,true,true,true,true,true,false,false,false,false,false,false,false,false,false] rfl rfl au (fun _ _ _ h=>h) (Or.inr ⟨by rfl,rfl⟩) ?_ ?_
   rotate_left
   ·simp only [Act.put,List.setIfInBounds_toArray,List.set_cons_zero,List.set_cons_succ,dB,dD]
    rfl
   refine eP (i:=36) (N:=some 44) (v:=undef) (a':=?_) #[true,true,true,true,true,true,true,true,true,true,true,true,true,true,true,true,true,true,true,true,true,true,true,true,true,true,true,true,true,true,true,true,true,true,true,true,true,false,false,false,false,false,false,false,false] rfl rfl au (fun _ _ _ h=>h) (Or.inr ⟨by rfl,rfl⟩) ?_ ?_
   rotate_left
   ·simp only [Act.put,List.setIfInBounds_toArray,List.set_cons_zero,List.set_cons_succ,dB,dD]
    rfl
   refine eP (i:=37) (N:=some 45) (v:=undef) (a':=?_) #[true,true,true,true,true,true,true,true,true,true,true,true,true,true,true,true,true,true,true,true,true,true,true,true,true,true,true,true,true,true,true,true,true,true,true,true,true,true,false,false,false,false,false,false,false] rfl rfl au (fun _ _ _ h=>h) (Or.inr ⟨by rfl,rfl⟩) ?_ ?_
   rotate_left
   ·simp only [Act.put,List.setIfInBounds_toArray,List.set_cons_zero,List.set_cons_succ,dB,dD]
    rfl
   refine eP (i:=38) (N:=some 46) (v:=undef) (a':=?_) #[true,true,true,true,true,true,true,true,true,true,true,true,true,true,true,true,true,true,true,true,true,true,true,true,true,true,true,true,true,true,true,true,true,true,true,true,true,true,true,false,false,false,false,false,false] rfl rfl au (fun _ _ _ h=>h) (Or.inr ⟨by rfl,rfl⟩) ?_ ?_
   rotate_left
   ·simp only [Act.put,List.setIfInBounds_toArray,List.set_cons_zero,List.set_cons_succ,dB,dD]
    rfl
   refine eP (i:=39) (N:=some 47) (v:=undef) (a':=?_) #[true,true,true,true,true,true,true,true,true,true,true,true,true,true,true,true,true,true,true,true,true,true,true,true,true,true,true,true,true,true,true,true,true,true,true,true,true,true,true,true,false,false,false,false,false] rfl rfl au (fun _ _ _ h=>h) (Or.inr ⟨by rfl,rfl⟩) ?_ ?_
   rotate_left
   ·simp only [Act.put,List.setIfInBounds_toArray,List.set_cons_zero,List.set_cons_succ,dB,dD]
    rfl
   refine eP (i:=40) (N:=some 48) (v:=undef) (a':=?_) #[true,true,true,true,true,true,true,true,true,true,true,true,true,true,true,true,true,true,true,true,true,true,true,true,true,true,true,true,true,true,true,true,true,true,true,true,true,true,true,true,true,false,false,false,false] rfl rfl au (fun _ _ _ h=>h) (Or.inr ⟨by rfl,rfl⟩) ?_ ?_
   rotate_left
   ·simp only [Act.put,List.setIfInBounds_toArray,List.set_cons_zero,List.set_cons_succ,dB,dD]
    rfl
   refine eP (i:=41) (N:=some 49) (v:=undef) (a':=?_) #[true,true,true,true,true,true,true,true,true,true,true,true,true,true,true,true,true,true,true,true,true,true,true,true,true,true,true,true,true,true,true,true,true,true,true,true,true,true,true,true,true,true,false,false,false] rfl rfl au (fun _ _ _ h=>h) (Or.inr ⟨by rfl,rfl⟩) ?_ ?_
   rotate_left
   ·simp only [Act.put,List.setIfInBounds_toArray,List.set_cons_zero,List.set_cons_succ,dB,dD]
    rfl
   refine eP (i:=42) (N:=some 50) (v:=undef) (a':=?_) #[true,true,true,true,true,true,true,true,true,true,true,true,true,true,true,true,true,true,true,true,true,true,true,true,true,true,true,true,true,true,true,true,true,true,true,true,true,true,true,true,true,true,true,false,false] rfl rfl au (fun _ _ _ h=>h) (Or.inr ⟨by rfl,rfl⟩) ?_ ?_
   rotate_left
   ·simp only [Act.put,List.setIfInBounds_toArray,List.set_cons_zero,List.set_cons_succ,dB,dD]
    rfl
   refine eP (i:=43) (N:=some 51) (v:=undef) (a':=?_) #[true,true,true,true,true,true,true,true,true,true,true,true,true,true,true,true,true,true,true,true,true,true,true,true,true,true,true,true,true,true,true,true,true,true,true,true,true,true,true,true,true,true,true,true,false] rfl rfl au (fun _ _ _ h=>h) (Or.inr ⟨by rfl,rfl⟩) ?_ ?_
   rotate_left
   ·simp only [Act.put,List.setIfInBounds_toArray,List.set_cons_zero,List.set_cons_succ,dB,dD]
    rfl
   refine eP (i:=44) (N:=some 52) (v:=?_) (a':=?_) #[true,true,true,true,true,true,true,true,true,true,true,true,true,true,true,true,true,true,true,true,true,true,true,true,true,true,true,true,true,true,true,true,true,true,true,true,true,true,true,true,true,true,true,true,true] rfl rfl au (fun _ _ _ h=>h) (Or.inl ⟨by rfl,?_⟩) ?_ ?_
   rotate_left
   ·intro w'
    go_simp
    with_reducible rfl
   rotate_left
   ·simp only [Act.put,List.setIfInBounds_toArray,List.set_cons_zero,List.set_cons_succ,dB,dD]
    rfl
   refine GN au ?_
   have H2:=ah.mk (show dw.f2 k s p=some (r1,r2,r3,r4,r5,r6,r7,r8) from (if_neg (by rw [HA.out];decide)).symm.trans HH.out)
   clear HA HH
   have HE:=ah.mk zH.out.held
   have aeK:=HE.out.ca
   have h:=H2.out
   clear H2
   unfold dw.f2 at h
   obtain ⟨⟨c1,c2,c3⟩,A1,h⟩:=Option.bind_eq_some_iff.mp h
   dsimp only at A1 h
   have qd:=ah.mk A1
   clear A1
   cases h64:(c1 == 64) with
   |false=>
    rw [if_neg xK] at h
    unfold dw.f3 at h
    obtain ⟨⟨m1,m2,m3,m4,m5,m6⟩,Ab,h⟩:=Option.bind_eq_some_iff.mp h
    dsimp only at Ab h
    simp only [Option.some.injEq,Prod.mk.injEq] at h
    obtain ⟨rfl,rfl,rfl,rfl,rfl,rfl,rfl,rfl⟩:=h
    have Vm:=ah.mk Ab
    clear Ab
    go_wp2_with (first
     |(go_at_call 115;refine (dn.calls g s p c1 c2 c3 w0 _ HE.out.st HE.out.bl qd.out).mono ?_;rintro e w4 ⟨rfl,hi,hb,hk⟩;have uf:=ah.mk (HE.out.call hi hb hk);have Fm:=uf.out.ca;clear hi hb hk)
     |(go_at_call 71;refine (cA.calls k g c2 c3 m1 m2 m3 m4 m5 m6 w0 _ uf.out.st uf.out.bl HG.out Vm.out).mono ?_;rintro e w9 ⟨rfl,hi,hb,hk⟩;have gW:=ah.mk (uf.out.call hi hb hk);have Vn:=gW.out.fb 0;have Vo:=gW.out.fb 1;have Vp:=gW.out.fb 2;have Vq:=gW.out.fb 3;have Vr:=gW.out.fb 4;have Vs:w9.cell? ⟨w3.heap.size,0,none⟩=some (Value.bool false):=(af gW.out.hb 0).trans rfl;have Vt:w9.cell? ⟨w3.heap.size,1,none⟩=some (Value.slice none 0 0):=(af gW.out.hb 1).trans rfl;have Vu:w9.cell? ⟨w3.heap.size,2,none⟩=some (Value.string ⟨#[]⟩):=(af gW.out.hb 2).trans rfl;have Vv:w9.cell? ⟨w3.heap.size,3,none⟩=some (Value.string ⟨#[]⟩):=(af gW.out.hb 3).trans rfl;have Vw:w9.cell? ⟨w3.heap.size,4,none⟩=some (Value.bool false):=(af gW.out.hb 4).trans rfl;have C9:=aa gW.out.hc 0;have Da:=aa gW.out.hc 1;have Db:=aa gW.out.hc 2;have Dc:=aa gW.out.hc 3;have Dd:=aa gW.out.hc 4;have De:w9.cell? ⟨w.heap.size + 1,0,none⟩=some (Value.bool false):=(af gW.out.hc 0).trans rfl;have Df:w9.cell? ⟨w.heap.size + 1,1,none⟩=some (Value.slice none 0 0):=(af gW.out.hc 1).trans rfl;have Dg:w9.cell? ⟨w.heap.size + 1,2,none⟩=some (Value.string ⟨#[]⟩):=(af gW.out.hc 2).trans rfl;have Dh:w9.cell? ⟨w.heap.size + 1,3,none⟩=some (Value.string ⟨#[]⟩):=(af gW.out.hc 3).trans rfl;have Di:w9.cell? ⟨w.heap.size + 1,4,none⟩=some (Value.bool false):=(af gW.out.hc 4).trans rfl;have hnb:w.heap.size + 1≠w3.heap.size:=Nat.ne_of_lt gW.out.gb;have Vx:w3.heap.size≠w.heap.size + 1:=(Nat.ne_of_lt gW.out.gb).symm;clear hi hb hk))
    have H8:=gW.out.box (.string m1) (.string m2) (.bool m3) rfl
    have H9:=qx (.bool false) (.slice none 0 0) (.string m1) (.string m2) (.bool m3) H8.2.1 H8.2.2.1 H8.2.2.2.1 gW.out.sz (Nat.le_succ _) H8.2.2.2.2.2 rfl
    refine bodyPost_ret (dA rfl _ _ (w.heap.size + 1) 32 #[.bool false,.slice none 0 0,.string m1,.string m2,.bool m3] (0,0) _ rfl H9.1 Tryz.underlying32 rfl au) rfl ?_
    exact ⟨_,rfl,H9.2.2.2.2 _ _ H8.2.2.2.2.1,H9.2.1,H9.2.2.1,H9.2.2.2.1⟩
   |true=>
    rw [if_pos xK] at h
    obtain ⟨⟨l1,l2,l3,l4⟩,A2,h⟩:=Option.bind_eq_some_iff.mp h
    dsimp only at A2 h
    have qG:=ah.mk A2
    clear A2
    cases l1 with
    |false=>
     rw [if_neg bR] at h
     simp only [Option.some.injEq,Prod.mk.injEq] at h
     obtain ⟨rfl,rfl,rfl,rfl,rfl,rfl,rfl,rfl⟩:=h
     go_wp2_with (first
      |(go_at_call 115;refine (dn.calls g s p c1 c2 c3 w0 _ HE.out.st HE.out.bl qd.out).mono ?_;rintro e w4 ⟨rfl,hi,hb,hk⟩;have uf:=ah.mk (HE.out.call hi hb hk);have Fm:=uf.out.ca;clear hi hb hk)
      |(go_at_call 67;refine (dJ.calls k g _ _ c2 c3 _ [] false l2 l3 l4 w0 w _ uf.out qG.out).mono ?_;rintro e w5 ⟨rfl,v5,h5⟩;have lY:=ah.mk h5;have Ml:=lY.out.ca;clear h5;have C9:=aa lY.out.hc 0;have Da:=aa lY.out.hc 1;have Db:=aa lY.out.hc 2;have Dc:=aa lY.out.hc 3;have Dd:=aa lY.out.hc 4;have De:w5.cell? ⟨w.heap.size + 1,0,none⟩=some (Value.bool false):=(af lY.out.hc 0).trans rfl;have Df:w5.cell? ⟨w.heap.size + 1,1,none⟩=some (Value.slice none 0 0):=(af lY.out.hc 1).trans rfl;have Dg:w5.cell? ⟨w.heap.size + 1,2,none⟩=some (Value.string ⟨#[]⟩):=(af lY.out.hc 2).trans rfl;have Dh:w5.cell? ⟨w.heap.size + 1,3,none⟩=some (Value.string ⟨#[]⟩):=(af lY.out.hc 3).trans rfl;have Di:w5.cell? ⟨w.heap.size + 1,4,none⟩=some (Value.bool false):=(af lY.out.hc 4).trans rfl))
     have H9:=qx (W:=w5) (.bool false) (.slice none 0 0) (.string ⟨#[]⟩) (.string ⟨#[]⟩) (.bool false) lY.out.st lY.out.bl lY.out.kp lY.out.sz (Nat.le_succ _) lY.out.hc rfl
     refine bodyPost_ret (dA rfl _ _ (w.heap.size + 1) 32 #[.bool false,.slice none 0 0,.string ⟨#[]⟩,.string ⟨#[]⟩,.bool false] (0,0) _ rfl H9.1 Tryz.underlying32 rfl au) rfl ?_
     exact ⟨_,rfl,Kd.fB _ _ _ _ _,H9.2.1,H9.2.2.1,H9.2.2.2.1⟩
    |true=>
     rw [if_pos rfl] at h
     obtain ⟨⟨u1,u2,u3⟩,A3,h⟩:=Option.bind_eq_some_iff.mp h
     dsimp only at A3 h
     have uv:=ah.mk A3
     clear A3
     cases u1 with
     |false=>
      rw [if_neg bR] at h
      simp only [Option.some.injEq,Prod.mk.injEq] at h
      obtain ⟨rfl,rfl,rfl,rfl,rfl,rfl,rfl,rfl⟩:=h
      go_wp2_with (first
       |(go_at_call 115;refine (dn.calls g s p c1 c2 c3 w0 _ HE.out.st HE.out.bl qd.out).mono ?_;rintro e w4 ⟨rfl,hi,hb,hk⟩;have uf:=ah.mk (HE.out.call hi hb hk);have Fm:=uf.out.ca;clear hi hb hk)
       |(go_at_call 67;refine (dJ.calls k g _ _ c2 c3 _ [] true l2 l3 l4 w0 w _ uf.out qG.out).mono ?_;rintro e w5 ⟨rfl,v5,h5⟩;have lY:=ah.mk h5;have Ml:=lY.out.ca;clear h5)
       |(go_at_call 56;refine (br.calls g l2 l3 58 false u2 u3 w0 _ lY.out.st lY.out.bl uv.out).mono ?_;rintro e w6 ⟨rfl,hi,hb,hk⟩;have ow:=ah.mk (lY.out.call hi hb hk);have Vy:=ow.out.ca;clear hi hb hk;have C9:=aa ow.out.hc 0;have Da:=aa ow.out.hc 1;have Db:=aa ow.out.hc 2;have Dc:=aa ow.out.hc 3;have Dd:=aa ow.out.hc 4;have De:w6.cell? ⟨w.heap.size + 1,0,none⟩=some (Value.bool false):=(af ow.out.hc 0).trans rfl;have Df:w6.cell? ⟨w.heap.size + 1,1,none⟩=some (Value.slice none 0 0):=(af ow.out.hc 1).trans rfl;have Dg:w6.cell? ⟨w.heap.size + 1,2,none⟩=some (Value.string ⟨#[]⟩):=(af ow.out.hc 2).trans rfl;have Dh:w6.cell? ⟨w.heap.size + 1,3,none⟩=some (Value.string ⟨#[]⟩):=(af ow.out.hc 3).trans rfl;have Di:w6.cell? ⟨w.heap.size + 1,4,none⟩=some (Value.bool false):=(af ow.out.hc 4).trans rfl))
      have H9:=qx (W:=w6) (.bool false) (.slice none 0 0) (.string ⟨#[]⟩) (.string ⟨#[]⟩) (.bool false) ow.out.st ow.out.bl ow.out.kp ow.out.sz (Nat.le_succ _) ow.out.hc rfl
      refine bodyPost_ret (dA rfl _ _ (w.heap.size + 1) 32 #[.bool false,.slice none 0 0,.string ⟨#[]⟩,.string ⟨#[]⟩,.bool false] (0,0) _ rfl H9.1 Tryz.underlying32 rfl au) rfl ?_
      exact ⟨_,rfl,Kd.fB _ _ _ _ _,H9.2.1,H9.2.2.1,H9.2.2.2.1⟩
     |true=>
      rw [if_pos rfl] at h
      unfold dw.f3 at h
      obtain ⟨⟨m1,m2,m3,m4,m5,m6⟩,Ab,h⟩:=Option.bind_eq_some_iff.mp h
      dsimp only at Ab h
      simp only [Option.some.injEq,Prod.mk.injEq] at h
      obtain ⟨rfl,rfl,rfl,rfl,rfl,rfl,rfl,rfl⟩:=h
      have Vm:=ah.mk Ab
      clear Ab
      go_wp2_with (first
       |(go_at_call 115;refine (dn.calls g s p c1 c2 c3 w0 _ HE.out.st HE.out.bl qd.out).mono ?_;rintro e w4 ⟨rfl,hi,hb,hk⟩;have uf:=ah.mk (HE.out.call hi hb hk);have Fm:=uf.out.ca;clear hi hb hk)
       |(go_at_call 67;refine (dJ.calls k g _ _ c2 c3 _ [] true l2 l3 l4 w0 w _ uf.out qG.out).mono ?_;rintro e w5 ⟨rfl,v5,h5⟩;have lY:=ah.mk h5;have Ml:=lY.out.ca;clear h5)
       |(go_at_call 56;refine (br.calls g l2 l3 58 true u2 u3 w0 _ lY.out.st lY.out.bl uv.out).mono ?_;rintro e w6 ⟨rfl,hi,hb,hk⟩;have ow:=ah.mk (lY.out.call hi hb hk);have Vy:=ow.out.ca;clear hi hb hk)
       |(go_at_call 71;refine (cA.calls k g u2 u3 m1 m2 m3 m4 m5 m6 w0 _ ow.out.st ow.out.bl HG.out Vm.out).mono ?_;rintro e w9 ⟨rfl,hi,hb,hk⟩;have gW:=ah.mk (ow.out.call hi hb hk);obtain ⟨A9,c9,e9⟩:=Kd.eG gW.out.hr;subst e9;have Vn:=gW.out.fb 0;have Vo:=gW.out.fb 1;have Vp:=gW.out.fb 2;have Vq:=gW.out.fb 3;have Vr:=gW.out.fb 4;have Vs:w9.cell? ⟨w3.heap.size,0,none⟩=some (Value.bool false):=(af gW.out.hb 0).trans rfl;have Vt:w9.cell? ⟨w3.heap.size,1,none⟩=some (Value.slice A9 l4.length c9):=(af gW.out.hb 1).trans rfl;have Vu:w9.cell? ⟨w3.heap.size,2,none⟩=some (Value.string ⟨#[]⟩):=(af gW.out.hb 2).trans rfl;have Vv:w9.cell? ⟨w3.heap.size,3,none⟩=some (Value.string ⟨#[]⟩):=(af gW.out.hb 3).trans rfl;have Vw:w9.cell? ⟨w3.heap.size,4,none⟩=some (Value.bool false):=(af gW.out.hb 4).trans rfl;have C9:=aa gW.out.hc 0;have Da:=aa gW.out.hc 1;have Db:=aa gW.out.hc 2;have Dc:=aa gW.out.hc 3;have Dd:=aa gW.out.hc 4;have De:w9.cell? ⟨w.heap.size + 1,0,none⟩=some (Value.bool false):=(af gW.out.hc 0).trans rfl;have Df:w9.cell? ⟨w.heap.size + 1,1,none⟩=some (Value.slice none 0 0):=(af gW.out.hc 1).trans rfl;have Dg:w9.cell? ⟨w.heap.size + 1,2,none⟩=some (Value.string ⟨#[]⟩):=(af gW.out.hc 2).trans rfl;have Dh:w9.cell? ⟨w.heap.size + 1,3,none⟩=some (Value.string ⟨#[]⟩):=(af gW.out.hc 3).trans rfl;have Di:w9.cell? ⟨w.heap.size + 1,4,none⟩=some (Value.bool false):=(af gW.out.hc 4).trans rfl;have hnb:w.heap.size + 1≠w3.heap.size:=Nat.ne_of_lt gW.out.gb;have Vx:w3.heap.size≠w.heap.size + 1:=(Nat.ne_of_lt gW.out.gb).symm;clear hi hb hk))
      have H8:=gW.out.box (.string m1) (.string m2) (.bool m3) rfl
      have H9:=qx (.bool false) (.slice A9 l4.length c9) (.string m1) (.string m2) (.bool m3) H8.2.1 H8.2.2.1 H8.2.2.2.1 gW.out.sz (Nat.le_succ _) H8.2.2.2.2.2 rfl
      refine bodyPost_ret (dA rfl _ _ (w.heap.size + 1) 32 #[.bool false,.slice A9 l4.length c9,.string m1,.string m2,.bool m3] (0,0) _ rfl H9.1 Tryz.underlying32 rfl au) rfl ?_
      exact ⟨_,rfl,H9.2.2.2.2 _ _ H8.2.2.2.2.1,H9.2.1,H9.2.2.1,H9.2.2.2.1⟩
  |true=>
   cases h62:(bt s (p + 10) == 62) with
   |false=>
    have HA:=ah.mk (show pU s p=false by unfold pU;rw [HX.out,hq,h62];simp)
    go_region_held3 (fun w'=>w'.cell? ⟨w.heap.size,0,none⟩=some (.pointer (some ⟨g,0,none⟩))∧w'.cell? ⟨g,0,none⟩=some (.string s)∧w'.cell? ⟨g,1,none⟩=some (.int .i64 p)∧ah (o9 w0 w w' g s p)) (first|exact ⟨hca,hc0,hc1,ah.mk (HF.out.below (bu (Below.refl _ _)))⟩|(refine ⟨?_,?_,?_,?_⟩<;>assumption))
     (first|(go_at_call 81;obtain ⟨_,_,_,hF⟩:=‹_∧_∧_∧ah (o9 w0 w _ g s p)›;refine (HC.out _).mono ?_;rintro e w3 ⟨rfl,hb⟩;have hF3:=o9.below hF.out hb;have zH:=ah.mk hF3;clear hF hF3;have ann:w3.cell? ⟨w.heap.size,0,none⟩=some (.pointer (some ⟨g,0,none⟩)):=(af zH.out.ha 0).trans rfl;have ano:w3.cell? ⟨g,0,none⟩=some (.string s):=(af zH.out.st.1 0).trans rfl;have anp:w3.cell? ⟨g,1,none⟩=some (.int .i64 p):=(af zH.out.st.1 1).trans rfl;clear hb))
    have H2:=ah.mk (show dw.f2 k s p=some (r1,r2,r3,r4,r5,r6,r7,r8) from (if_neg (by rw [HA.out];decide)).symm.trans HH.out)
    clear HA HH
    have HE:=ah.mk zH.out.held
    have aeK:=HE.out.ca
    have h:=H2.out
    clear H2
    unfold dw.f2 at h
    obtain ⟨⟨c1,c2,c3⟩,A1,h⟩:=Option.bind_eq_some_iff.mp h
    dsimp only at A1 h
    have qd:=ah.mk A1
    clear A1
    cases h64:(c1 == 64) with
    |false=>
     rw [if_neg xK] at h
     unfold dw.f3 at h
     obtain ⟨⟨m1,m2,m3,m4,m5,m6⟩,Ab,h⟩:=Option.bind_eq_some_iff.mp h
     dsimp only at Ab h
     simp only [Option.some.injEq,Prod.mk.injEq] at h
     obtain ⟨rfl,rfl,rfl,rfl,rfl,rfl,rfl,rfl⟩:=h
     have Vm:=ah.mk Ab
     clear Ab
     go_wp2_with (first
      |(go_at_call 115;refine (dn.calls g s p c1 c2 c3 w0 _ HE.out.st HE.out.bl qd.out).mono ?_;rintro e w4 ⟨rfl,hi,hb,hk⟩;have uf:=ah.mk (HE.out.call hi hb hk);have Fm:=uf.out.ca;clear hi hb hk)
      |(go_at_call 71;refine (cA.calls k g c2 c3 m1 m2 m3 m4 m5 m6 w0 _ uf.out.st uf.out.bl HG.out Vm.out).mono ?_;rintro e w9 ⟨rfl,hi,hb,hk⟩;have gW:=ah.mk (uf.out.call hi hb hk);have Vn:=gW.out.fb 0;have Vo:=gW.out.fb 1;have Vp:=gW.out.fb 2;have Vq:=gW.out.fb 3;have Vr:=gW.out.fb 4;have Vs:w9.cell? ⟨w3.heap.size,0,none⟩=some (Value.bool false):=(af gW.out.hb 0).trans rfl;have Vt:w9.cell? ⟨w3.heap.size,1,none⟩=some (Value.slice none 0 0):=(af gW.out.hb 1).trans rfl;have Vu:w9.cell? ⟨w3.heap.size,2,none⟩=some (Value.string ⟨#[]⟩):=(af gW.out.hb 2).trans rfl;have Vv:w9.cell? ⟨w3.heap.size,3,none⟩=some (Value.string ⟨#[]⟩):=(af gW.out.hb 3).trans rfl;have Vw:w9.cell? ⟨w3.heap.size,4,none⟩=some (Value.bool false):=(af gW.out.hb 4).trans rfl;have C9:=aa gW.out.hc 0;have Da:=aa gW.out.hc 1;have Db:=aa gW.out.hc 2;have Dc:=aa gW.out.hc 3;have Dd:=aa gW.out.hc 4;have De:w9.cell? ⟨w.heap.size + 1,0,none⟩=some (Value.bool false):=(af gW.out.hc 0).trans rfl;have Df:w9.cell? ⟨w.heap.size + 1,1,none⟩=some (Value.slice none 0 0):=(af gW.out.hc 1).trans rfl;have Dg:w9.cell? ⟨w.heap.size + 1,2,none⟩=some (Value.string ⟨#[]⟩):=(af gW.out.hc 2).trans rfl;have Dh:w9.cell? ⟨w.heap.size + 1,3,none⟩=some (Value.string ⟨#[]⟩):=(af gW.out.hc 3).trans rfl;have Di:w9.cell? ⟨w.heap.size + 1,4,none⟩=some (Value.bool false):=(af gW.out.hc 4).trans rfl;have hnb:w.heap.size + 1≠w3.heap.size:=Nat.ne_of_lt gW.out.gb;have Vx:w3.heap.size≠w.heap.size + 1:=(Nat.ne_of_lt gW.out.gb).symm;clear hi hb hk))
     have H8:=gW.out.box (.string m1) (.string m2) (.bool m3) rfl
     have H9:=qx (.bool false) (.slice none 0 0) (.string m1) (.string m2) (.bool m3) H8.2.1 H8.2.2.1 H8.2.2.2.1 gW.out.sz (Nat.le_succ _) H8.2.2.2.2.2 rfl
     refine bodyPost_ret (dA rfl _ _ (w.heap.size + 1) 32 #[.bool false,.slice none 0 0,.string m1,.string m2,.bool m3] (0,0) _ rfl H9.1 Tryz.underlying32 rfl au) rfl ?_
     exact ⟨_,rfl,H9.2.2.2.2 _ _ H8.2.2.2.2.1,H9.2.1,H9.2.2.1,H9.2.2.2.1⟩
    |true=>
     rw [if_pos xK] at h
     obtain ⟨⟨l1,l2,l3,l4⟩,A2,h⟩:=Option.bind_eq_some_iff.mp h
     dsimp only at A2 h
     have qG:=ah.mk A2
     clear A2
     cases l1 with
     |false=>
      rw [if_neg bR] at h
      simp only [Option.some.injEq,Prod.mk.injEq] at h
      obtain ⟨rfl,rfl,rfl,rfl,rfl,rfl,rfl,rfl⟩:=h
      go_wp2_with (first
       |(go_at_call 115;refine (dn.calls g s p c1 c2 c3 w0 _ HE.out.st HE.out.bl qd.out).mono ?_;rintro e w4 ⟨rfl,hi,hb,hk⟩;have uf:=ah.mk (HE.out.call hi hb hk);have Fm:=uf.out.ca;clear hi hb hk)
       |(go_at_call 67;refine (dJ.calls k g _ _ c2 c3 _ [] false l2 l3 l4 w0 w _ uf.out qG.out).mono ?_;rintro e w5 ⟨rfl,v5,h5⟩;have lY:=ah.mk h5;have Ml:=lY.out.ca;clear h5;have C9:=aa lY.out.hc 0;have Da:=aa lY.out.hc 1;have Db:=aa lY.out.hc 2;have Dc:=aa lY.out.hc 3;have Dd:=aa lY.out.hc 4;have De:w5.cell? ⟨w.heap.size + 1,0,none⟩=some (Value.bool false):=(af lY.out.hc 0).trans rfl;have Df:w5.cell? ⟨w.heap.size + 1,1,none⟩=some (Value.slice none 0 0):=(af lY.out.hc 1).trans rfl;have Dg:w5.cell? ⟨w.heap.size + 1,2,none⟩=some (Value.string ⟨#[]⟩):=(af lY.out.hc 2).trans rfl;have Dh:w5.cell? ⟨w.heap.size + 1,3,none⟩=some (Value.string ⟨#[]⟩):=(af lY.out.hc 3).trans rfl;have Di:w5.cell? ⟨w.heap.size + 1,4,none⟩=some (Value.bool false):=(af lY.out.hc 4).trans rfl))
      have H9:=qx (W:=w5) (.bool false) (.slice none 0 0) (.string ⟨#[]⟩) (.string ⟨#[]⟩) (.bool false) lY.out.st lY.out.bl lY.out.kp lY.out.sz (Nat.le_succ _) lY.out.hc rfl
      refine bodyPost_ret (dA rfl _ _ (w.heap.size + 1) 32 #[.bool false,.slice none 0 0,.string ⟨#[]⟩,.string ⟨#[]⟩,.bool false] (0,0) _ rfl H9.1 Tryz.underlying32 rfl au) rfl ?_
      exact ⟨_,rfl,Kd.fB _ _ _ _ _,H9.2.1,H9.2.2.1,H9.2.2.2.1⟩
     |true=>
      rw [if_pos rfl] at h
      obtain ⟨⟨u1,u2,u3⟩,A3,h⟩:=Option.bind_eq_some_iff.mp h
      dsimp only at A3 h
      have uv:=ah.mk A3
      clear A3
      cases u1 with
      |false=>
       rw [if_neg bR] at h
       simp only [Option.some.injEq,Prod.mk.injEq] at h
       obtain ⟨rfl,rfl,rfl,rfl,rfl,rfl,rfl,rfl⟩:=h
       go_wp2_with (first
        |(go_at_call 115;refine (dn.calls g s p c1 c2 c3 w0 _ HE.out.st HE.out.bl qd.out).mono ?_;rintro e w4 ⟨rfl,hi,hb,hk⟩;have uf:=ah.mk (HE.out.call hi hb hk);have Fm:=uf.out.ca;clear hi hb hk)
        |(go_at_call 67;refine (dJ.calls k g _ _ c2 c3 _ [] true l2 l3 l4 w0 w _ uf.out qG.out).mono ?_;rintro e w5 ⟨rfl,v5,h5⟩;have lY:=ah.mk h5;have Ml:=lY.out.ca;clear h5)
        |(go_at_call 56;refine (br.calls g l2 l3 58 false u2 u3 w0 _ lY.out.st lY.out.bl uv.out).mono ?_;rintro e w6 ⟨rfl,hi,hb,hk⟩;have ow:=ah.mk (lY.out.call hi hb hk);have Vy:=ow.out.ca;clear hi hb hk;have C9:=aa ow.out.hc 0;have Da:=aa ow.out.hc 1;have Db:=aa ow.out.hc 2;have Dc:=aa ow.out.hc 3;have Dd:=aa ow.out.hc 4;have De:w6.cell? ⟨w.heap.size + 1,0,none⟩=some (Value.bool false):=(af ow.out.hc 0).trans rfl;have Df:w6.cell? ⟨w.heap.size + 1,1,none⟩=some (Value.slice none 0 0):=(af ow.out.hc 1).trans rfl;have Dg:w6.cell? ⟨w.heap.size + 1,2,none⟩=some (Value.string ⟨#[]⟩):=(af ow.out.hc 2).trans rfl;have Dh:w6.cell? ⟨w.heap.size + 1,3,none⟩=some (Value.string ⟨#[]⟩):=(af ow.out.hc 3).trans rfl;have Di:w6.cell? ⟨w.heap.size + 1,4,none⟩=some (Value.bool false):=(af ow.out.hc 4).trans rfl))
       have H9:=qx (W:=w6) (.bool false) (.slice none 0 0) (.string ⟨#[]⟩) (.string ⟨#[]⟩) (.bool false) ow.out.st ow.out.bl ow.out.kp ow.out.sz (Nat.le_succ _) ow.out.hc rfl
       refine bodyPost_ret (dA rfl _ _ (w.heap.size + 1) 32 #[.bool false,.slice none 0 0,.string ⟨#[]⟩,.string ⟨#[]⟩,.bool false] (0,0) _ rfl H9.1 Tryz.underlying32 rfl au) rfl ?_
       exact ⟨_,rfl,Kd.fB _ _ _ _ _,H9.2.1,H9.2.2.1,H9.2.2.2.1⟩
      |true=>
       rw [if_pos rfl] at h
       unfold dw.f3 at h
       obtain ⟨⟨m1,m2,m3,m4,m5,m6⟩,Ab,h⟩:=Option.bind_eq_some_iff.mp h
       dsimp only at Ab h
       simp only [Option.some.injEq,Prod.mk.injEq] at h
       obtain ⟨rfl,rfl,rfl,rfl,rfl,rfl,rfl,rfl⟩:=h
       have Vm:=ah.mk Ab
       clear Ab
       go_wp2_with (first
        |(go_at_call 115;refine (dn.calls g s p c1 c2 c3 w0 _ HE.out.st HE.out.bl qd.out).mono ?_;rintro e w4 ⟨rfl,hi,hb,hk⟩;have uf:=ah.mk (HE.out.call hi hb hk);have Fm:=uf.out.ca;clear hi hb hk)
        |(go_at_call 67;refine (dJ.calls k g _ _ c2 c3 _ [] true l2 l3 l4 w0 w _ uf.out qG.out).mono ?_;rintro e w5 ⟨rfl,v5,h5⟩;have lY:=ah.mk h5;have Ml:=lY.out.ca;clear h5)
        |(go_at_call 56;refine (br.calls g l2 l3 58 true u2 u3 w0 _ lY.out.st lY.out.bl uv.out).mono ?_;rintro e w6 ⟨rfl,hi,hb,hk⟩;have ow:=ah.mk (lY.out.call hi hb hk);have Vy:=ow.out.ca;clear hi hb hk)
        |(go_at_call 71;refine (cA.calls k g u2 u3 m1 m2 m3 m4 m5 m6 w0 _ ow.out.st ow.out.bl HG.out Vm.out).mono ?_;rintro e w9 ⟨rfl,hi,hb,hk⟩;have gW:=ah.mk (ow.out.call hi hb hk);obtain ⟨A9,c9,e9⟩:=Kd.eG gW.out.hr;subst e9;have Vn:=gW.out.fb 0;have Vo:=gW.out.fb 1;have Vp:=gW.out.fb 2;have Vq:=gW.out.fb 3;have Vr:=gW.out.fb 4;have Vs:w9.cell? ⟨w3.heap.size,0,none⟩=some (Value.bool false):=(af gW.out.hb 0).trans rfl;have Vt:w9.cell? ⟨w3.heap.size,1,none⟩=some (Value.slice A9 l4.length c9):=(af gW.out.hb 1).trans rfl;have Vu:w9.cell? ⟨w3.heap.size,2,none⟩=some (Value.string ⟨#[]⟩):=(af gW.out.hb 2).trans rfl;have Vv:w9.cell? ⟨w3.heap.size,3,none⟩=some (Value.string ⟨#[]⟩):=(af gW.out.hb 3).trans rfl;have Vw:w9.cell? ⟨w3.heap.size,4,none⟩=some (Value.bool false):=(af gW.out.hb 4).trans rfl;have C9:=aa gW.out.hc 0;have Da:=aa gW.out.hc 1;have Db:=aa gW.out.hc 2;have Dc:=aa gW.out.hc 3;have Dd:=aa gW.out.hc 4;have De:w9.cell? ⟨w.heap.size + 1,0,none⟩=some (Value.bool false):=(af gW.out.hc 0).trans rfl;have Df:w9.cell? ⟨w.heap.size + 1,1,none⟩=some (Value.slice none 0 0):=(af gW.out.hc 1).trans rfl;have Dg:w9.cell? ⟨w.heap.size + 1,2,none⟩=some (Value.string ⟨#[]⟩):=(af gW.out.hc 2).trans rfl;have Dh:w9.cell? ⟨w.heap.size + 1,3,none⟩=some (Value.string ⟨#[]⟩):=(af gW.out.hc 3).trans rfl;have Di:w9.cell? ⟨w.heap.size + 1,4,none⟩=some (Value.bool false):=(af gW.out.hc 4).trans rfl;have hnb:w.heap.size + 1≠w3.heap.size:=Nat.ne_of_lt gW.out.gb;have Vx:w3.heap.size≠w.heap.size + 1:=(Nat.ne_of_lt gW.out.gb).symm;clear hi hb hk))
       have H8:=gW.out.box (.string m1) (.string m2) (.bool m3) rfl
       have H9:=qx (.bool false) (.slice A9 l4.length c9) (.string m1) (.string m2) (.bool m3) H8.2.1 H8.2.2.1 H8.2.2.2.1 gW.out.sz (Nat.le_succ _) H8.2.2.2.2.2 rfl
       refine bodyPost_ret (dA rfl _ _ (w.heap.size + 1) 32 #[.bool false,.slice A9 l4.length c9,.string m1,.string m2,.bool m3] (0,0) _ rfl H9.1 Tryz.underlying32 rfl au) rfl ?_
       exact ⟨_,rfl,H9.2.2.2.2 _ _ H8.2.2.2.2.1,H9.2.1,H9.2.2.1,H9.2.2.2.1⟩
   |true=>
    have HA:=ah.mk (show pU s p=true by unfold pU;rw [HX.out,hq,h62,decide_eq_true hr];rfl)
    go_region_held3 (fun w'=>w'.cell? ⟨w.heap.size,0,none⟩=some (.pointer (some ⟨g,0,none⟩))∧w'.cell? ⟨g,0,none⟩=some (.string s)∧w'.cell? ⟨g,1,none⟩=some (.int .i64 p)∧ah (o9 w0 w w' g s p)) (first|exact ⟨hca,hc0,hc1,ah.mk (HF.out.below (bu (Below.refl _ _)))⟩|(refine ⟨?_,?_,?_,?_⟩<;>assumption))
     (first|(go_at_call 81;obtain ⟨_,_,_,hF⟩:=‹_∧_∧_∧ah (o9 w0 w _ g s p)›;refine (HC.out _).mono ?_;rintro e w3 ⟨rfl,hb⟩;have hF3:=o9.below hF.out hb;have zH:=ah.mk hF3;clear hF hF3;have ann:w3.cell? ⟨w.heap.size,0,none⟩=some (.pointer (some ⟨g,0,none⟩)):=(af zH.out.ha 0).trans rfl;have ano:w3.cell? ⟨g,0,none⟩=some (.string s):=(af zH.out.st.1 0).trans rfl;have anp:w3.cell? ⟨g,1,none⟩=some (.int .i64 p):=(af zH.out.st.1 1).trans rfl;clear hb))
    have H2:=ah.mk ((if_pos HA.out).symm.trans HH.out)
    have h:=H2.out
    simp only [Option.some.injEq,Prod.mk.injEq] at h
    obtain ⟨rfl,rfl,rfl,rfl,rfl,rfl,rfl,rfl⟩:=h
    clear H2 HH
    have hk1:w3.frozen? ⟨g,1,none⟩=false:=aa zH.out.st.1 1
    have C9:=aa zH.out.hc 0
    have Da:=aa zH.out.hc 1
    have Db:=aa zH.out.hc 2
    have Dc:=aa zH.out.hc 3
    have Dd:=aa zH.out.hc 4
    have De:w3.cell? ⟨w.heap.size + 1,0,none⟩=some (Value.bool false):=(af zH.out.hc 0).trans rfl
    have Df:w3.cell? ⟨w.heap.size + 1,1,none⟩=some (Value.slice none 0 0):=(af zH.out.hc 1).trans rfl
    have Dg:w3.cell? ⟨w.heap.size + 1,2,none⟩=some (Value.string ⟨#[]⟩):=(af zH.out.hc 2).trans rfl
    have Dh:w3.cell? ⟨w.heap.size + 1,3,none⟩=some (Value.string ⟨#[]⟩):=(af zH.out.hc 3).trans rfl
    have Di:w3.cell? ⟨w.heap.size + 1,4,none⟩=some (Value.bool false):=(af zH.out.hc 4).trans rfl
    have hng:g≠w.heap.size + 1:=av.qi zH.out.st zH.out.hc bR
    have aq3:=hng.symm
    go_wp2
    have H0:=zH.out.set (p + 10)
    have H9:=qx (.bool false) (.slice none 0 0) (.string lA) (.string ⟨#[]⟩) (.bool false) H0.st H0.bl H0.kp H0.sz (Nat.le_succ _) H0.hc rfl
    refine bodyPost_ret (dA rfl _ _ (w.heap.size + 1) 32 #[.bool false,.slice none 0 0,.string lA,.string ⟨#[]⟩,.bool false] (0,0) _ rfl H9.1 Tryz.underlying32 rfl au) rfl ?_
    exact ⟨_,rfl,Kd.fB _ _ _ _ _,H9.2.1,H9.2.2.1,H9.2.2.2.1⟩
end Go.Proofs.YtokpnfljjjjikaaGreatDoor.nX
