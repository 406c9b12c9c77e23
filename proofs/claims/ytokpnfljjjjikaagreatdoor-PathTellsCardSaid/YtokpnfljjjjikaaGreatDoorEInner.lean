import Derived.Test.YtokpnfljjjjikaaGreatDoorQPtx6
set_option maxHeartbeats 8000000
set_option maxRecDepth 100000
namespace Go.Proofs.YtokpnfljjjjikaaGreatDoor.mY
open Go.RowKit Go.Proofs.aj.bO Go.Proofs.aj.fA Go.Proofs.aj.cK
set_option linter.unusedSimpArgs false
def iK.f (k:Nat) (s:ByteArray) (p:Int) (rs:List ByteArray):Option (Bool×ByteArray×Int×List ByteArray):=
 (bV.f s p 64).bind fun t=>(cv.f k t.2.1 t.2.2).bind fun d=>if rs.length < 8000000000000 then some (t.1 && d.2.1,d.2.2.1,d.2.2.2,rs ++ [d.1]) else none
def dB.l0:Nat→ByteArray→Int→List ByteArray→Option (Bool×ByteArray×Int×List ByteArray)
 | 0,_,_,_ =>none
 |k + 1,s,p,rs=>(iK.f k s p rs).bind fun t=>if t.1=true then (bV.f t.2.1 t.2.2.1 44).bind fun c=>if c.1=true then dB.l0 k c.2.1 c.2.2 t.2.2.2 else some (true,c.2.1,c.2.2,t.2.2.2) else some (false,t.2.1,t.2.2.1,t.2.2.2)
structure Held (w0 we W:World) (g a b:Nat) (s:ByteArray) (p:Int) (v:Value) (rs:List ByteArray):Prop where
 st:aD w0 W g s p
 bl:Below w0.heap.size w0 W
 kp:bM we W g none
 ha:W.heap[a]? =some (.cells #[.pointer (some ⟨g,0,none⟩)] 80 (0,0))
 hb:W.heap[b]? =some (.cells #[.bool false,v,.string ⟨#[]⟩,.string ⟨#[]⟩,.bool false] 32 (0,0))
 hr:Kd.R Kd.string 9 W we.heap.size (fun _ =>True) v rs
 sz:w0.heap.size≤we.heap.size
 hc:W.heap[we.heap.size + 1]? =some (.cells #[.bool false,.slice none 0 0,.string ⟨#[]⟩,.string ⟨#[]⟩,.bool false] 32 (0,0))
 ga:we.heap.size≤a
 gb:we.heap.size + 1 < b
section
variable {w0 we W W1:World} {g a b:Nat} {s s1:ByteArray} {p p1:Int} {v:Value} {rs:List ByteArray}
theorem Held.call (H:Held w0 we W g a b s p v rs) (hi:aD w0 W1 g s1 p1) (hb:Below w0.heap.size w0 W1) (hk:bM W W1 g none):Held w0 we W1 g a b s1 p1 v rs where
 st:=hi
 bl:=hb
 kp:=H.kp.trans hk (.inl rfl)
 ha:=bM.blk hk H.ha (aD.qg H.st H.ha bh).symm bw
 hb:=bM.blk hk H.hb (aD.qg H.st H.hb bh).symm bw
 hr:=Kd.fS (Kd.wG (aD.apart H.st H.hr bh) hk (fun _ h=>h.2)) (fun _ h=>h.1)
 sz:=H.sz
 hc:=bM.blk hk H.hc (aD.qg H.st H.hc bh).symm bw
 ga:=H.ga
 gb:=H.gb
theorem Held.ca (H:Held w0 we W g a b s p v rs):W.cell? ⟨a,0,none⟩=some (.pointer (some ⟨g,0,none⟩)):=(ah H.ha 0).trans rfl
theorem Held.cb (H:Held w0 we W g a b s p v rs):W.cell? ⟨b,1,none⟩=some v:=(ah H.hb 1).trans rfl
theorem Held.fb (H:Held w0 we W g a b s p v rs) (j:Nat):W.frozen? ⟨b,j,none⟩=false:=af H.hb j
theorem Held.alloc (H:Held w0 we W g a b s p v rs) (o:Obj):Held w0 we (W.alloc o) g a b s p v rs:=
 H.call (H.st.alloc o) (aV H.bl o) (oI (bM.refl _ _ _) o)
theorem Held.app (H:Held w0 we W g a b s p v rs) {v1:Value} {W2:World} {n:ByteArray} (ho:Kd.R Kd.string 9 W2 we.heap.size (fun _ =>True) v1 (rs ++ [n])) (hb:Below we.heap.size W W2) (hg:W.grownBy W2 v.ownBlock):Held w0 we (W2.setCell ⟨b,1,none⟩ v1) g a b s p v1 (rs ++ [n]):=by
 have hB:W2.heap[b]? =some (.cells #[.bool false,v,.string ⟨#[]⟩,.string ⟨#[]⟩,.bool false] 32 (0,0)):=ni H.hb hg (Kd.EW H.hr H.hb bh)
 have hA:W2.heap[a]? =some (.cells #[.pointer (some ⟨g,0,none⟩)] 80 (0,0)):=ni H.ha hg (Kd.EW H.hr H.ha bh)
 have hS:aD w0 W2 g s p:=aD.grown H.st hg (aD.own_ne H.st H.hr bh)
 have hab:a≠b:=by
  rintro rfl
  rw [hA] at hB
  simp at hB
 have hgb:g≠b:=aD.qg hS hB bh
 have hC:W2.heap[we.heap.size + 1]? =some (.cells #[.bool false,.slice none 0 0,.string ⟨#[]⟩,.string ⟨#[]⟩,.bool false] 32 (0,0)):=ni H.hc hg (Kd.EW H.hr H.hc bh)
 have hG:=H.gb
 refine ⟨aD.far hS hgb _,?_,?_,?_,?_,?_,H.sz,cQ hC (by show _≠b;omega) _,H.ga,H.gb⟩
 ·exact (fE H.bl H.sz hb).setCell (Nat.le_trans H.sz (by show _≤b;omega)) _
 ·exact oq (bM.trans H.kp (bM.sL hg g) (Kd.Az H.hr)) (by show _≤b;omega) _
 ·exact cQ hA hab _
 ·have:=D8 hB 1 v1
  simpa using this
 ·refine Kd.fS (Kd.eB (Kd.fS (Kd.rR ho) (ok':=fun k=>k≠b) ?_) (fun k hk=>hk) v1) (fun _ _ =>trivial)
  rintro k ⟨_,_,_,q,hq,cells,hc⟩ rfl
  rw [hB] at hc
  injection hc with hc
  injection hc with _ hc
  have h1:q=9∨q∈Kd.string.E:=by simpa using hq
  rcases h1 with h1|h1
  ·exact absurd (hc.trans h1) bh
  ·cases h1
end
theorem iK.calls (k g a b:Nat) (s:ByteArray) (p:Int) (v:Value) (rs:List ByteArray) (r1:Bool) (s1:ByteArray) (p1:Int) (rs1:List ByteArray) (w0 we w:World) (H:Held w0 we w g a b s p v rs) (h:iK.f k s p rs=some (r1,s1,p1,rs1)):
 Calls Tryz.prog 116 #[.pointer (some ⟨a,0,none⟩),.pointer (some ⟨b,0,none⟩)] w fun e w'=>e= .returned (.bool r1)∧∃ v1,Held w0 we w' g a b s1 p1 v1 rs1:=by
 unfold iK.f at h
 obtain ⟨⟨t1,t2,t3⟩,A1,h⟩:=Option.bind_eq_some_iff.mp h
 obtain ⟨⟨d1,d2,d3,d4⟩,A2,h⟩:=Option.bind_eq_some_iff.mp h
 dsimp only at A1 A2 h
 have ht:t1=true∨t1=false:=by cases t1<;>simp
 by_cases hl:rs.length < 8000000000000
 case neg=>rw [if_neg hl] at h;cases h
 rw [if_pos hl] at h
 simp only [Option.some.injEq,Prod.mk.injEq] at h
 obtain ⟨rfl,rfl,rfl,rfl⟩:=h
 have HL:=aa.mk hl
 have Hs:=aa.mk A1
 have Nr:=aa.mk A2
 have HH:=aa.mk H
 have hca:=H.ca
 clear hl A1 A2 H
 go_enter Tryz.func116,Tryz.ntmps116
 go_wp2_with (first
  |(go_at_call 56;refine (bV.calls g s p 64 t1 t2 t3 w0 w HH.out.st HH.out.bl Hs.out).mono ?_;rintro e w1 ⟨rfl,hi,hb,hk⟩;have Rk:=aa.mk (HH.out.call hi hb hk);clear hi hb hk;have ave:=Rk.out.ca)
  |(go_at_call 80;refine (cv.calls k g t2 t3 d1 d2 d3 d4 w0 w1 Rk.out.st Rk.out.bl Nr.out).mono ?_;rintro e w2 ⟨rfl,hi,hb,hk⟩;have Rl:=aa.mk (Rk.out.call hi hb hk);clear hi hb hk;have avf:=Rl.out.cb)
  |((with_reducible refine jo (b:= .append) (xs:=#[.tmp 14,.tmp 16]) rfl ?_);at_builtin;refine Kd.mZ Kd.string we.heap.size rfl (.tmp 14) (.tmp 16) 28 9 (.string ⟨#[]⟩) 16 rfl Tryz.underlying28 Vp rfl bh ak v rs d1 [.string d1] (fun _ =>True) (fun _ =>False) rfl Au ?aP (fun _ hk=>hk.elim) ?aF ?aO (Below.refl _ _) ?aS ?aL ?_;(case aP=>exact rfl);(case aF=>exact (fun _ _ =>trivial));(case aO=>exact Rl.out.hr);(case aS=>exact rZ Rl.out.kp);(case aL=>have:=HL.out;omega);intro v3 w3 ho hb hg hat;obtain ⟨A3,c3,rfl⟩:=Kd.gQ ho;have HH3:=aa.mk (Rl.out.app ho hb hg);have avh:=(af (ni Rl.out.hb hg (Kd.EW Rl.out.hr Rl.out.hb bh)) 1);have avi:=(ah (ni Rl.out.hb hg (Kd.EW Rl.out.hr Rl.out.hb bh)) 1).trans rfl;clear ho hb hg hat))
 all_goals
  go_ret
  exact ⟨by first|rfl|(simp [*];done)|(rename_i ht;simp [ht];done)|(rename_i _ ht;simp [ht];done),_,by have h1:=HH3.out;rw [List.length_append] at h1;exact h1⟩
theorem dB.calls (k g a b:Nat) (s:ByteArray) (p:Int) (v:Value) (rs:List ByteArray) (r1:Bool) (s1:ByteArray) (p1:Int) (rs1:List ByteArray) (w0 we w:World) (H:Held w0 we w g a b s p v rs) (h:dB.l0 k s p rs=some (r1,s1,p1,rs1)):
 Calls Tryz.prog 67 #[.pointer (some ⟨g,0,none⟩),.int .u8 44,.func (.func 116) #[] #[.pointer (some ⟨a,0,none⟩),.pointer (some ⟨b,0,none⟩)]] w fun e w'=>e= .returned (.bool r1)∧∃ v1,Held w0 we w' g a b s1 p1 v1 rs1:=by
 have HH:=aa.mk H
 have HS:=aa.mk h
 clear H h
 go_enter Tryz.func67,Tryz.ntmps67
 go_wp2
 go_loopg [] k (fun kq w'=>∃ (s2:ByteArray) (p2:Int) (v2:Value) (rs2:List ByteArray),aa (dB.l0 kq s2 p2 rs2=some (r1,s1,p1,rs1))∧aa (Held w0 we w' g a b s2 p2 v2 rs2))
 case atStart=>exact ⟨s,p,v,rs,HS,HH⟩
 case round=>
  clear HS HH
  obtain ⟨s2,p2,v2,rs2,HA,HH⟩:=hrel
  cases gk with
  |zero=>exact absurd HA.out (by simp [dB.l0])
  |succ k1=>
   have h:=HA.out
   clear HA
   simp only [dB.l0] at h
   obtain ⟨⟨t1,t2,t3,t4⟩,A1,h⟩:=Option.bind_eq_some_iff.mp h
   dsimp only at h
   have Hs:=aa.mk A1
   clear A1
   cases t1 with
   |true=>
    rw [if_pos rfl] at h
    obtain ⟨⟨c1,c2,c3⟩,A2,h⟩:=Option.bind_eq_some_iff.mp h
    dsimp only at A2 h
    have Nr:=aa.mk A2
    have HH':=aa.mk h
    clear A2 h
    cases c1 with
    |true=>
     have HN:=aa.mk (show dB.l0 k1 c2 c3 t4=some (r1,s1,p1,rs1) from (if_pos rfl).symm.trans HH'.out)
     clear HH'
     go_wp2_with (first
      |(go_at_call 116;refine (iK.calls k1 g a b s2 p2 v2 rs2 true t2 t3 t4 w0 we _ HH.out Hs.out).mono ?_;rintro e w2 ⟨rfl,v3,h3⟩;have Rk:=aa.mk h3;clear h3)
      |(go_at_call 56;refine (bV.calls g t2 t3 44 true c2 c3 w0 _ Rk.out.st Rk.out.bl Nr.out).mono ?_;rintro e w3 ⟨rfl,hi,hb,hk⟩;have Rl:=aa.mk (Rk.out.call hi hb hk);clear hi hb hk))
     go_roundg k1
     case measure=>omega
     case rel=>exact ⟨c2,c3,_,t4,HN,Rl⟩
    |false=>
     have hN:=(if_neg bh).symm.trans HH'.out
     simp only [Option.some.injEq,Prod.mk.injEq] at hN
     obtain ⟨rfl,rfl,rfl,rfl⟩:=hN
     clear HH'
     go_wp2_with (first
      |(go_at_call 116;refine (iK.calls k1 g a b s2 p2 v2 rs2 true t2 t3 t4 w0 we _ HH.out Hs.out).mono ?_;rintro e w2 ⟨rfl,v3,h3⟩;have Rk:=aa.mk h3;clear h3)
      |(go_at_call 56;refine (bV.calls g t2 t3 44 false c2 c3 w0 _ Rk.out.st Rk.out.bl Nr.out).mono ?_;rintro e w3 ⟨rfl,hi,hb,hk⟩;have Rl:=aa.mk (Rk.out.call hi hb hk);clear hi hb hk))
     go_ret
     exact ⟨rfl,_,Rl.out⟩
   |false=>
    rw [if_neg bh] at h
    simp only [Option.some.injEq,Prod.mk.injEq] at h
    obtain ⟨rfl,rfl,rfl,rfl⟩:=h
    go_wp2_with (first
     |(go_at_call 116;refine (iK.calls k1 g a b s2 p2 v2 rs2 false t2 t3 t4 w0 we _ HH.out Hs.out).mono ?_;rintro e w2 ⟨rfl,v3,h3⟩;have Rk:=aa.mk h3;clear h3))
    go_ret
    exact ⟨rfl,_,Rk.out⟩
def cX.f3 (k:Nat) (s:ByteArray) (p:Int) (rs:List ByteArray):Option (Bool×List ByteArray×ByteArray×ByteArray×Bool×Bool×ByteArray×Int):=
 (cA.f k s p).bind fun m=>some (false,rs,m.1,m.2.1,m.2.2.1,m.2.2.2.1,m.2.2.2.2.1,m.2.2.2.2.2)
def cX.f2 (k:Nat) (s:ByteArray) (p:Int):Option (Bool×List ByteArray×ByteArray×ByteArray×Bool×Bool×ByteArray×Int):=
 (dD.f s p).bind fun c=>if c.1=64 then (dB.l0 k c.2.1 c.2.2 []).bind fun l=>if l.1=true then (bV.f l.2.1 l.2.2.1 58).bind fun t=>if t.1=true then cX.f3 k t.2.1 t.2.2 l.2.2.2 else some (false,[],⟨#[]⟩,⟨#[]⟩,false,false,t.2.1,t.2.2) else some (false,[],⟨#[]⟩,⟨#[]⟩,false,false,l.2.1,l.2.2.1) else cX.f3 k c.2.1 c.2.2 []
def jz:ByteArray:=⟨#[112,111,115,116,109,97,115,116,101,114]⟩
def pS (s:ByteArray) (p:Int):Bool:=decide (p + 10 < (s.size:Int)) && (cS.g (s.extract p.toNat (p + 10).toNat)).toList == ([112,111,115,116,109,97,115,116,101,114]:List UInt8) && (bt s (p + 10)) == 62
def cX.f (k:Nat) (s:ByteArray) (p:Int):Option (Bool×List ByteArray×ByteArray×ByteArray×Bool×Bool×ByteArray×Int):=
 if 0≤p∧p≤(s.size:Int)∧(s.size:Int) < 4611686018427387904 then
  (if pS s p=true then some (false,[],jz,⟨#[]⟩,false,true,s,p + 10) else cX.f2 k s p)
 else none
structure oW (w0 w W:World) (g:Nat) (s:ByteArray) (p:Int):Prop where
 st:aD w0 W g s p
 bl:Below w0.heap.size w0 W
 sz:w0.heap.size≤w.heap.size
 kp:bM w W g none
 ha:W.heap[w.heap.size]? =some (.cells #[.pointer (some ⟨g,0,none⟩)] 80 (0,0))
 hc:W.heap[w.heap.size + 1]? =some (.cells #[.bool false,.slice none 0 0,.string ⟨#[]⟩,.string ⟨#[]⟩,.bool false] 32 (0,0))
section
variable {w0 w W W1:World} {g a b:Nat} {s:ByteArray} {p:Int} {v:Value} {rs:List ByteArray}
theorem oW.begin (hI:aD w0 w g s p) (hB:Below w0.heap.size w0 w):oW w0 w ((w.alloc (.cells #[.pointer (some ⟨g,0,none⟩)] 80)).alloc (.cells #[.bool false,.slice none 0 0,.string ⟨#[]⟩,.string ⟨#[]⟩,.bool false] 32)) g s p where
 st:=(hI.alloc _).alloc _
 bl:=aV (aV hB _) _
 sz:=hB.size
 kp:=oI (oI (bM.refl _ _ _) _) _
 ha:=by
  refine av ?_ _
  simpa using heap_alloc_new w _
 hc:=by
  have:=heap_alloc_new (w.alloc (.cells #[.pointer (some ⟨g,0,none⟩)] 80)) (.cells #[.bool false,.slice none 0 0,.string ⟨#[]⟩,.string ⟨#[]⟩,.bool false] 32)
  simpa using this
theorem oW.below (H:oW w0 w W g s p) (hb:Below W.heap.size W W1):oW w0 w W1 g s p where
 st:=H.st.below hb
 bl:=fE H.bl H.bl.size hb
 sz:=H.sz
 kp:=H.kp.trans (bM.of_below hb g none) (.inl rfl)
 ha:=(hb.block _ (iM H.ha)).trans H.ha
 hc:=(hb.block _ (iM H.hc)).trans H.hc
theorem oW.set (H:oW w0 w W g s p) (q:Int):oW w0 w (W.setCell ⟨g,1,none⟩ (.int .i64 q)) g s q where
 st:=H.st.gi q
 bl:=aZ H.bl H.st.ge
 sz:=H.sz
 kp:=H.kp.UN _ _
 ha:=cQ H.ha (aD.qg H.st H.ha bh).symm _
 hc:=cQ H.hc (aD.qg H.st H.hc bh).symm _
theorem oW.held (H:oW w0 w W g s p):Held w0 w (W.alloc (.cells #[.bool false,.slice none 0 0,.string ⟨#[]⟩,.string ⟨#[]⟩,.bool false] 32)) g w.heap.size W.heap.size s p (.slice none 0 0) [] where
 st:=H.st.alloc _
 bl:=aV H.bl _
 kp:=oI H.kp _
 ha:=av H.ha _
 hb:=by simpa using heap_alloc_new W _
 hr:=Kd.vQ _ _ _ _ _
 sz:=H.sz
 hc:=av H.hc _
 ga:=Nat.le_refl _
 gb:=iM H.hc
theorem qi {c:Nat} {y0 y1 y2 y3 y4:Value} (x0 x1 x2 x3 x4:Value) (hst:aD w0 W g s p) (hbl:Below w0.heap.size w0 W) (hkp:bM w W g none) (hsz:w0.heap.size≤w.heap.size) (hgc:w.heap.size≤c)
 (hc:W.heap[c]? =some (.cells #[y0,y1,y2,y3,y4] 32 (0,0))) (hW:W1=((((W.setCell ⟨c,0,none⟩ x0).setCell ⟨c,1,none⟩ x1).setCell ⟨c,2,none⟩ x2).setCell ⟨c,3,none⟩ x3).setCell ⟨c,4,none⟩ x4):
 W1.heap[c]? =some (.cells #[x0,x1,x2,x3,x4] 32 (0,0))∧aD w0 W1 g s p∧Below w0.heap.size w0 W1∧bM w W1 g none∧∀ (v:Value) (xs:List ByteArray),Kd.R Kd.string 9 W w.heap.size (fun _ =>True) v xs→Kd.R Kd.string 9 W1 w.heap.size (fun _ =>True) v xs:=by
 subst hW
 have VI:g≠c:=aD.qg hst hc bh
 refine ⟨?_,?_,?_,?_,?_⟩
 ·refine bR (cs:=#[x0,x1,x2,x3,y4]) ?_ 4 _ rfl
  refine bR (cs:=#[x0,x1,x2,y3,y4]) ?_ 3 _ rfl
  refine bR (cs:=#[x0,x1,y2,y3,y4]) ?_ 2 _ rfl
  refine bR (cs:=#[x0,y1,y2,y3,y4]) ?_ 1 _ rfl
  exact bR hc 0 _ rfl
 ·exact ((((hst.far VI _).far VI _).far VI _).far VI _).far VI _
 ·have h0:=Nat.le_trans hsz hgc
  exact aZ (aZ (aZ (aZ (aZ hbl h0) h0) h0) h0) h0
 ·exact oq (oq (oq (oq (oq hkp hgc _) hgc _) hgc _) hgc _) hgc _
 ·intro v xs ho
  have hne:∀ (W2:World),W2.heap[c]? =some (.cells #[y0,y1,y2,y3,y4] 32 (0,0))→Kd.R Kd.string 9 W2 w.heap.size (fun _ =>True) v xs→Kd.R Kd.string 9 W2 w.heap.size (fun k=>k≠c) v xs:=by
   intro W2 hB h1
   refine Kd.fS (Kd.rR h1) ?_
   rintro k ⟨_,_,_,q,hq,cells,hcc⟩ rfl
   rw [hB] at hcc
   injection hcc with hcc
   injection hcc with _ hcc
   have h1:q=9∨q∈Kd.string.E:=by simpa using hq
   rcases h1 with h1|h1
   ·exact absurd (hcc.trans h1) bh
   ·cases h1
  have h1:=hne W hc ho
  exact Kd.fS (Kd.eB (Kd.eB (Kd.eB (Kd.eB (Kd.eB h1 (fun _ h=>h) x0) (fun _ h=>h) x1) (fun _ h=>h) x2) (fun _ h=>h) x3) (fun _ h=>h) x4) (fun _ _ =>trivial)
theorem Held.box (H:Held w0 w W g a b s p v rs) (x2 x3 x4:Value) (hW:W1=((W.setCell ⟨b,2,none⟩ x2).setCell ⟨b,3,none⟩ x3).setCell ⟨b,4,none⟩ x4):
 W1.heap[b]? =some (.cells #[.bool false,v,x2,x3,x4] 32 (0,0))∧aD w0 W1 g s p∧Below w0.heap.size w0 W1∧bM w W1 g none∧Kd.R Kd.string 9 W1 w.heap.size (fun _ =>True) v rs∧W1.heap[w.heap.size + 1]? =some (.cells #[.bool false,.slice none 0 0,.string ⟨#[]⟩,.string ⟨#[]⟩,.bool false] 32 (0,0)):=by
 subst hW
 have hG:=H.gb
 have hgb:g≠b:=aD.qg H.st H.hb bh
 have hcb:w.heap.size + 1≠b:=by omega
 have hwb:w.heap.size≤b:=by omega
 refine ⟨?_,((H.st.far hgb _).far hgb _).far hgb _,?_,oq (oq (oq H.kp hwb _) hwb _) hwb _,?_,cQ (cQ (cQ H.hc hcb _) hcb _) hcb _⟩
 ·refine bR (cs:=#[.bool false,v,x2,x3,.bool false]) ?_ 4 _ rfl
  refine bR (cs:=#[.bool false,v,x2,.string ⟨#[]⟩,.bool false]) ?_ 3 _ rfl
  exact bR H.hb 2 _ rfl
 ·have h0:=Nat.le_trans H.sz hwb
  exact aZ (aZ (aZ H.bl h0) h0) h0
 ·have h1:Kd.R Kd.string 9 W w.heap.size (fun k=>k≠b) v rs:=by
   refine Kd.fS (Kd.rR H.hr) ?_
   rintro k ⟨_,_,_,q,hq,cells,hcc⟩ rfl
   rw [H.hb] at hcc
   injection hcc with hcc
   injection hcc with _ hcc
   have h1:q=9∨q∈Kd.string.E:=by simpa using hq
   rcases h1 with h1|h1
   ·exact absurd (hcc.trans h1) bh
   ·cases h1
  exact Kd.fS (Kd.eB (Kd.eB (Kd.eB h1 (fun _ h=>h) x2) (fun _ h=>h) x3) (fun _ h=>h) x4) (fun _ _ =>trivial)
end
theorem iK.mono:∀ s p rs k,bL (iK.f k s p rs) (iK.f (k + 1) s p rs):=by
 intro s p rs k
 unfold iK.f
 exact bL.bind (bL.refl _) fun _ =>bL.bind (cv.mono _ _ _) fun _ =>bL.refl _
theorem dB.mono:∀ k s p rs,bL (dB.l0 k s p rs) (dB.l0 (k + 1) s p rs)
 | 0,_,_,_ =>fun r h=>by simp [dB.l0] at h
 |k + 1,s,p,rs=>by
  have ih:=dB.mono k
  unfold dB.l0
  exact bL.bind (iK.mono _ _ _ _) fun _ =>bL.ite (bL.bind (bL.refl _) fun _ =>bL.ite (ih _ _ _) (bL.refl _)) (bL.refl _)
theorem cX.abO:∀ k s p rs,bL (cX.f3 k s p rs) (cX.f3 (k + 1) s p rs):=by
 intro k s p rs
 unfold cX.f3
 exact bL.bind (cA.mono _ _ _) fun _ =>bL.refl _
theorem cX.afS:∀ k s p,bL (cX.f2 k s p) (cX.f2 (k + 1) s p):=by
 intro k s p
 unfold cX.f2
 exact bL.bind (bL.refl _) fun _ =>bL.ite (bL.bind (dB.mono _ _ _ _) fun _ =>bL.ite (bL.bind (bL.refl _) fun _ =>bL.ite (cX.abO _ _ _ _) (bL.refl _)) (bL.refl _)) (cX.abO _ _ _ _)
theorem cX.mono:∀ s p k,bL (cX.f k s p) (cX.f (k + 1) s p):=by
 intro s p k
 unfold cX.f
 exact bL.ite (bL.ite (bL.refl _) (cX.afS _ _ _)) (bL.refl _)
theorem cX.calls (k g:Nat) (s:ByteArray) (p:Int) (r1:Bool) (r2:List ByteArray) (r3 r4:ByteArray) (r5 r6:Bool) (r7:ByteArray) (r8:Int) (w0 w:World) (hI:aD w0 w g s p) (hB:Below w0.heap.size w0 w) (hG:aJ w0) (h:cX.f k s p=some (r1,r2,r3,r4,r5,r6,r7,r8)):
 Calls Tryz.prog 57 #[.pointer (some ⟨g,0,none⟩)] w fun e w'=>∃ v1_:Value,e= .returned (.tuple #[.agg #[.bool r1,v1_,.string r3,.string r4,.bool r5],.bool r6])∧Kd.R Kd.string 9 w' w.heap.size (fun _ =>True) v1_ r2∧aD w0 w' g r7 r8∧Below w0.heap.size w0 w'∧bM w w' g none:=by
 unfold cX.f at h
 by_cases hp: 0≤p∧p≤(s.size:Int)∧(s.size:Int) < 4611686018427387904
 case neg=>rw [if_neg hp] at h;cases h
 rw [if_pos hp] at h
 have HF:=aa.mk (oW.begin hI hB)
 have HG:=aa.mk hG
 have HH:=aa.mk h
 clear hI hB hG h
 obtain ⟨hp0,hp1,hp2⟩:=hp
 go_enter Tryz.func57,Tryz.ntmps57
 go_wp2
 generalize ((w.alloc (.cells #[.pointer (some ⟨g,0,none⟩)] 80)).alloc (.cells #[.bool false,.slice none 0 0,.string ⟨#[]⟩,.string ⟨#[]⟩,.bool false] 32))=w1 at HF ⊢
 have hw1:IntKind.i64.wrap ((s.size:Int) - p)=(s.size:Int) - p:=(cU _).trans (by unfold wrap64;omega)
 have hw2:IntKind.i64.wrap (p + 10)=p + 10:=(cU _).trans (by unfold wrap64;omega)
 have hca:w1.cell? ⟨w.heap.size,0,none⟩=some (.pointer (some ⟨g,0,none⟩)):=(ah HF.out.ha 0).trans rfl
 obtain ⟨hgb,_⟩:=HF.out.st
 have hc0:w1.cell? ⟨g,0,none⟩=some (.string s):=(ah hgb 0).trans rfl
 have hc1:w1.cell? ⟨g,1,none⟩=some (.int .i64 p):=(ah hgb 1).trans rfl
 clear hgb
 by_cases hr:p + 10 < (s.size:Int)
 case neg=>
  have HA:=aa.mk (show pS s p=false by unfold pS;rw [decide_eq_false hr];rfl)
  have hd:decide (10 < (s.size:Int) - p)=false:=decide_eq_false ak
  go_quiet (fail)
  have hW:=aN (Below.refl w1.heap.size w1)
  have HFA:=aa.mk (fun n=>HF.out.below (hW n))
  clear hW
  generalize hWn:World.drewN w1 _=w3
  have Ad:=aa.mk (show oW w0 w w3 g s p from hWn ▸ HFA.out _)
  clear HFA hWn
  have H2:=aa.mk (show cX.f2 k s p=some (r1,r2,r3,r4,r5,r6,r7,r8) from (if_neg (by rw [HA.out];decide)).symm.trans HH.out)
  clear HA HH
  have HE:=aa.mk Ad.out.held
  have afT:=HE.out.ca
  have h:=H2.out
  clear H2
  unfold cX.f2 at h
  obtain ⟨⟨c1,c2,c3⟩,A1,h⟩:=Option.bind_eq_some_iff.mp h
  dsimp only at A1 h
  have Hs:=aa.mk A1
  clear A1
  cases h64:(c1 == 64) with
  |false=>
   rw [if_neg xU] at h
   unfold cX.f3 at h
   obtain ⟨⟨m1,m2,m3,m4,m5,m6⟩,Ab,h⟩:=Option.bind_eq_some_iff.mp h
   dsimp only at Ab h
   simp only [Option.some.injEq,Prod.mk.injEq] at h
   obtain ⟨rfl,rfl,rfl,rfl,rfl,rfl,rfl,rfl⟩:=h
   have VJ:=aa.mk Ab
   clear Ab
   go_wp2_with (first
    |(go_at_call 115;refine (dD.calls g s p c1 c2 c3 w0 _ HE.out.st HE.out.bl Hs.out).mono ?_;rintro e w4 ⟨rfl,hi,hb,hk⟩;have uz:=aa.mk (HE.out.call hi hb hk);have Fv:=uz.out.ca;clear hi hb hk)
    |(go_at_call 71;refine (cA.calls k g c2 c3 m1 m2 m3 m4 m5 m6 w0 _ uz.out.st uz.out.bl HG.out VJ.out).mono ?_;rintro e w9 ⟨rfl,hi,hb,hk⟩;have iG:=aa.mk (uz.out.call hi hb hk);have VK:=iG.out.fb 0;have VL:=iG.out.fb 1;have VM:=iG.out.fb 2;have VN:=iG.out.fb 3;have VO:=iG.out.fb 4;have VP:w9.cell? ⟨w3.heap.size,0,none⟩=some (Value.bool false):=(ah iG.out.hb 0).trans rfl;have VQ:w9.cell? ⟨w3.heap.size,1,none⟩=some (Value.slice none 0 0):=(ah iG.out.hb 1).trans rfl;have VR:w9.cell? ⟨w3.heap.size,2,none⟩=some (Value.string ⟨#[]⟩):=(ah iG.out.hb 2).trans rfl;have VS:w9.cell? ⟨w3.heap.size,3,none⟩=some (Value.string ⟨#[]⟩):=(ah iG.out.hb 3).trans rfl;have VT:w9.cell? ⟨w3.heap.size,4,none⟩=some (Value.bool false):=(ah iG.out.hb 4).trans rfl;have Dq:=af iG.out.hc 0;have Dr:=af iG.out.hc 1;have Ds:=af iG.out.hc 2;have Dt:=af iG.out.hc 3;have Du:=af iG.out.hc 4;have Dv:w9.cell? ⟨w.heap.size + 1,0,none⟩=some (Value.bool false):=(ah iG.out.hc 0).trans rfl;have Dw:w9.cell? ⟨w.heap.size + 1,1,none⟩=some (Value.slice none 0 0):=(ah iG.out.hc 1).trans rfl;have Dx:w9.cell? ⟨w.heap.size + 1,2,none⟩=some (Value.string ⟨#[]⟩):=(ah iG.out.hc 2).trans rfl;have Dy:w9.cell? ⟨w.heap.size + 1,3,none⟩=some (Value.string ⟨#[]⟩):=(ah iG.out.hc 3).trans rfl;have Dz:w9.cell? ⟨w.heap.size + 1,4,none⟩=some (Value.bool false):=(ah iG.out.hc 4).trans rfl;have hnb:w.heap.size + 1≠w3.heap.size:=Nat.ne_of_lt iG.out.gb;have VU:w3.heap.size≠w.heap.size + 1:=(Nat.ne_of_lt iG.out.gb).symm;clear hi hb hk))
   have H8:=iG.out.box (.string m1) (.string m2) (.bool m3) rfl
   have H9:=qi (.bool false) (.slice none 0 0) (.string m1) (.string m2) (.bool m3) H8.2.1 H8.2.2.1 H8.2.2.2.1 iG.out.sz (Nat.le_succ _) H8.2.2.2.2.2 rfl
   refine bodyPost_ret (eY rfl _ _ (w.heap.size + 1) 32 #[.bool false,.slice none 0 0,.string m1,.string m2,.bool m3] (0,0) _ rfl H9.1 Tryz.underlying32 rfl aq) rfl ?_
   exact ⟨_,rfl,H9.2.2.2.2 _ _ H8.2.2.2.2.1,H9.2.1,H9.2.2.1,H9.2.2.2.1⟩
  |true=>
   rw [if_pos xU] at h
   obtain ⟨⟨l1,l2,l3,l4⟩,A2,h⟩:=Option.bind_eq_some_iff.mp h
   dsimp only at A2 h
   have Nr:=aa.mk A2
   clear A2
   cases l1 with
   |false=>
    rw [if_neg bh] at h
    simp only [Option.some.injEq,Prod.mk.injEq] at h
    obtain ⟨rfl,rfl,rfl,rfl,rfl,rfl,rfl,rfl⟩:=h
    go_wp2_with (first
     |(go_at_call 115;refine (dD.calls g s p c1 c2 c3 w0 _ HE.out.st HE.out.bl Hs.out).mono ?_;rintro e w4 ⟨rfl,hi,hb,hk⟩;have uz:=aa.mk (HE.out.call hi hb hk);have Fv:=uz.out.ca;clear hi hb hk)
     |(go_at_call 67;refine (dB.calls k g _ _ c2 c3 _ [] false l2 l3 l4 w0 w _ uz.out Nr.out).mono ?_;rintro e w5 ⟨rfl,v5,h5⟩;have mH:=aa.mk h5;have Mb:=mH.out.ca;clear h5;have Dq:=af mH.out.hc 0;have Dr:=af mH.out.hc 1;have Ds:=af mH.out.hc 2;have Dt:=af mH.out.hc 3;have Du:=af mH.out.hc 4;have Dv:w5.cell? ⟨w.heap.size + 1,0,none⟩=some (Value.bool false):=(ah mH.out.hc 0).trans rfl;have Dw:w5.cell? ⟨w.heap.size + 1,1,none⟩=some (Value.slice none 0 0):=(ah mH.out.hc 1).trans rfl;have Dx:w5.cell? ⟨w.heap.size + 1,2,none⟩=some (Value.string ⟨#[]⟩):=(ah mH.out.hc 2).trans rfl;have Dy:w5.cell? ⟨w.heap.size + 1,3,none⟩=some (Value.string ⟨#[]⟩):=(ah mH.out.hc 3).trans rfl;have Dz:w5.cell? ⟨w.heap.size + 1,4,none⟩=some (Value.bool false):=(ah mH.out.hc 4).trans rfl))
    have H9:=qi (W:=w5) (.bool false) (.slice none 0 0) (.string ⟨#[]⟩) (.string ⟨#[]⟩) (.bool false) mH.out.st mH.out.bl mH.out.kp mH.out.sz (Nat.le_succ _) mH.out.hc rfl
    refine bodyPost_ret (eY rfl _ _ (w.heap.size + 1) 32 #[.bool false,.slice none 0 0,.string ⟨#[]⟩,.string ⟨#[]⟩,.bool false] (0,0) _ rfl H9.1 Tryz.underlying32 rfl aq) rfl ?_
    exact ⟨_,rfl,Kd.vQ _ _ _ _ _,H9.2.1,H9.2.2.1,H9.2.2.2.1⟩
   |true=>
    rw [if_pos rfl] at h
    obtain ⟨⟨u1,u2,u3⟩,A3,h⟩:=Option.bind_eq_some_iff.mp h
    dsimp only at A3 h
    have HA3:=aa.mk A3
    clear A3
    cases u1 with
    |false=>
     rw [if_neg bh] at h
     simp only [Option.some.injEq,Prod.mk.injEq] at h
     obtain ⟨rfl,rfl,rfl,rfl,rfl,rfl,rfl,rfl⟩:=h
     go_wp2_with (first
      |(go_at_call 115;refine (dD.calls g s p c1 c2 c3 w0 _ HE.out.st HE.out.bl Hs.out).mono ?_;rintro e w4 ⟨rfl,hi,hb,hk⟩;have uz:=aa.mk (HE.out.call hi hb hk);have Fv:=uz.out.ca;clear hi hb hk)
      |(go_at_call 67;refine (dB.calls k g _ _ c2 c3 _ [] true l2 l3 l4 w0 w _ uz.out Nr.out).mono ?_;rintro e w5 ⟨rfl,v5,h5⟩;have mH:=aa.mk h5;have Mb:=mH.out.ca;clear h5)
      |(go_at_call 56;refine (bV.calls g l2 l3 58 false u2 u3 w0 _ mH.out.st mH.out.bl HA3.out).mono ?_;rintro e w6 ⟨rfl,hi,hb,hk⟩;have oD:=aa.mk (mH.out.call hi hb hk);have VV:=oD.out.ca;clear hi hb hk;have Dq:=af oD.out.hc 0;have Dr:=af oD.out.hc 1;have Ds:=af oD.out.hc 2;have Dt:=af oD.out.hc 3;have Du:=af oD.out.hc 4;have Dv:w6.cell? ⟨w.heap.size + 1,0,none⟩=some (Value.bool false):=(ah oD.out.hc 0).trans rfl;have Dw:w6.cell? ⟨w.heap.size + 1,1,none⟩=some (Value.slice none 0 0):=(ah oD.out.hc 1).trans rfl;have Dx:w6.cell? ⟨w.heap.size + 1,2,none⟩=some (Value.string ⟨#[]⟩):=(ah oD.out.hc 2).trans rfl;have Dy:w6.cell? ⟨w.heap.size + 1,3,none⟩=some (Value.string ⟨#[]⟩):=(ah oD.out.hc 3).trans rfl;have Dz:w6.cell? ⟨w.heap.size + 1,4,none⟩=some (Value.bool false):=(ah oD.out.hc 4).trans rfl))
     have H9:=qi (W:=w6) (.bool false) (.slice none 0 0) (.string ⟨#[]⟩) (.string ⟨#[]⟩) (.bool false) oD.out.st oD.out.bl oD.out.kp oD.out.sz (Nat.le_succ _) oD.out.hc rfl
     refine bodyPost_ret (eY rfl _ _ (w.heap.size + 1) 32 #[.bool false,.slice none 0 0,.string ⟨#[]⟩,.string ⟨#[]⟩,.bool false] (0,0) _ rfl H9.1 Tryz.underlying32 rfl aq) rfl ?_
     exact ⟨_,rfl,Kd.vQ _ _ _ _ _,H9.2.1,H9.2.2.1,H9.2.2.2.1⟩
    |true=>
     rw [if_pos rfl] at h
     unfold cX.f3 at h
     obtain ⟨⟨m1,m2,m3,m4,m5,m6⟩,Ab,h⟩:=Option.bind_eq_some_iff.mp h
     dsimp only at Ab h
     simp only [Option.some.injEq,Prod.mk.injEq] at h
     obtain ⟨rfl,rfl,rfl,rfl,rfl,rfl,rfl,rfl⟩:=h
     have VJ:=aa.mk Ab
     clear Ab
     go_wp2_with (first
      |(go_at_call 115;refine (dD.calls g s p c1 c2 c3 w0 _ HE.out.st HE.out.bl Hs.out).mono ?_;rintro e w4 ⟨rfl,hi,hb,hk⟩;have uz:=aa.mk (HE.out.call hi hb hk);have Fv:=uz.out.ca;clear hi hb hk)
      |(go_at_call 67;refine (dB.calls k g _ _ c2 c3 _ [] true l2 l3 l4 w0 w _ uz.out Nr.out).mono ?_;rintro e w5 ⟨rfl,v5,h5⟩;have mH:=aa.mk h5;have Mb:=mH.out.ca;clear h5)
      |(go_at_call 56;refine (bV.calls g l2 l3 58 true u2 u3 w0 _ mH.out.st mH.out.bl HA3.out).mono ?_;rintro e w6 ⟨rfl,hi,hb,hk⟩;have oD:=aa.mk (mH.out.call hi hb hk);have VV:=oD.out.ca;clear hi hb hk)
      |(go_at_call 71;refine (cA.calls k g u2 u3 m1 m2 m3 m4 m5 m6 w0 _ oD.out.st oD.out.bl HG.out VJ.out).mono ?_;rintro e w9 ⟨rfl,hi,hb,hk⟩;have iG:=aa.mk (oD.out.call hi hb hk);obtain ⟨A9,c9,e9⟩:=Kd.gQ iG.out.hr;subst e9;have VK:=iG.out.fb 0;have VL:=iG.out.fb 1;have VM:=iG.out.fb 2;have VN:=iG.out.fb 3;have VO:=iG.out.fb 4;have VP:w9.cell? ⟨w3.heap.size,0,none⟩=some (Value.bool false):=(ah iG.out.hb 0).trans rfl;have VQ:w9.cell? ⟨w3.heap.size,1,none⟩=some (Value.slice A9 l4.length c9):=(ah iG.out.hb 1).trans rfl;have VR:w9.cell? ⟨w3.heap.size,2,none⟩=some (Value.string ⟨#[]⟩):=(ah iG.out.hb 2).trans rfl;have VS:w9.cell? ⟨w3.heap.size,3,none⟩=some (Value.string ⟨#[]⟩):=(ah iG.out.hb 3).trans rfl;have VT:w9.cell? ⟨w3.heap.size,4,none⟩=some (Value.bool false):=(ah iG.out.hb 4).trans rfl;have Dq:=af iG.out.hc 0;have Dr:=af iG.out.hc 1;have Ds:=af iG.out.hc 2;have Dt:=af iG.out.hc 3;have Du:=af iG.out.hc 4;have Dv:w9.cell? ⟨w.heap.size + 1,0,none⟩=some (Value.bool false):=(ah iG.out.hc 0).trans rfl;have Dw:w9.cell? ⟨w.heap.size + 1,1,none⟩=some (Value.slice none 0 0):=(ah iG.out.hc 1).trans rfl;have Dx:w9.cell? ⟨w.heap.size + 1,2,none⟩=some (Value.string ⟨#[]⟩):=(ah iG.out.hc 2).trans rfl;have Dy:w9.cell? ⟨w.heap.size + 1,3,none⟩=some (Value.string ⟨#[]⟩):=(ah iG.out.hc 3).trans rfl;have Dz:w9.cell? ⟨w.heap.size + 1,4,none⟩=some (Value.bool false):=(ah iG.out.hc 4).trans rfl;have hnb:w.heap.size + 1≠w3.heap.size:=Nat.ne_of_lt iG.out.gb;have VU:w3.heap.size≠w.heap.size + 1:=(Nat.ne_of_lt iG.out.gb).symm;clear hi hb hk))
     have H8:=iG.out.box (.string m1) (.string m2) (.bool m3) rfl
     have H9:=qi (.bool false) (.slice A9 l4.length c9) (.string m1) (.string m2) (.bool m3) H8.2.1 H8.2.2.1 H8.2.2.2.1 iG.out.sz (Nat.le_succ _) H8.2.2.2.2.2 rfl
     refine bodyPost_ret (eY rfl _ _ (w.heap.size + 1) 32 #[.bool false,.slice A9 l4.length c9,.string m1,.string m2,.bool m3] (0,0) _ rfl H9.1 Tryz.underlying32 rfl aq) rfl ?_
     exact ⟨_,rfl,H9.2.2.2.2 _ _ H8.2.2.2.2.1,H9.2.1,H9.2.2.1,H9.2.2.2.1⟩
 case pos=>
  have hd:decide (10 < (s.size:Int) - p)=true:=decide_eq_true ak
  have e1:(0≤p)=True:=eq_true hp0
  have e2:(p≤p + 10)=True:=eq_true ak
  have e3:(p + 10≤(s.size:Int))=True:=eq_true ak
  have e4:(0≤p + 10)=True:=eq_true ak
  have e5:(p + 10 < (s.size:Int))=True:=eq_true hr
  have hx:=dA s (p + 10)
  obtain ⟨X,hX⟩:∃ X,cS.g (s.extract p.toNat (p + 10).toNat)=X:=⟨_,rfl⟩
  have HX:=aa.mk hX
  have HC:=aa.mk (fun W=>cS.calls (s.extract p.toNat (p + 10).toNat) X W (by unfold cS.f;rw [if_pos,hX];simp;omega))
  clear hX
  cases hq:(X.toList == ([112,111,115,116,109,97,115,116,101,114]:List UInt8)) with
  |false=>
   have HA:=aa.mk (show pS s p=false by unfold pS;rw [HX.out,hq];simp)
   refine rE (n:=45) (S:=fun w'=>w'.cell? ⟨w.heap.size,0,none⟩=some (.pointer (some ⟨g,0,none⟩))∧w'.cell? ⟨g,0,none⟩=some (.string s)∧w'.cell? ⟨g,1,none⟩=some (.int .i64 p)∧aa (oW w0 w w' g s p)) (ds:=[]) #[false,false,false,false,false,false,false,false,false,false,false,false,false,false,false,false,false,false,false,false,false,false,false,false,false,false,false,false,false,false,false,false,false,false,false,false,false,false,false,false,false,false,false,false,false] aq (by rfl) (by rfl) ⟨hca,hc0,hc1,(aa.mk (HF.out.below (bf (Below.refl _ _))))⟩ (fun hHeld=>?_)
   refine cO (i:=10) (N:=some 18) (v:=?_) (a':=?_) #[false,false,false,false,false,false,false,false,false,false,true,false,false,false,false,false,false,false,false,false,false,false,false,false,false,false,false,false,false,false,false,false,false,false,false,false,false,false,false,false,false,false,false,false,false] rfl rfl aq (fun _ _ _ h=>h) (Or.inl ⟨by rfl,?_⟩) ?_ ?_
   rotate_left
   ·intro w'
    go_simp
    with_reducible rfl
   rotate_left
   ·simp only [Act.put,List.setIfInBounds_toArray,List.set_cons_zero,List.set_cons_succ,cU,dh]
    rfl
   refine ke (i:=0) (N:=some 8) (v:=?_) (a':=?_) #[true,false,false,false,false,false,false,false,false,false,true,false,false,false,false,false,false,false,false,false,false,false,false,false,false,false,false,false,false,false,false,false,false,false,false,false,false,false,false,false,false,false,false,false,false] rfl rfl aq (fun _ _ _ h=>h) (Or.inl ⟨by rfl,?_⟩) hHeld ?_ ?_
   rotate_left
   ·rintro w' ⟨s0,s1,s2,s3⟩
    go_simp
    with_reducible rfl
   rotate_left
   ·simp only [Act.put,List.setIfInBounds_toArray,List.set_cons_zero,List.set_cons_succ,cU,dh]
    rfl
   refine cO (i:=1) (N:=some 9) (v:=?_) (a':=?_) #[true,true,false,false,false,false,false,false,false,false,true,false,false,false,false,false,false,false,false,false,false,false,false,false,false,false,false,false,false,false,false,false,false,false,false,false,false,false,false,false,false,false,false,false,false] rfl rfl aq (fun _ _ _ h=>h) (Or.inl ⟨by rfl,?_⟩) ?_ ?_
   rotate_left
   ·intro w'
    go_simp
    with_reducible rfl
   rotate_left
   ·simp only [Act.put,List.setIfInBounds_toArray,List.set_cons_zero,List.set_cons_succ,cU,dh]
    rfl
   refine cO (i:=2) (N:=some 10) (v:=?_) (a':=?_) #[true,true,true,false,false,false,false,false,false,false,true,false,false,false,false,false,false,false,false,false,false,false,false,false,false,false,false,false,false,false,false,false,false,false,false,false,false,false,false,false,false,false,false,false,false] rfl rfl aq (fun _ _ _ h=>h) (Or.inl ⟨by rfl,?_⟩) ?_ ?_
   rotate_left
   ·intro w'
    go_simp
    with_reducible rfl
   rotate_left
   ·simp only [Act.put,List.setIfInBounds_toArray,List.set_cons_zero,List.set_cons_succ,cU,dh]
    rfl
   refine ke (i:=3) (N:=some 11) (v:=?_) (a':=?_) #[true,true,true,true,false,false,false,false,false,false,true,false,false,false,false,false,false,false,false,false,false,false,false,false,false,false,false,false,false,false,false,false,false,false,false,false,false,false,false,false,false,false,false,false,false] rfl rfl aq (fun _ _ _ h=>h) (Or.inl ⟨by rfl,?_⟩) hHeld ?_ ?_
   rotate_left
   ·rintro w' ⟨s0,s1,s2,s3⟩
    go_simp
    with_reducible rfl
   rotate_left
   ·simp only [Act.put,List.setIfInBounds_toArray,List.set_cons_zero,List.set_cons_succ,cU,dh]
    rfl
   refine cO (i:=4) (N:=some 12) (v:=?_) (a':=?_) #[true,true,true,true,true,false,false,false,false,false,true,false,false,false,false,false,false,false,false,false,false,false,false,false,false,false,false,false,false,false,false,false,false,false,false,false,false,false,false,false,false,false,false,false,false] rfl rfl aq (fun _ _ _ h=>h) (Or.inl ⟨by rfl,?_⟩) ?_ ?_
   rotate_left
   ·intro w'
    go_simp
    with_reducible rfl
   rotate_left
   ·simp only [Act.put,List.setIfInBounds_toArray,List.set_cons_zero,List.set_cons_succ,cU,dh]
    rfl
   refine ke (i:=5) (N:=some 13) (v:=?_) (a':=?_) #[true,true,true,true,true,true,false,false,false,false,true,false,false,false,false,false,false,false,false,false,false,false,false,false,false,false,false,false,false,false,false,false,false,false,false,false,false,false,false,false,false,false,false,false,false] rfl rfl aq (fun _ _ _ h=>h) (Or.inl ⟨by rfl,?_⟩) hHeld ?_ ?_
   rotate_left
   ·rintro w' ⟨s0,s1,s2,s3⟩
    go_simp
    with_reducible rfl
   rotate_left
   ·simp only [Act.put,List.setIfInBounds_toArray,List.set_cons_zero,List.set_cons_succ,cU,dh]
    rfl
   refine cO (i:=6) (N:=some 14) (v:=?_) (a':=?_) #[true,true,true,true,true,true,true,false,false,false,true,false,false,false,false,false,false,false,false,false,false,false,false,false,false,false,false,false,false,false,false,false,false,false,false,false,false,false,false,false,false,false,false,false,false] rfl rfl aq (fun _ _ _ h=>h) (Or.inl ⟨by rfl,?_⟩) ?_ ?_
   rotate_left
   ·intro w'
    go_simp
    with_reducible rfl
   rotate_left
   ·simp only [Act.put,List.setIfInBounds_toArray,List.set_cons_zero,List.set_cons_succ,cU,dh]
    rfl
   refine cO (i:=7) (N:=some 15) (v:=?_) (a':=?_) #[true,true,true,true,true,true,true,true,false,false,true,false,false,false,false,false,false,false,false,false,false,false,false,false,false,false,false,false,false,false,false,false,false,false,false,false,false,false,false,false,false,false,false,false,false] rfl rfl aq (fun _ _ _ h=>h) (Or.inl ⟨by rfl,?_⟩) ?_ ?_
   rotate_left
   ·intro w'
    go_simp
    with_reducible rfl
   rotate_left
   ·simp only [Act.put,List.setIfInBounds_toArray,List.set_cons_zero,List.set_cons_succ,cU,dh]
    rfl
   refine ke (i:=8) (N:=some 16) (v:=?_) (a':=?_) #[true,true,true,true,true,true,true,true,true,false,true,false,false,false,false,false,false,false,false,false,false,false,false,false,false,false,false,false,false,false,false,false,false,false,false,false,false,false,false,false,false,false,false,false,false] rfl rfl aq (fun _ _ _ h=>h) (Or.inl ⟨by rfl,?_⟩) hHeld ?_ ?_
   rotate_left
   ·rintro w' ⟨s0,s1,s2,s3⟩
    go_simp
    with_reducible rfl
   rotate_left
   ·simp only [Act.put,List.setIfInBounds_toArray,List.set_cons_zero,List.set_cons_succ,cU,dh]
    rfl
   refine cO (i:=9) (N:=some 17) (v:=?_) (a':=?_) #[true,true,true,true,true,true,true,true,true,true,true,false,false,false,false,false,false,false,false,false,false,false,false,false,false,false,false,false,false,false,false,false,false,false,false,false,false,false,false,false,false,false,false,false,false] rfl rfl aq (fun _ _ _ h=>h) (Or.inl ⟨by rfl,?_⟩) ?_ ?_
   rotate_left
   ·intro w'
    go_simp
    with_reducible rfl
   rotate_left
   ·simp only [Act.put,List.setIfInBounds_toArray,List.set_cons_zero,List.set_cons_succ,cU,dh]
    rfl
   refine cO (i:=11) (N:=some 19) (v:=?_) (a':=?_) #[true,true,true,true,true,true,true,true,true,true,true,true,false,false,false,false,false,false,false,false,false,false,false,false,false,false,false,false,false,false,false,false,false,false,false,false,false,false,false,false,false,false,false,false,false] rfl rfl aq (fun _ _ _ h=>h) (Or.inl ⟨by rfl,?_⟩) ?_ ?_
   rotate_left
   ·intro w'
    go_simp
    with_reducible rfl
   rotate_left
   ·simp only [Act.put,List.setIfInBounds_toArray,List.set_cons_zero,List.set_cons_succ,cU,dh]
    rfl
   refine cO (i:=12) (N:=some 20) (v:=?_) (a':=?_) #[true,true,true,true,true,true,true,true,true,true,true,true,true,false,false,false,false,false,false,false,false,false,false,false,false,false,false,false,false,false,false,false,false,false,false,false,false,false,false,false,false,false,false,false,false] rfl rfl aq (fun _ _ _ h=>h) (Or.inl ⟨by rfl,?_⟩) ?_ ?_
   rotate_left
   ·intro w'
    go_simp
    with_reducible rfl
   rotate_left
   ·simp only [Act.put,List.setIfInBounds_toArray,List.set_cons_zero,List.set_cons_succ,cU,dh]
    rfl
   refine cO (i:=25) (N:=some 33) (v:=?_) (a':=?_) #[true,true,true,true,true,true,true,true,true,true,true,true,true,false,false,false,false,false,false,false,false,false,false,false,false,true,false,false,false,false,false,false,false,false,false,false,false,false,false,false,false,false,false,false,false] rfl rfl aq (fun _ _ _ h=>h) (Or.inl ⟨by rfl,?_⟩) ?_ ?_
   rotate_left
   ·intro w'
    go_simp
    with_reducible rfl
   rotate_left
   ·simp only [Act.put,List.setIfInBounds_toArray,List.set_cons_zero,List.set_cons_succ,cU,dh]
    rfl
   refine ke (i:=13) (N:=some 21) (v:=?_) (a':=?_) #[true,true,true,true,true,true,true,true,true,true,true,true,true,true,false,false,false,false,false,false,false,false,false,false,false,true,false,false,false,false,false,false,false,false,false,false,false,false,false,false,false,false,false,false,false] rfl rfl aq (fun _ _ _ h=>h) (Or.inl ⟨by rfl,?_⟩) hHeld ?_ ?_
   rotate_left
   ·rintro w' ⟨s0,s1,s2,s3⟩
    go_simp
    with_reducible rfl
   rotate_left
   ·simp only [Act.put,List.setIfInBounds_toArray,List.set_cons_zero,List.set_cons_succ,cU,dh]
    rfl
   refine cO (i:=14) (N:=some 22) (v:=?_) (a':=?_) #[true,true,true,true,true,true,true,true,true,true,true,true,true,true,true,false,false,false,false,false,false,false,false,false,false,true,false,false,false,false,false,false,false,false,false,false,false,false,false,false,false,false,false,false,false] rfl rfl aq (fun _ _ _ h=>h) (Or.inl ⟨by rfl,?_⟩) ?_ ?_
   rotate_left
   ·intro w'
    go_simp
    with_reducible rfl
   rotate_left
   ·simp only [Act.put,List.setIfInBounds_toArray,List.set_cons_zero,List.set_cons_succ,cU,dh]
    rfl
   refine cO (i:=15) (N:=some 23) (v:=?_) (a':=?_) #[true,true,true,true,true,true,true,true,true,true,true,true,true,true,true,true,false,false,false,false,false,false,false,false,false,true,false,false,false,false,false,false,false,false,false,false,false,false,false,false,false,false,false,false,false] rfl rfl aq (fun _ _ _ h=>h) (Or.inl ⟨by rfl,?_⟩) ?_ ?_
   rotate_left
   ·intro w'
    go_simp
    with_reducible rfl
   rotate_left
   ·simp only [Act.put,List.setIfInBounds_toArray,List.set_cons_zero,List.set_cons_succ,cU,dh]
    rfl
   refine ke (i:=16) (N:=some 24) (v:=?_) (a':=?_) #[true,true,true,true,true,true,true,true,true,true,true,true,true,true,true,true,true,false,false,false,false,false,false,false,false,true,false,false,false,false,false,false,false,false,false,false,false,false,false,false,false,false,false,false,false] rfl rfl aq (fun _ _ _ h=>h) (Or.inl ⟨by rfl,?_⟩) hHeld ?_ ?_
   rotate_left
   ·rintro w' ⟨s0,s1,s2,s3⟩
    go_simp
    with_reducible rfl
   rotate_left
   ·simp only [Act.put,List.setIfInBounds_toArray,List.set_cons_zero,List.set_cons_succ,cU,dh]
    rfl
   refine ke (i:=17) (N:=some 25) (v:=?_) (a':=?_) #[true,true,true,true,true,true,true,true,true,true,true,true,true,true,true,true,true,true,false,false,false,false,false,false,false,true,false,false,false,false,false,false,false,false,false,false,false,false,false,false,false,false,false,false,false] rfl rfl aq (fun _ _ _ h=>h) (Or.inl ⟨by rfl,?_⟩) hHeld ?_ ?_
   rotate_left
   ·rintro w' ⟨s0,s1,s2,s3⟩
    go_simp
    with_reducible rfl
   rotate_left
   ·simp only [Act.put,List.setIfInBounds_toArray,List.set_cons_zero,List.set_cons_succ,cU,dh]
    rfl
   refine cO (i:=18) (N:=some 26) (v:=?_) (a':=?_) #[true,true,true,true,true,true,true,true,true,true,true,true,true,true,true,true,true,true,true,false,false,false,false,false,false,true,false,false,false,false,false,false,false,false,false,false,false,false,false,false,false,false,false,false,false] rfl rfl aq (fun _ _ _ h=>h) (Or.inl ⟨by rfl,?_⟩) ?_ ?_
   rotate_left
   ·intro w'
    go_simp
    with_reducible rfl
   rotate_left
   ·simp only [Act.put,List.setIfInBounds_toArray,List.set_cons_zero,List.set_cons_succ,cU,dh]
    rfl
   refine cO (i:=19) (N:=some 27) (v:=?_) (a':=?_) #[true,true,true,true,true,true,true,true,true,true,true,true,true,true,true,true,true,true,true,true,false,false,false,false,false,true,false,false,false,false,false,false,false,false,false,false,false,false,false,false,false,false,false,false,false] rfl rfl aq (fun _ _ _ h=>h) (Or.inl ⟨by rfl,?_⟩) ?_ ?_
   rotate_left
   ·intro w'
    go_simp
    with_reducible rfl
   rotate_left
   ·simp only [Act.put,List.setIfInBounds_toArray,List.set_cons_zero,List.set_cons_succ,cU,dh]
    rfl
   refine ke (i:=20) (N:=some 28) (v:=?_) (a':=?_) #[true,true,true,true,true,true,true,true,true,true,true,true,true,true,true,true,true,true,true,true,true,false,false,false,false,true,false,false,false,false,false,false,false,false,false,false,false,false,false,false,false,false,false,false,false] rfl rfl aq (fun _ _ _ h=>h) (Or.inl ⟨by rfl,?_⟩) hHeld ?_ ?_
   rotate_left
   ·rintro w' ⟨s0,s1,s2,s3⟩
    go_simp
    with_reducible rfl
   rotate_left
   ·simp only [Act.put,List.setIfInBounds_toArray,List.set_cons_zero,List.set_cons_succ,cU,dh]
    rfl
   refine ke (i:=21) (N:=some 29) (v:=?_) (a':=?_) #[true,true,true,true,true,true,true,true,true,true,true,true,true,true,true,true,true,true,true,true,true,true,false,false,false,true,false,false,false,false,false,false,false,false,false,false,false,false,false,false,false,false,false,false,false] rfl rfl aq (fun _ _ _ h=>h) (Or.inl ⟨by rfl,?_⟩) hHeld ?_ ?_
   rotate_left
   ·rintro w' ⟨s0,s1,s2,s3⟩
    go_simp
    with_reducible rfl
   rotate_left
   ·simp only [Act.put,List.setIfInBounds_toArray,List.set_cons_zero,List.set_cons_succ,cU,dh]
    rfl
   refine cO (i:=22) (N:=some 30) (v:=?_) (a':=?_) #[true,true,true,true,true,true,true,true,true,true,true,true,true,true,true,true,true,true,true,true,true,true,true,false,false,true,false,false,false,false,false,false,false,false,false,false,false,false,false,false,false,false,false,false,false] rfl rfl aq (fun _ _ _ h=>h) (Or.inl ⟨by rfl,?_⟩) ?_ ?_
   rotate_left
   ·intro w'
    go_simp
    with_reducible rfl
   rotate_left
   ·simp only [Act.put,List.setIfInBounds_toArray,List.set_cons_zero,List.set_cons_succ,cU,dh]
    rfl
   refine cO (i:=23) (N:=some 31) (v:=?_) (a':=?_) #[true,true,true,true,true,true,true,true,true,true,true,true,true,true,true,true,true,true,true,true,true,true,true,true,false,true,false,false,false,false,false,false,false,false,false,false,false,false,false,false,false,false,false,false,false] rfl rfl aq (fun _ _ _ h=>h) (Or.inl ⟨by rfl,?_⟩) ?_ ?_
   rotate_left
   ·intro w'
    go_simp
    with_reducible rfl
   rotate_left
   ·simp only [Act.put,List.setIfInBounds_toArray,List.set_cons_zero,List.set_cons_succ,cU,dh]
    rfl
   refine ke (i:=24) (N:=some 32) (v:=?_) (a':=?_) #[true,true,true,true,true,true,true,true,true,true,true,true,true,true,true,true,true,true,true,true,true,true,true,true,true,true,false,false,false,false,false,false,false,false,false,false,false,false,false,false,false,false,false,false,false] rfl rfl aq (fun _ _ _ h=>h) (Or.inl ⟨by rfl,?_⟩) hHeld ?_ ?_
   rotate_left
   ·rintro w' ⟨s0,s1,s2,s3⟩
    go_simp
    with_reducible rfl
   rotate_left
   ·simp only [Act.put,List.setIfInBounds_toArray,List.set_cons_zero,List.set_cons_succ,cU,dh]
    rfl
   refine cO (i:=26) (N:=some 34) (v:=?_) (a':=?_) #[true,true,true,true,true,true,true,true,true,true,true,true,true,true,true,true,true,true,true,true,true,true,true,true,true,true,true,false,false,false,false,false,false,false,false,false,false,false,false,false,false,false,false,false,false] rfl rfl aq (fun _ _ _ h=>h) (Or.inl ⟨by rfl,?_⟩) ?_ ?_
   rotate_left
   ·intro w'
    go_simp
    with_reducible rfl
   rotate_left
   ·simp only [Act.put,List.setIfInBounds_toArray,List.set_cons_zero,List.set_cons_succ,cU,dh]
    rfl
   refine cO (i:=27) (N:=some 35) (v:=?_) (a':=?_) #[true,true,true,true,true,true,true,true,true,true,true,true,true,true,true,true,true,true,true,true,true,true,true,true,true,true,true,true,false,false,false,false,false,false,false,false,false,false,false,false,false,false,false,false,false] rfl rfl aq (fun _ _ _ h=>h) (Or.inl ⟨by rfl,?_⟩) ?_ ?_
   rotate_left
   ·intro w'
    go_simp
    with_reducible rfl
   rotate_left
   ·simp only [Act.put,List.setIfInBounds_toArray,List.set_cons_zero,List.set_cons_succ,cU,dh]
    rfl
   refine zx (i:=28) (N:=some 36) #[true,true,true,true,true,true,true,true,true,true,true,true,true,true,true,true,true,true,true,true,true,true,true,true,true,true,true,true,true,false,false,false,false,false,false,false,false,false,false,false,false,false,false,false,false] rfl rfl aq bh (fun K hK=>?_)
   refine vV Tryz.func81 aq rfl #[.string (s.extract p.toNat (p + 10).toNat)] (by rfl) rfl rfl (by simp only [List.map_toArray,List.map_cons,List.map_nil];rfl) ?_
   with_reducible refine (HC.out _).mono ?_
   rintro e w3 ⟨rfl,hb⟩
   refine ⟨_,rfl,?_⟩
   have Ad:=aa.mk (oW.below hHeld.2.2.2.out hb)
   clear hb
   refine hK.out _ _ ⟨(ah Ad.out.ha 0).trans rfl,(ah Ad.out.st.1 0).trans rfl,(ah Ad.out.st.1 1).trans rfl,Ad⟩ (fun hHeld=>?_)
   clear hK K
   refine rL (a':=?_) ?_ ?_
   rotate_left
   ·show Act.put _ (some 36) _=_
    simp only [Act.put,List.setIfInBounds_toArray,List.set_cons_zero,List.set_cons_succ,cU,dh]
    rfl
   refine cO (i:=29) (N:=some 37) (v:=?_) (a':=?_) #[true,true,true,true,true,true,true,true,true,true,true,true,true,true,true,true,true,true,true,true,true,true,true,true,true,true,true,true,true,true,false,false,false,false,false,false,false,false,false,false,false,false,false,false,false] rfl rfl aq (fun _ _ _ h=>h) (Or.inl ⟨by rfl,?_⟩) ?_ ?_
   rotate_left
   ·intro w'
    go_simp
    with_reducible rfl
   rotate_left
   ·simp only [Act.put,List.setIfInBounds_toArray,List.set_cons_zero,List.set_cons_succ,cU,dh]
    rfl
   refine cO (i:=30) (N:=some 38) (v:=?_) (a':=?_) #[true,true,true,true,true,true,true,true,true,true,true,true,true,true,true,true,true,true,true,true,true,true,true,true,true,true,true,true,true,true,true,false,false,false,false,false,false,false,false,false,false,false,false,false,false] rfl rfl aq (fun _ _ _ h=>h) (Or.inl ⟨by rfl,?_⟩) ?_ ?_
   rotate_left
   ·intro w'
    go_simp
    with_reducible rfl
   rotate_left
   ·simp only [Act.put,List.setIfInBounds_toArray,List.set_cons_zero,List.set_cons_succ,cU,dh]
    rfl
   refine cO (i:=31) (N:=some 39) (v:=?_) (a':=?_) #[true,true,true,true,true,true,true,true,true,true,true,true,true,true,true,true,true,true,true,true,true,true,true,true,true,true,true,true,true,true,true,true,false,false,false,false,false,false,false,false,false,false,false,false,false] rfl rfl aq (fun _ _ _ h=>h) (Or.inl ⟨by rfl,?_⟩) ?_ ?_
   rotate_left
   ·intro w'
    go_simp
    with_reducible rfl
   rotate_left
   ·simp only [Act.put,List.setIfInBounds_toArray,List.set_cons_zero,List.set_cons_succ,cU,dh]
    rfl
   refine cO (i:=32) (N:=some 40) (v:=undef) (a':=?_) #[true,true,true,true,true,true,true,true,true,true,true,true,true,true,true,true,true,true,true,true,true,true,true,true,true,true,true,true,true,true,true,true,true,false,false,false,false,false,false,false,false,false,false,false,false] rfl rfl aq (fun _ _ _ h=>h) (Or.inr ⟨by rfl,rfl⟩) ?_ ?_
   rotate_left
   ·simp only [Act.put,List.setIfInBounds_toArray,List.set_cons_zero,List.set_cons_succ,cU,dh]
    rfl
   refine cO (i:=33) (N:=some 41) (v:=undef) (a':=?_) #[true,true,true,true,true,true,true,true,true,true,true,true,true,true,true,true,true,true,true,true,true,true,true,true,true,true,true,true,true,true,true,true,true,true,false,false,false,false,false,false,false,false,false,false,false] rfl rfl aq (fun _ _ _ h=>h) (Or.inr ⟨by rfl,rfl⟩) ?_ ?_
   rotate_left
   ·simp only [Act.put,List.setIfInBounds_toArray,List.set_cons_zero,List.set_cons_succ,cU,dh]
    rfl
   refine cO (i:=34) (N:=some 42) (v:=undef) (a':=?_) #[true,true,true,true,true,true,true,true,true,true,true,true,true,true,true,true,true,true,true,true,true,true,true,true,true,true,true,true,true,true,true,true,true,true,true,false,false,false,false,false,false,false,false,false,false] rfl rfl aq (fun _ _ _ h=>h) (Or.inr ⟨by rfl,rfl⟩) ?_ ?_
   rotate_left
   ·simp only [Act.put,List.setIfInBounds_toArray,List.set_cons_zero,List.set_cons_succ,cU,dh]
    rfl
   refine cO (i:=35) (N:=some 43) (v:=undef) (a':=?_) #[true,true,true,true,true,true,true,true,true,true,true,true,true,true,true,true,true,true,true,true,true,true,true,true,true,true,true,true,true,true,true,true,true,true,true,true,false,false,false,false,false,false,false,false,false] rfl rfl aq (fun _ _ _ h=>h) (Or.inr ⟨by rfl,rfl⟩) ?_ ?_
   rotate_left
   ·simp only [Act.put,List.setIfInBounds_toArray,List.set_cons_zero,List.set_cons_succ,cU,dh]
    rfl
   refine cO (i:=36) (N:=some 44) (v:=undef) (a':=?_) #[true,true,true,true,true,true,true,true,true,true,true,true,true,true,true,true,true,true,true,true,true,true,true,true,true,true,true,true,true,true,true,true,true,true,true,true,true,false,false,false,false,false,false,false,false] rfl rfl aq (fun _ _ _ h=>h) (Or.inr ⟨by rfl,rfl⟩) ?_ ?_
   rotate_left
   ·simp only [Act.put,List.setIfInBounds_toArray,List.set_cons_zero,List.set_cons_succ,cU,dh]
    rfl
   refine cO (i:=37) (N:=some 45) (v:=undef) (a':=?_) #[true,true,true,true,true,true,true,true,true,true,true,true,true,true,true,true,true,true,true,true,true,true,true,true,true,true,true,true,true,true,true,true,true,true,true,true,true,true,false,false,false,false,false,false,false] rfl rfl aq (fun _ _ _ h=>h) (Or.inr ⟨by rfl,rfl⟩) ?_ ?_
   rotate_left
   ·simp only [Act.put,List.setIfInBounds_toArray,List.set_cons_zero,List.set_cons_succ,cU,dh]
    rfl
   refine cO (i:=38) (N:=some 46) (v:=undef) (a':=?_) #[true,true,true,true,true,true,true,true,true,true,true,true,true,true,true,true,true,true,true,true,true,true,true,true,true,true,true,true,true,true,true,true,true,true,true,true,true,true,true,false,false,false,false,false,false] rfl rfl aq (fun _ _ _ h=>h) (Or.inr ⟨by rfl,rfl⟩) ?_ ?_
   rotate_left
   ·simp only [Act.put,List.setIfInBounds_toArray,List.set_cons_zero,List.set_cons_succ,cU,dh]
    rfl
   refine cO (i:=39) (N:=some 47) (v:=undef) (a':=?_) #[true,true,true,true,true,true,true,true,true,true,true,true,true,true,true,true,true,true,true,true,true,true,true,true,true,true,true,true,true,true,true,true,true,true,true,true,true,true,true,true,false,false,false,false,false] rfl rfl aq (fun _ _ _ h=>h) (Or.inr ⟨by rfl,rfl⟩) ?_ ?_
   rotate_left
   ·simp only [Act.put,List.setIfInBounds_toArray,List.set_cons_zero,List.set_cons_succ,cU,dh]
    rfl
   refine cO (i:=40) (N:=some 48) (v:=undef) (a':=?_) #[true,true,true,true,true,true,true,true,true,true,true,true,true,true,true,true,true,true,true,true,true,true,true,true,true,true,true,true,true,true,true,true,true,true,true,true,true,true,true,true,true,false,false,false,false] rfl rfl aq (fun _ _ _ h=>h) (Or.inr ⟨by rfl,rfl⟩) ?_ ?_
   rotate_left
   ·simp only [Act.put,List.setIfInBounds_toArray,List.set_cons_zero,List.set_cons_succ,cU,dh]
    rfl
   refine cO (i:=41) (N:=some 49) (v:=undef) (a':=?_) #[true,true,true,true,true,true,true,true,true,true,true,true,true,true,true,true,true,true,true,true,true,true,true,true,true,true,true,true,true,true,true,true,true,true,true,true,true,true,true,true,true,true,false,false,false] rfl rfl aq (fun _ _ _ h=>h) (Or.inr ⟨by rfl,rfl⟩) ?_ ?_
   rotate_left
   ·simp only [Act.put,List.setIfInBounds_toArray,List.set_cons_zero,List.set_cons_succ,cU,dh]
    rfl
   refine cO (i:=42) (N:=some 50) (v:=undef) (a':=?_) #[true,true,true,true,true,true,true,true,true,true,true,true,true,true,true,true,true,true,true,true,true,true,true,true,true,true,true,true,true,true,true,true,true,true,true,true,true,true,true,true,true,true,true,false,false] rfl rfl aq (fun _ _ _ h=>h) (Or.inr ⟨by rfl,rfl⟩) ?_ ?_
   rotate_left
   ·simp only [Act.put,List.setIfInBounds_toArray,List.set_cons_zero,List.set_cons_succ,cU,dh]
    rfl
   refine cO (i:=43) (N:=some 51) (v:=undef) (a':=?_) #[true,true,true,true,true,true,true,true,true,true,true,true,true,true,true,true,true,true,true,true,true,true,true,true,true,true,true,true,true,true,true,true,true,true,true,true,true,true,true,true,true,true,true,true,false] rfl rfl aq (fun _ _ _ h=>h) (Or.inr ⟨by rfl,rfl⟩) ?_ ?_
   rotate_left
   ·simp only [Act.put,List.setIfInBounds_toArray,List.set_cons_zero,List.set_cons_succ,cU,dh]
    rfl
   refine cO (i:=44) (N:=some 52) (v:=?_) (a':=?_) #[true,true,true,true,true,true,true,true,true,true,true,true,true,true,true,true,true,true,true,true,true,true,true,true,true,true,true,true,true,true,true,true,true,true,true,true,true,true,true,true,true,true,true,true,true] rfl rfl aq (fun _ _ _ h=>h) (Or.inl ⟨by rfl,?_⟩) ?_ ?_
   rotate_left
   ·intro w'
    go_simp
    with_reducible rfl
   rotate_left
   ·simp only [Act.put,List.setIfInBounds_toArray,List.set_cons_zero,List.set_cons_succ,cU,dh]
    rfl
   refine vU aq ?_
   have H2:=aa.mk (show cX.f2 k s p=some (r1,r2,r3,r4,r5,r6,r7,r8) from (if_neg (by rw [HA.out];decide)).symm.trans HH.out)
   clear HA HH
   have HE:=aa.mk Ad.out.held
   have afT:=HE.out.ca
   have h:=H2.out
   clear H2
   unfold cX.f2 at h
   obtain ⟨⟨c1,c2,c3⟩,A1,h⟩:=Option.bind_eq_some_iff.mp h
   dsimp only at A1 h
   have Hs:=aa.mk A1
   clear A1
   cases h64:(c1 == 64) with
   |false=>
    rw [if_neg xU] at h
    unfold cX.f3 at h
    obtain ⟨⟨m1,m2,m3,m4,m5,m6⟩,Ab,h⟩:=Option.bind_eq_some_iff.mp h
    dsimp only at Ab h
    simp only [Option.some.injEq,Prod.mk.injEq] at h
    obtain ⟨rfl,rfl,rfl,rfl,rfl,rfl,rfl,rfl⟩:=h
    have VJ:=aa.mk Ab
    clear Ab
    go_wp2_with (first
     |(go_at_call 115;refine (dD.calls g s p c1 c2 c3 w0 _ HE.out.st HE.out.bl Hs.out).mono ?_;rintro e w4 ⟨rfl,hi,hb,hk⟩;have uz:=aa.mk (HE.out.call hi hb hk);have Fv:=uz.out.ca;clear hi hb hk)
     |(go_at_call 71;refine (cA.calls k g c2 c3 m1 m2 m3 m4 m5 m6 w0 _ uz.out.st uz.out.bl HG.out VJ.out).mono ?_;rintro e w9 ⟨rfl,hi,hb,hk⟩;have iG:=aa.mk (uz.out.call hi hb hk);have VK:=iG.out.fb 0;have VL:=iG.out.fb 1;have VM:=iG.out.fb 2;have VN:=iG.out.fb 3;have VO:=iG.out.fb 4;have VP:w9.cell? ⟨w3.heap.size,0,none⟩=some (Value.bool false):=(ah iG.out.hb 0).trans rfl;have VQ:w9.cell? ⟨w3.heap.size,1,none⟩=some (Value.slice none 0 0):=(ah iG.out.hb 1).trans rfl;have VR:w9.cell? ⟨w3.heap.size,2,none⟩=some (Value.string ⟨#[]⟩):=(ah iG.out.hb 2).trans rfl;have VS:w9.cell? ⟨w3.heap.size,3,none⟩=some (Value.string ⟨#[]⟩):=(ah iG.out.hb 3).trans rfl;have VT:w9.cell? ⟨w3.heap.size,4,none⟩=some (Value.bool false):=(ah iG.out.hb 4).trans rfl;have Dq:=af iG.out.hc 0;have Dr:=af iG.out.hc 1;have Ds:=af iG.out.hc 2;have Dt:=af iG.out.hc 3;have Du:=af iG.out.hc 4;have Dv:w9.cell? ⟨w.heap.size + 1,0,none⟩=some (Value.bool false):=(ah iG.out.hc 0).trans rfl;have Dw:w9.cell? ⟨w.heap.size + 1,1,none⟩=some (Value.slice none 0 0):=(ah iG.out.hc 1).trans rfl;have Dx:w9.cell? ⟨w.heap.size + 1,2,none⟩=some (Value.string ⟨#[]⟩):=(ah iG.out.hc 2).trans rfl;have Dy:w9.cell? ⟨w.heap.size + 1,3,none⟩=some (Value.string ⟨#[]⟩):=(ah iG.out.hc 3).trans rfl;have Dz:w9.cell? ⟨w.heap.size + 1,4,none⟩=some (Value.bool false):=(ah iG.out.hc 4).trans rfl;have hnb:w.heap.size + 1≠w3.heap.size:=Nat.ne_of_lt iG.out.gb;have VU:w3.heap.size≠w.heap.size + 1:=(Nat.ne_of_lt iG.out.gb).symm;clear hi hb hk))
    have H8:=iG.out.box (.string m1) (.string m2) (.bool m3) rfl
    have H9:=qi (.bool false) (.slice none 0 0) (.string m1) (.string m2) (.bool m3) H8.2.1 H8.2.2.1 H8.2.2.2.1 iG.out.sz (Nat.le_succ _) H8.2.2.2.2.2 rfl
    refine bodyPost_ret (eY rfl _ _ (w.heap.size + 1) 32 #[.bool false,.slice none 0 0,.string m1,.string m2,.bool m3] (0,0) _ rfl H9.1 Tryz.underlying32 rfl aq) rfl ?_
    exact ⟨_,rfl,H9.2.2.2.2 _ _ H8.2.2.2.2.1,H9.2.1,H9.2.2.1,H9.2.2.2.1⟩
   |true=>
    rw [if_pos xU] at h
    obtain ⟨⟨l1,l2,l3,l4⟩,A2,h⟩:=Option.bind_eq_some_iff.mp h
    dsimp only at A2 h
    have Nr:=aa.mk A2
    clear A2
    cases l1 with
    |false=>
     rw [if_neg bh] at h
     simp only [Option.some.injEq,Prod.mk.injEq] at h
     obtain ⟨rfl,rfl,rfl,rfl,rfl,rfl,rfl,rfl⟩:=h
     go_wp2_with (first
      |(go_at_call 115;refine (dD.calls g s p c1 c2 c3 w0 _ HE.out.st HE.out.bl Hs.out).mono ?_;rintro e w4 ⟨rfl,hi,hb,hk⟩;have uz:=aa.mk (HE.out.call hi hb hk);have Fv:=uz.out.ca;clear hi hb hk)
      |(go_at_call 67;refine (dB.calls k g _ _ c2 c3 _ [] false l2 l3 l4 w0 w _ uz.out Nr.out).mono ?_;rintro e w5 ⟨rfl,v5,h5⟩;have mH:=aa.mk h5;have Mb:=mH.out.ca;clear h5;have Dq:=af mH.out.hc 0;have Dr:=af mH.out.hc 1;have Ds:=af mH.out.hc 2;have Dt:=af mH.out.hc 3;have Du:=af mH.out.hc 4;have Dv:w5.cell? ⟨w.heap.size + 1,0,none⟩=some (Value.bool false):=(ah mH.out.hc 0).trans rfl;have Dw:w5.cell? ⟨w.heap.size + 1,1,none⟩=some (Value.slice none 0 0):=(ah mH.out.hc 1).trans rfl;have Dx:w5.cell? ⟨w.heap.size + 1,2,none⟩=some (Value.string ⟨#[]⟩):=(ah mH.out.hc 2).trans rfl;have Dy:w5.cell? ⟨w.heap.size + 1,3,none⟩=some (Value.string ⟨#[]⟩):=(ah mH.out.hc 3).trans rfl;have Dz:w5.cell? ⟨w.heap.size + 1,4,none⟩=some (Value.bool false):=(ah mH.out.hc 4).trans rfl))
     have H9:=qi (W:=w5) (.bool false) (.slice none 0 0) (.string ⟨#[]⟩) (.string ⟨#[]⟩) (.bool false) mH.out.st mH.out.bl mH.out.kp mH.out.sz (Nat.le_succ _) mH.out.hc rfl
     refine bodyPost_ret (eY rfl _ _ (w.heap.size + 1) 32 #[.bool false,.slice none 0 0,.string ⟨#[]⟩,.string ⟨#[]⟩,.bool false] (0,0) _ rfl H9.1 Tryz.underlying32 rfl aq) rfl ?_
     exact ⟨_,rfl,Kd.vQ _ _ _ _ _,H9.2.1,H9.2.2.1,H9.2.2.2.1⟩
    |true=>
     rw [if_pos rfl] at h
     obtain ⟨⟨u1,u2,u3⟩,A3,h⟩:=Option.bind_eq_some_iff.mp h
     dsimp only at A3 h
     have HA3:=aa.mk A3
     clear A3
     cases u1 with
     |false=>
      rw [if_neg bh] at h
      simp only [Option.some.injEq,Prod.mk.injEq] at h
      obtain ⟨rfl,rfl,rfl,rfl,rfl,rfl,rfl,rfl⟩:=h
      go_wp2_with (first
       |(go_at_call 115;refine (dD.calls g s p c1 c2 c3 w0 _ HE.out.st HE.out.bl Hs.out).mono ?_;rintro e w4 ⟨rfl,hi,hb,hk⟩;have uz:=aa.mk (HE.out.call hi hb hk);have Fv:=uz.out.ca;clear hi hb hk)
       |(go_at_call 67;refine (dB.calls k g _ _ c2 c3 _ [] true l2 l3 l4 w0 w _ uz.out Nr.out).mono ?_;rintro e w5 ⟨rfl,v5,h5⟩;have mH:=aa.mk h5;have Mb:=mH.out.ca;clear h5)
       |(go_at_call 56;refine (bV.calls g l2 l3 58 false u2 u3 w0 _ mH.out.st mH.out.bl HA3.out).mono ?_;rintro e w6 ⟨rfl,hi,hb,hk⟩;have oD:=aa.mk (mH.out.call hi hb hk);have VV:=oD.out.ca;clear hi hb hk;have Dq:=af oD.out.hc 0;have Dr:=af oD.out.hc 1;have Ds:=af oD.out.hc 2;have Dt:=af oD.out.hc 3;have Du:=af oD.out.hc 4;have Dv:w6.cell? ⟨w.heap.size + 1,0,none⟩=some (Value.bool false):=(ah oD.out.hc 0).trans rfl;have Dw:w6.cell? ⟨w.heap.size + 1,1,none⟩=some (Value.slice none 0 0):=(ah oD.out.hc 1).trans rfl;have Dx:w6.cell? ⟨w.heap.size + 1,2,none⟩=some (Value.string ⟨#[]⟩):=(ah oD.out.hc 2).trans rfl;have Dy:w6.cell? ⟨w.heap.size + 1,3,none⟩=some (Value.string ⟨#[]⟩):=(ah oD.out.hc 3).trans rfl;have Dz:w6.cell? ⟨w.heap.size + 1,4,none⟩=some (Value.bool false):=(ah oD.out.hc 4).trans rfl))
      have H9:=qi (W:=w6) (.bool false) (.slice none 0 0) (.string ⟨#[]⟩) (.string ⟨#[]⟩) (.bool false) oD.out.st oD.out.bl oD.out.kp oD.out.sz (Nat.le_succ _) oD.out.hc rfl
      refine bodyPost_ret (eY rfl _ _ (w.heap.size + 1) 32 #[.bool false,.slice none 0 0,.string ⟨#[]⟩,.string ⟨#[]⟩,.bool false] (0,0) _ rfl H9.1 Tryz.underlying32 rfl aq) rfl ?_
      exact ⟨_,rfl,Kd.vQ _ _ _ _ _,H9.2.1,H9.2.2.1,H9.2.2.2.1⟩
     |true=>
      rw [if_pos rfl] at h
      unfold cX.f3 at h
      obtain ⟨⟨m1,m2,m3,m4,m5,m6⟩,Ab,h⟩:=Option.bind_eq_some_iff.mp h
      dsimp only at Ab h
      simp only [Option.some.injEq,Prod.mk.injEq] at h
      obtain ⟨rfl,rfl,rfl,rfl,rfl,rfl,rfl,rfl⟩:=h
      have VJ:=aa.mk Ab
      clear Ab
      go_wp2_with (first
       |(go_at_call 115;refine (dD.calls g s p c1 c2 c3 w0 _ HE.out.st HE.out.bl Hs.out).mono ?_;rintro e w4 ⟨rfl,hi,hb,hk⟩;have uz:=aa.mk (HE.out.call hi hb hk);have Fv:=uz.out.ca;clear hi hb hk)
       |(go_at_call 67;refine (dB.calls k g _ _ c2 c3 _ [] true l2 l3 l4 w0 w _ uz.out Nr.out).mono ?_;rintro e w5 ⟨rfl,v5,h5⟩;have mH:=aa.mk h5;have Mb:=mH.out.ca;clear h5)
       |(go_at_call 56;refine (bV.calls g l2 l3 58 true u2 u3 w0 _ mH.out.st mH.out.bl HA3.out).mono ?_;rintro e w6 ⟨rfl,hi,hb,hk⟩;have oD:=aa.mk (mH.out.call hi hb hk);have VV:=oD.out.ca;clear hi hb hk)
       |(go_at_call 71;refine (cA.calls k g u2 u3 m1 m2 m3 m4 m5 m6 w0 _ oD.out.st oD.out.bl HG.out VJ.out).mono ?_;rintro e w9 ⟨rfl,hi,hb,hk⟩;have iG:=aa.mk (oD.out.call hi hb hk);obtain ⟨A9,c9,e9⟩:=Kd.gQ iG.out.hr;subst e9;have VK:=iG.out.fb 0;have VL:=iG.out.fb 1;have VM:=iG.out.fb 2;have VN:=iG.out.fb 3;have VO:=iG.out.fb 4;have VP:w9.cell? ⟨w3.heap.size,0,none⟩=some (Value.bool false):=(ah iG.out.hb 0).trans rfl;have VQ:w9.cell? ⟨w3.heap.size,1,none⟩=some (Value.slice A9 l4.length c9):=(ah iG.out.hb 1).trans rfl;have VR:w9.cell? ⟨w3.heap.size,2,none⟩=some (Value.string ⟨#[]⟩):=(ah iG.out.hb 2).trans rfl;have VS:w9.cell? ⟨w3.heap.size,3,none⟩=some (Value.string ⟨#[]⟩):=(ah iG.out.hb 3).trans rfl;have VT:w9.cell? ⟨w3.heap.size,4,none⟩=some (Value.bool false):=(ah iG.out.hb 4).trans rfl;have Dq:=af iG.out.hc 0;have Dr:=af iG.out.hc 1;have Ds:=af iG.out.hc 2;have Dt:=af iG.out.hc 3;have Du:=af iG.out.hc 4;have Dv:w9.cell? ⟨w.heap.size + 1,0,none⟩=some (Value.bool false):=(ah iG.out.hc 0).trans rfl;have Dw:w9.cell? ⟨w.heap.size + 1,1,none⟩=some (Value.slice none 0 0):=(ah iG.out.hc 1).trans rfl;have Dx:w9.cell? ⟨w.heap.size + 1,2,none⟩=some (Value.string ⟨#[]⟩):=(ah iG.out.hc 2).trans rfl;have Dy:w9.cell? ⟨w.heap.size + 1,3,none⟩=some (Value.string ⟨#[]⟩):=(ah iG.out.hc 3).trans rfl;have Dz:w9.cell? ⟨w.heap.size + 1,4,none⟩=some (Value.bool false):=(ah iG.out.hc 4).trans rfl;have hnb:w.heap.size + 1≠w3.heap.size:=Nat.ne_of_lt iG.out.gb;have VU:w3.heap.size≠w.heap.size + 1:=(Nat.ne_of_lt iG.out.gb).symm;clear hi hb hk))
      have H8:=iG.out.box (.string m1) (.string m2) (.bool m3) rfl
      have H9:=qi (.bool false) (.slice A9 l4.length c9) (.string m1) (.string m2) (.bool m3) H8.2.1 H8.2.2.1 H8.2.2.2.1 iG.out.sz (Nat.le_succ _) H8.2.2.2.2.2 rfl
      refine bodyPost_ret (eY rfl _ _ (w.heap.size + 1) 32 #[.bool false,.slice A9 l4.length c9,.string m1,.string m2,.bool m3] (0,0) _ rfl H9.1 Tryz.underlying32 rfl aq) rfl ?_
      exact ⟨_,rfl,H9.2.2.2.2 _ _ H8.2.2.2.2.1,H9.2.1,H9.2.2.1,H9.2.2.2.1⟩
  |true=>
   cases h62:(bt s (p + 10) == 62) with
   |false=>
    have HA:=aa.mk (show pS s p=false by unfold pS;rw [HX.out,hq,h62];simp)
    go_region_held3 (fun w'=>w'.cell? ⟨w.heap.size,0,none⟩=some (.pointer (some ⟨g,0,none⟩))∧w'.cell? ⟨g,0,none⟩=some (.string s)∧w'.cell? ⟨g,1,none⟩=some (.int .i64 p)∧aa (oW w0 w w' g s p)) (first|exact ⟨hca,hc0,hc1,aa.mk (HF.out.below (bf (Below.refl _ _)))⟩|(refine ⟨?_,?_,?_,?_⟩<;>assumption))
     (first|(go_at_call 81;obtain ⟨_,_,_,hF⟩:=‹_∧_∧_∧aa (oW w0 w _ g s p)›;refine (HC.out _).mono ?_;rintro e w3 ⟨rfl,hb⟩;have hF3:=oW.below hF.out hb;have Ad:=aa.mk hF3;clear hF hF3;have ao8:w3.cell? ⟨w.heap.size,0,none⟩=some (.pointer (some ⟨g,0,none⟩)):=(ah Ad.out.ha 0).trans rfl;have ao9:w3.cell? ⟨g,0,none⟩=some (.string s):=(ah Ad.out.st.1 0).trans rfl;have apa:w3.cell? ⟨g,1,none⟩=some (.int .i64 p):=(ah Ad.out.st.1 1).trans rfl;clear hb))
    have H2:=aa.mk (show cX.f2 k s p=some (r1,r2,r3,r4,r5,r6,r7,r8) from (if_neg (by rw [HA.out];decide)).symm.trans HH.out)
    clear HA HH
    have HE:=aa.mk Ad.out.held
    have afT:=HE.out.ca
    have h:=H2.out
    clear H2
    unfold cX.f2 at h
    obtain ⟨⟨c1,c2,c3⟩,A1,h⟩:=Option.bind_eq_some_iff.mp h
    dsimp only at A1 h
    have Hs:=aa.mk A1
    clear A1
    cases h64:(c1 == 64) with
    |false=>
     rw [if_neg xU] at h
     unfold cX.f3 at h
     obtain ⟨⟨m1,m2,m3,m4,m5,m6⟩,Ab,h⟩:=Option.bind_eq_some_iff.mp h
     dsimp only at Ab h
     simp only [Option.some.injEq,Prod.mk.injEq] at h
     obtain ⟨rfl,rfl,rfl,rfl,rfl,rfl,rfl,rfl⟩:=h
     have VJ:=aa.mk Ab
     clear Ab
     go_wp2_with (first
      |(go_at_call 115;refine (dD.calls g s p c1 c2 c3 w0 _ HE.out.st HE.out.bl Hs.out).mono ?_;rintro e w4 ⟨rfl,hi,hb,hk⟩;have uz:=aa.mk (HE.out.call hi hb hk);have Fv:=uz.out.ca;clear hi hb hk)
      |(go_at_call 71;refine (cA.calls k g c2 c3 m1 m2 m3 m4 m5 m6 w0 _ uz.out.st uz.out.bl HG.out VJ.out).mono ?_;rintro e w9 ⟨rfl,hi,hb,hk⟩;have iG:=aa.mk (uz.out.call hi hb hk);have VK:=iG.out.fb 0;have VL:=iG.out.fb 1;have VM:=iG.out.fb 2;have VN:=iG.out.fb 3;have VO:=iG.out.fb 4;have VP:w9.cell? ⟨w3.heap.size,0,none⟩=some (Value.bool false):=(ah iG.out.hb 0).trans rfl;have VQ:w9.cell? ⟨w3.heap.size,1,none⟩=some (Value.slice none 0 0):=(ah iG.out.hb 1).trans rfl;have VR:w9.cell? ⟨w3.heap.size,2,none⟩=some (Value.string ⟨#[]⟩):=(ah iG.out.hb 2).trans rfl;have VS:w9.cell? ⟨w3.heap.size,3,none⟩=some (Value.string ⟨#[]⟩):=(ah iG.out.hb 3).trans rfl;have VT:w9.cell? ⟨w3.heap.size,4,none⟩=some (Value.bool false):=(ah iG.out.hb 4).trans rfl;have Dq:=af iG.out.hc 0;have Dr:=af iG.out.hc 1;have Ds:=af iG.out.hc 2;have Dt:=af iG.out.hc 3;have Du:=af iG.out.hc 4;have Dv:w9.cell? ⟨w.heap.size + 1,0,none⟩=some (Value.bool false):=(ah iG.out.hc 0).trans rfl;have Dw:w9.cell? ⟨w.heap.size + 1,1,none⟩=some (Value.slice none 0 0):=(ah iG.out.hc 1).trans rfl;have Dx:w9.cell? ⟨w.heap.size + 1,2,none⟩=some (Value.string ⟨#[]⟩):=(ah iG.out.hc 2).trans rfl;have Dy:w9.cell? ⟨w.heap.size + 1,3,none⟩=some (Value.string ⟨#[]⟩):=(ah iG.out.hc 3).trans rfl;have Dz:w9.cell? ⟨w.heap.size + 1,4,none⟩=some (Value.bool false):=(ah iG.out.hc 4).trans rfl;have hnb:w.heap.size + 1≠w3.heap.size:=Nat.ne_of_lt iG.out.gb;have VU:w3.heap.size≠w.heap.size + 1:=(Nat.ne_of_lt iG.out.gb).symm;clear hi hb hk))
     have H8:=iG.out.box (.string m1) (.string m2) (.bool m3) rfl
     have H9:=qi (.bool false) (.slice none 0 0) (.string m1) (.string m2) (.bool m3) H8.2.1 H8.2.2.1 H8.2.2.2.1 iG.out.sz (Nat.le_succ _) H8.2.2.2.2.2 rfl
     refine bodyPost_ret (eY rfl _ _ (w.heap.size + 1) 32 #[.bool false,.slice none 0 0,.string m1,.string m2,.bool m3] (0,0) _ rfl H9.1 Tryz.underlying32 rfl aq) rfl ?_
     exact ⟨_,rfl,H9.2.2.2.2 _ _ H8.2.2.2.2.1,H9.2.1,H9.2.2.1,H9.2.2.2.1⟩
    |true=>
     rw [if_pos xU] at h
     obtain ⟨⟨l1,l2,l3,l4⟩,A2,h⟩:=Option.bind_eq_some_iff.mp h
     dsimp only at A2 h
     have Nr:=aa.mk A2
     clear A2
     cases l1 with
     |false=>
      rw [if_neg bh] at h
      simp only [Option.some.injEq,Prod.mk.injEq] at h
      obtain ⟨rfl,rfl,rfl,rfl,rfl,rfl,rfl,rfl⟩:=h
      go_wp2_with (first
       |(go_at_call 115;refine (dD.calls g s p c1 c2 c3 w0 _ HE.out.st HE.out.bl Hs.out).mono ?_;rintro e w4 ⟨rfl,hi,hb,hk⟩;have uz:=aa.mk (HE.out.call hi hb hk);have Fv:=uz.out.ca;clear hi hb hk)
       |(go_at_call 67;refine (dB.calls k g _ _ c2 c3 _ [] false l2 l3 l4 w0 w _ uz.out Nr.out).mono ?_;rintro e w5 ⟨rfl,v5,h5⟩;have mH:=aa.mk h5;have Mb:=mH.out.ca;clear h5;have Dq:=af mH.out.hc 0;have Dr:=af mH.out.hc 1;have Ds:=af mH.out.hc 2;have Dt:=af mH.out.hc 3;have Du:=af mH.out.hc 4;have Dv:w5.cell? ⟨w.heap.size + 1,0,none⟩=some (Value.bool false):=(ah mH.out.hc 0).trans rfl;have Dw:w5.cell? ⟨w.heap.size + 1,1,none⟩=some (Value.slice none 0 0):=(ah mH.out.hc 1).trans rfl;have Dx:w5.cell? ⟨w.heap.size + 1,2,none⟩=some (Value.string ⟨#[]⟩):=(ah mH.out.hc 2).trans rfl;have Dy:w5.cell? ⟨w.heap.size + 1,3,none⟩=some (Value.string ⟨#[]⟩):=(ah mH.out.hc 3).trans rfl;have Dz:w5.cell? ⟨w.heap.size + 1,4,none⟩=some (Value.bool false):=(ah mH.out.hc 4).trans rfl))
      have H9:=qi (W:=w5) (.bool false) (.slice none 0 0) (.string ⟨#[]⟩) (.string ⟨#[]⟩) (.bool false) mH.out.st mH.out.bl mH.out.kp mH.out.sz (Nat.le_succ _) mH.out.hc rfl
      refine bodyPost_ret (eY rfl _ _ (w.heap.size + 1) 32 #[.bool false,.slice none 0 0,.string ⟨#[]⟩,.string ⟨#[]⟩,.bool false] (0,0) _ rfl H9.1 Tryz.underlying32 rfl aq) rfl ?_
      exact ⟨_,rfl,Kd.vQ _ _ _ _ _,H9.2.1,H9.2.2.1,H9.2.2.2.1⟩
     |true=>
      rw [if_pos rfl] at h
      obtain ⟨⟨u1,u2,u3⟩,A3,h⟩:=Option.bind_eq_some_iff.mp h
      dsimp only at A3 h
      have HA3:=aa.mk A3
      clear A3
      cases u1 with
      |false=>
       rw [if_neg bh] at h
       simp only [Option.some.injEq,Prod.mk.injEq] at h
       obtain ⟨rfl,rfl,rfl,rfl,rfl,rfl,rfl,rfl⟩:=h
       go_wp2_with (first
        |(go_at_call 115;refine (dD.calls g s p c1 c2 c3 w0 _ HE.out.st HE.out.bl Hs.out).mono ?_;rintro e w4 ⟨rfl,hi,hb,hk⟩;have uz:=aa.mk (HE.out.call hi hb hk);have Fv:=uz.out.ca;clear hi hb hk)
        |(go_at_call 67;refine (dB.calls k g _ _ c2 c3 _ [] true l2 l3 l4 w0 w _ uz.out Nr.out).mono ?_;rintro e w5 ⟨rfl,v5,h5⟩;have mH:=aa.mk h5;have Mb:=mH.out.ca;clear h5)
        |(go_at_call 56;refine (bV.calls g l2 l3 58 false u2 u3 w0 _ mH.out.st mH.out.bl HA3.out).mono ?_;rintro e w6 ⟨rfl,hi,hb,hk⟩;have oD:=aa.mk (mH.out.call hi hb hk);have VV:=oD.out.ca;clear hi hb hk;have Dq:=af oD.out.hc 0;have Dr:=af oD.out.hc 1;have Ds:=af oD.out.hc 2;have Dt:=af oD.out.hc 3;have Du:=af oD.out.hc 4;have Dv:w6.cell? ⟨w.heap.size + 1,0,none⟩=some (Value.bool false):=(ah oD.out.hc 0).trans rfl;have Dw:w6.cell? ⟨w.heap.size + 1,1,none⟩=some (Value.slice none 0 0):=(ah oD.out.hc 1).trans rfl;have Dx:w6.cell? ⟨w.heap.size + 1,2,none⟩=some (Value.string ⟨#[]⟩):=(ah oD.out.hc 2).trans rfl;have Dy:w6.cell? ⟨w.heap.size + 1,3,none⟩=some (Value.string ⟨#[]⟩):=(ah oD.out.hc 3).trans rfl;have Dz:w6.cell? ⟨w.heap.size + 1,4,none⟩=some (Value.bool false):=(ah oD.out.hc 4).trans rfl))
       have H9:=qi (W:=w6) (.bool false) (.slice none 0 0) (.string ⟨#[]⟩) (.string ⟨#[]⟩) (.bool false) oD.out.st oD.out.bl oD.out.kp oD.out.sz (Nat.le_succ _) oD.out.hc rfl
       refine bodyPost_ret (eY rfl _ _ (w.heap.size + 1) 32 #[.bool false,.slice none 0 0,.string ⟨#[]⟩,.string ⟨#[]⟩,.bool false] (0,0) _ rfl H9.1 Tryz.underlying32 rfl aq) rfl ?_
       exact ⟨_,rfl,Kd.vQ _ _ _ _ _,H9.2.1,H9.2.2.1,H9.2.2.2.1⟩
      |true=>
       rw [if_pos rfl] at h
       unfold cX.f3 at h
       obtain ⟨⟨m1,m2,m3,m4,m5,m6⟩,Ab,h⟩:=Option.bind_eq_some_iff.mp h
       dsimp only at Ab h
       simp only [Option.some.injEq,Prod.mk.injEq] at h
       obtain ⟨rfl,rfl,rfl,rfl,rfl,rfl,rfl,rfl⟩:=h
       have VJ:=aa.mk Ab
       clear Ab
       go_wp2_with (first
        |(go_at_call 115;refine (dD.calls g s p c1 c2 c3 w0 _ HE.out.st HE.out.bl Hs.out).mono ?_;rintro e w4 ⟨rfl,hi,hb,hk⟩;have uz:=aa.mk (HE.out.call hi hb hk);have Fv:=uz.out.ca;clear hi hb hk)
        |(go_at_call 67;refine (dB.calls k g _ _ c2 c3 _ [] true l2 l3 l4 w0 w _ uz.out Nr.out).mono ?_;rintro e w5 ⟨rfl,v5,h5⟩;have mH:=aa.mk h5;have Mb:=mH.out.ca;clear h5)
        |(go_at_call 56;refine (bV.calls g l2 l3 58 true u2 u3 w0 _ mH.out.st mH.out.bl HA3.out).mono ?_;rintro e w6 ⟨rfl,hi,hb,hk⟩;have oD:=aa.mk (mH.out.call hi hb hk);have VV:=oD.out.ca;clear hi hb hk)
        |(go_at_call 71;refine (cA.calls k g u2 u3 m1 m2 m3 m4 m5 m6 w0 _ oD.out.st oD.out.bl HG.out VJ.out).mono ?_;rintro e w9 ⟨rfl,hi,hb,hk⟩;have iG:=aa.mk (oD.out.call hi hb hk);obtain ⟨A9,c9,e9⟩:=Kd.gQ iG.out.hr;subst e9;have VK:=iG.out.fb 0;have VL:=iG.out.fb 1;have VM:=iG.out.fb 2;have VN:=iG.out.fb 3;have VO:=iG.out.fb 4;have VP:w9.cell? ⟨w3.heap.size,0,none⟩=some (Value.bool false):=(ah iG.out.hb 0).trans rfl;have VQ:w9.cell? ⟨w3.heap.size,1,none⟩=some (Value.slice A9 l4.length c9):=(ah iG.out.hb 1).trans rfl;have VR:w9.cell? ⟨w3.heap.size,2,none⟩=some (Value.string ⟨#[]⟩):=(ah iG.out.hb 2).trans rfl;have VS:w9.cell? ⟨w3.heap.size,3,none⟩=some (Value.string ⟨#[]⟩):=(ah iG.out.hb 3).trans rfl;have VT:w9.cell? ⟨w3.heap.size,4,none⟩=some (Value.bool false):=(ah iG.out.hb 4).trans rfl;have Dq:=af iG.out.hc 0;have Dr:=af iG.out.hc 1;have Ds:=af iG.out.hc 2;have Dt:=af iG.out.hc 3;have Du:=af iG.out.hc 4;have Dv:w9.cell? ⟨w.heap.size + 1,0,none⟩=some (Value.bool false):=(ah iG.out.hc 0).trans rfl;have Dw:w9.cell? ⟨w.heap.size + 1,1,none⟩=some (Value.slice none 0 0):=(ah iG.out.hc 1).trans rfl;have Dx:w9.cell? ⟨w.heap.size + 1,2,none⟩=some (Value.string ⟨#[]⟩):=(ah iG.out.hc 2).trans rfl;have Dy:w9.cell? ⟨w.heap.size + 1,3,none⟩=some (Value.string ⟨#[]⟩):=(ah iG.out.hc 3).trans rfl;have Dz:w9.cell? ⟨w.heap.size + 1,4,none⟩=some (Value.bool false):=(ah iG.out.hc 4).trans rfl;have hnb:w.heap.size + 1≠w3.heap.size:=Nat.ne_of_lt iG.out.gb;have VU:w3.heap.size≠w.heap.size + 1:=(Nat.ne_of_lt iG.out.gb).symm;clear hi hb hk))
       have H8:=iG.out.box (.string m1) (.string m2) (.bool m3) rfl
       have H9:=qi (.bool false) (.slice A9 l4.length c9) (.string m1) (.string m2) (.bool m3) H8.2.1 H8.2.2.1 H8.2.2.2.1 iG.out.sz (Nat.le_succ _) H8.2.2.2.2.2 rfl
       refine bodyPost_ret (eY rfl _ _ (w.heap.size + 1) 32 #[.bool false,.slice A9 l4.length c9,.string m1,.string m2,.bool m3] (0,0) _ rfl H9.1 Tryz.underlying32 rfl aq) rfl ?_
       exact ⟨_,rfl,H9.2.2.2.2 _ _ H8.2.2.2.2.1,H9.2.1,H9.2.2.1,H9.2.2.2.1⟩
   |true=>
    have HA:=aa.mk (show pS s p=true by unfold pS;rw [HX.out,hq,h62,decide_eq_true hr];rfl)
    go_region_held3 (fun w'=>w'.cell? ⟨w.heap.size,0,none⟩=some (.pointer (some ⟨g,0,none⟩))∧w'.cell? ⟨g,0,none⟩=some (.string s)∧w'.cell? ⟨g,1,none⟩=some (.int .i64 p)∧aa (oW w0 w w' g s p)) (first|exact ⟨hca,hc0,hc1,aa.mk (HF.out.below (bf (Below.refl _ _)))⟩|(refine ⟨?_,?_,?_,?_⟩<;>assumption))
     (first|(go_at_call 81;obtain ⟨_,_,_,hF⟩:=‹_∧_∧_∧aa (oW w0 w _ g s p)›;refine (HC.out _).mono ?_;rintro e w3 ⟨rfl,hb⟩;have hF3:=oW.below hF.out hb;have Ad:=aa.mk hF3;clear hF hF3;have ao8:w3.cell? ⟨w.heap.size,0,none⟩=some (.pointer (some ⟨g,0,none⟩)):=(ah Ad.out.ha 0).trans rfl;have ao9:w3.cell? ⟨g,0,none⟩=some (.string s):=(ah Ad.out.st.1 0).trans rfl;have apa:w3.cell? ⟨g,1,none⟩=some (.int .i64 p):=(ah Ad.out.st.1 1).trans rfl;clear hb))
    have H2:=aa.mk ((if_pos HA.out).symm.trans HH.out)
    have h:=H2.out
    simp only [Option.some.injEq,Prod.mk.injEq] at h
    obtain ⟨rfl,rfl,rfl,rfl,rfl,rfl,rfl,rfl⟩:=h
    clear H2 HH
    have hk1:w3.frozen? ⟨g,1,none⟩=false:=af Ad.out.st.1 1
    have Dq:=af Ad.out.hc 0
    have Dr:=af Ad.out.hc 1
    have Ds:=af Ad.out.hc 2
    have Dt:=af Ad.out.hc 3
    have Du:=af Ad.out.hc 4
    have Dv:w3.cell? ⟨w.heap.size + 1,0,none⟩=some (Value.bool false):=(ah Ad.out.hc 0).trans rfl
    have Dw:w3.cell? ⟨w.heap.size + 1,1,none⟩=some (Value.slice none 0 0):=(ah Ad.out.hc 1).trans rfl
    have Dx:w3.cell? ⟨w.heap.size + 1,2,none⟩=some (Value.string ⟨#[]⟩):=(ah Ad.out.hc 2).trans rfl
    have Dy:w3.cell? ⟨w.heap.size + 1,3,none⟩=some (Value.string ⟨#[]⟩):=(ah Ad.out.hc 3).trans rfl
    have Dz:w3.cell? ⟨w.heap.size + 1,4,none⟩=some (Value.bool false):=(ah Ad.out.hc 4).trans rfl
    have hng:g≠w.heap.size + 1:=aD.qg Ad.out.st Ad.out.hc bh
    have avk:=hng.symm
    go_wp2
    have H0:=Ad.out.set (p + 10)
    have H9:=qi (.bool false) (.slice none 0 0) (.string jz) (.string ⟨#[]⟩) (.bool false) H0.st H0.bl H0.kp H0.sz (Nat.le_succ _) H0.hc rfl
    refine bodyPost_ret (eY rfl _ _ (w.heap.size + 1) 32 #[.bool false,.slice none 0 0,.string jz,.string ⟨#[]⟩,.bool false] (0,0) _ rfl H9.1 Tryz.underlying32 rfl aq) rfl ?_
    exact ⟨_,rfl,Kd.vQ _ _ _ _ _,H9.2.1,H9.2.2.1,H9.2.2.2.1⟩
end Go.Proofs.YtokpnfljjjjikaaGreatDoor.mY
