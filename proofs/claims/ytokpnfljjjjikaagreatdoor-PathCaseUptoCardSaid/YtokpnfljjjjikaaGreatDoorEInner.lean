import Derived.Test.YtokpnfljjjjikaaGreatDoorQPtx6
set_option maxHeartbeats 8000000
set_option maxRecDepth 100000
namespace Go.Proofs.YtokpnfljjjjikaaGreatDoor.lO
open Go.RowKit Go.Proofs.aj.bw Go.Proofs.aj.eU Go.Proofs.aj.cj
set_option linter.unusedSimpArgs false
def eP.f (k:Nat) (s:ByteArray) (p:Int) (rs:List ByteArray):Option (Bool×ByteArray×Int×List ByteArray):=
 (bu.f s p 64).bind fun t=>(bH.f k t.2.1 t.2.2).bind fun d=>if rs.length < 8000000000000 then some (t.1 && d.2.1,d.2.2.1,d.2.2.2,rs ++ [d.1]) else none
def cg.l0:Nat→ByteArray→Int→List ByteArray→Option (Bool×ByteArray×Int×List ByteArray)
 | 0,_,_,_ =>none
 |k + 1,s,p,rs=>(eP.f k s p rs).bind fun t=>if t.1=true then (bu.f t.2.1 t.2.2.1 44).bind fun c=>if c.1=true then cg.l0 k c.2.1 c.2.2 t.2.2.2 else some (true,c.2.1,c.2.2,t.2.2.2) else some (false,t.2.1,t.2.2.1,t.2.2.2)
structure Held (w0 we W:World) (g a b:Nat) (s:ByteArray) (p:Int) (v:Value) (rs:List ByteArray):Prop where
 st:aq w0 W g s p
 bl:Below w0.heap.size w0 W
 kp:bh we W g none
 ha:W.heap[a]? =some (.cells #[.pointer (some ⟨g,0,none⟩)] 80 (0,0))
 hb:W.heap[b]? =some (.cells #[.bool false,v,.string ⟨#[]⟩,.string ⟨#[]⟩,.bool false] 32 (0,0))
 hr:Kd.R Kd.string 9 W we.heap.size (fun _ =>True) v rs
 sz:w0.heap.size≤we.heap.size
 hc:W.heap[we.heap.size + 1]? =some (.cells #[.bool false,.slice none 0 0,.string ⟨#[]⟩,.string ⟨#[]⟩,.bool false] 32 (0,0))
 ga:we.heap.size≤a
 gb:we.heap.size + 1 < b
section
variable {w0 we W W1:World} {g a b:Nat} {s s1:ByteArray} {p p1:Int} {v:Value} {rs:List ByteArray}
theorem Held.call (H:Held w0 we W g a b s p v rs) (hi:aq w0 W1 g s1 p1) (hb:Below w0.heap.size w0 W1) (hk:bh W W1 g none):Held w0 we W1 g a b s1 p1 v rs where
 st:=hi
 bl:=hb
 kp:=H.kp.trans hk (.inl rfl)
 ha:=bh.blk hk H.ha (aq.kS H.st H.ha bg).symm bB
 hb:=bh.blk hk H.hb (aq.kS H.st H.hb bg).symm bB
 hr:=Kd.fA (Kd.o9 (aq.apart H.st H.hr bg) hk (fun _ h=>h.2)) (fun _ h=>h.1)
 sz:=H.sz
 hc:=bh.blk hk H.hc (aq.kS H.st H.hc bg).symm bB
 ga:=H.ga
 gb:=H.gb
theorem Held.ca (H:Held w0 we W g a b s p v rs):W.cell? ⟨a,0,none⟩=some (.pointer (some ⟨g,0,none⟩)):=(ah H.ha 0).trans rfl
theorem Held.cb (H:Held w0 we W g a b s p v rs):W.cell? ⟨b,1,none⟩=some v:=(ah H.hb 1).trans rfl
theorem Held.fb (H:Held w0 we W g a b s p v rs) (j:Nat):W.frozen? ⟨b,j,none⟩=false:=aa H.hb j
theorem Held.alloc (H:Held w0 we W g a b s p v rs) (o:Obj):Held w0 we (W.alloc o) g a b s p v rs:=
 H.call (H.st.alloc o) (aJ H.bl o) (jQ (bh.refl _ _ _) o)
theorem Held.app (H:Held w0 we W g a b s p v rs) {v1:Value} {W2:World} {n:ByteArray} (ho:Kd.R Kd.string 9 W2 we.heap.size (fun _ =>True) v1 (rs ++ [n])) (hb:Below we.heap.size W W2) (hg:W.grownBy W2 v.ownBlock):Held w0 we (W2.setCell ⟨b,1,none⟩ v1) g a b s p v1 (rs ++ [n]):=by
 have hB:W2.heap[b]? =some (.cells #[.bool false,v,.string ⟨#[]⟩,.string ⟨#[]⟩,.bool false] 32 (0,0)):=mC H.hb hg (Kd.Gq H.hr H.hb bg)
 have hA:W2.heap[a]? =some (.cells #[.pointer (some ⟨g,0,none⟩)] 80 (0,0)):=mC H.ha hg (Kd.Gq H.hr H.ha bg)
 have hS:aq w0 W2 g s p:=aq.grown H.st hg (aq.own_ne H.st H.hr bg)
 have hab:a≠b:=by
  rintro rfl
  rw [hA] at hB
  simp at hB
 have hgb:g≠b:=aq.kS hS hB bg
 have hC:W2.heap[we.heap.size + 1]? =some (.cells #[.bool false,.slice none 0 0,.string ⟨#[]⟩,.string ⟨#[]⟩,.bool false] 32 (0,0)):=mC H.hc hg (Kd.Gq H.hr H.hc bg)
 have hG:=H.gb
 refine ⟨aq.far hS hgb _,?_,?_,?_,?_,?_,H.sz,dU hC (by show _≠b;omega) _,H.ga,H.gb⟩
 ·exact (dn H.bl H.sz hb).setCell (Nat.le_trans H.sz (by show _≤b;omega)) _
 ·exact jD (bh.trans H.kp (bh.mU hg g) (Kd.rA H.hr)) (by show _≤b;omega) _
 ·exact dU hA hab _
 ·have:=uA hB 1 v1
  simpa using this
 ·refine Kd.fA (Kd.dY (Kd.fA (Kd.nr ho) (ok':=fun k=>k≠b) ?_) (fun k hk=>hk) v1) (fun _ _ =>trivial)
  rintro k ⟨_,_,_,q,hq,cells,hc⟩ rfl
  rw [hB] at hc
  injection hc with hc
  injection hc with _ hc
  have h1:q=9∨q∈Kd.string.E:=by simpa using hq
  rcases h1 with h1|h1
  ·exact absurd (hc.trans h1) bg
  ·cases h1
end
theorem eP.calls (k g a b:Nat) (s:ByteArray) (p:Int) (v:Value) (rs:List ByteArray) (r1:Bool) (s1:ByteArray) (p1:Int) (OM:List ByteArray) (w0 we w:World) (H:Held w0 we w g a b s p v rs) (h:eP.f k s p rs=some (r1,s1,p1,OM)):
 Calls Tryz.prog 116 #[.pointer (some ⟨a,0,none⟩),.pointer (some ⟨b,0,none⟩)] w fun e w'=>e= .returned (.bool r1)∧∃ v1,Held w0 we w' g a b s1 p1 v1 OM:=by
 unfold eP.f at h
 obtain ⟨⟨t1,t2,t3⟩,A1,h⟩:=Option.bind_eq_some_iff.mp h
 obtain ⟨⟨d1,d2,d3,d4⟩,A2,h⟩:=Option.bind_eq_some_iff.mp h
 dsimp only at A1 A2 h
 have ht:t1=true∨t1=false:=by cases t1<;>simp
 by_cases hl:rs.length < 8000000000000
 case neg=>rw [if_neg hl] at h;cases h
 rw [if_pos hl] at h
 simp only [Option.some.injEq,Prod.mk.injEq] at h
 obtain ⟨rfl,rfl,rfl,rfl⟩:=h
 have HL:=af.mk hl
 have xN:=af.mk A1
 have Cm:=af.mk A2
 have HH:=af.mk H
 have hca:=H.ca
 clear hl A1 A2 H
 go_enter Tryz.func116,Tryz.ntmps116
 go_wp2_with (first
  |(go_at_call 56;refine (bu.calls g s p 64 t1 t2 t3 w0 w HH.out.st HH.out.bl xN.out).mono ?_;rintro e w1 ⟨rfl,hi,hb,hk⟩;have Fi:=af.mk (HH.out.call hi hb hk);clear hi hb hk;have aek:=Fi.out.ca)
  |(go_at_call 80;refine (bH.calls k g t2 t3 d1 d2 d3 d4 w0 w1 Fi.out.st Fi.out.bl Cm.out).mono ?_;rintro e w2 ⟨rfl,hi,hb,hk⟩;have Fj:=af.mk (Fi.out.call hi hb hk);clear hi hb hk;have ael:=Fj.out.cb)
  |((with_reducible refine kB (b:= .append) (xs:=#[.tmp 14,.tmp 16]) rfl ?_);at_builtin;refine Kd.pg Kd.string we.heap.size rfl (.tmp 14) (.tmp 16) 28 9 (.string ⟨#[]⟩) 16 rfl Tryz.underlying28 Qb rfl bg ak v rs d1 [.string d1] (fun _ =>True) (fun _ =>False) rfl ry ?aP (fun _ hk=>hk.elim) ?aF ?aO (Below.refl _ _) ?aS ?aL ?_;(case aP=>exact rfl);(case aF=>exact (fun _ _ =>trivial));(case aO=>exact Fj.out.hr);(case aS=>exact mB Fj.out.kp);(case aL=>have:=HL.out;omega);intro v3 w3 ho hb hg hat;obtain ⟨A3,c3,rfl⟩:=Kd.jm ho;have HH3:=af.mk (Fj.out.app ho hb hg);have aen:=(aa (mC Fj.out.hb hg (Kd.Gq Fj.out.hr Fj.out.hb bg)) 1);have aeo:=(ah (mC Fj.out.hb hg (Kd.Gq Fj.out.hr Fj.out.hb bg)) 1).trans rfl;clear ho hb hg hat))
 all_goals
  go_ret
  exact ⟨by first|rfl|(simp [*];done)|(rename_i ht;simp [ht];done)|(rename_i _ ht;simp [ht];done),_,by have h1:=HH3.out;rw [List.length_append] at h1;exact h1⟩
theorem cg.calls (k g a b:Nat) (s:ByteArray) (p:Int) (v:Value) (rs:List ByteArray) (r1:Bool) (s1:ByteArray) (p1:Int) (OM:List ByteArray) (w0 we w:World) (H:Held w0 we w g a b s p v rs) (h:cg.l0 k s p rs=some (r1,s1,p1,OM)):
 Calls Tryz.prog 67 #[.pointer (some ⟨g,0,none⟩),.int .u8 44,.func (.func 116) #[] #[.pointer (some ⟨a,0,none⟩),.pointer (some ⟨b,0,none⟩)]] w fun e w'=>e= .returned (.bool r1)∧∃ v1,Held w0 we w' g a b s1 p1 v1 OM:=by
 have HH:=af.mk H
 have HS:=af.mk h
 clear H h
 go_enter Tryz.func67,Tryz.ntmps67
 go_wp2
 go_loopg [] k (fun kq w'=>∃ (s2:ByteArray) (p2:Int) (v2:Value) (PF:List ByteArray),af (cg.l0 kq s2 p2 PF=some (r1,s1,p1,OM))∧af (Held w0 we w' g a b s2 p2 v2 PF))
 case atStart=>exact ⟨s,p,v,rs,HS,HH⟩
 case round=>
  clear HS HH
  obtain ⟨s2,p2,v2,PF,HA,HH⟩:=hrel
  cases gk with
  |zero=>exact absurd HA.out (by simp [cg.l0])
  |succ k1=>
   have h:=HA.out
   clear HA
   simp only [cg.l0] at h
   obtain ⟨⟨t1,t2,t3,t4⟩,A1,h⟩:=Option.bind_eq_some_iff.mp h
   dsimp only at h
   have xN:=af.mk A1
   clear A1
   cases t1 with
   |true=>
    rw [if_pos rfl] at h
    obtain ⟨⟨c1,c2,c3⟩,A2,h⟩:=Option.bind_eq_some_iff.mp h
    dsimp only at A2 h
    have Cm:=af.mk A2
    have Te:=af.mk h
    clear A2 h
    cases c1 with
    |true=>
     have HN:=af.mk (show cg.l0 k1 c2 c3 t4=some (r1,s1,p1,OM) from (if_pos rfl).symm.trans Te.out)
     clear Te
     go_wp2_with (first
      |(go_at_call 116;refine (eP.calls k1 g a b s2 p2 v2 PF true t2 t3 t4 w0 we _ HH.out xN.out).mono ?_;rintro e w2 ⟨rfl,v3,h3⟩;have Fi:=af.mk h3;clear h3)
      |(go_at_call 56;refine (bu.calls g t2 t3 44 true c2 c3 w0 _ Fi.out.st Fi.out.bl Cm.out).mono ?_;rintro e w3 ⟨rfl,hi,hb,hk⟩;have Fj:=af.mk (Fi.out.call hi hb hk);clear hi hb hk))
     go_roundg k1
     case measure=>omega
     case rel=>exact ⟨c2,c3,_,t4,HN,Fj⟩
    |false=>
     have hN:=(if_neg bg).symm.trans Te.out
     simp only [Option.some.injEq,Prod.mk.injEq] at hN
     obtain ⟨rfl,rfl,rfl,rfl⟩:=hN
     clear Te
     go_wp2_with (first
      |(go_at_call 116;refine (eP.calls k1 g a b s2 p2 v2 PF true t2 t3 t4 w0 we _ HH.out xN.out).mono ?_;rintro e w2 ⟨rfl,v3,h3⟩;have Fi:=af.mk h3;clear h3)
      |(go_at_call 56;refine (bu.calls g t2 t3 44 false c2 c3 w0 _ Fi.out.st Fi.out.bl Cm.out).mono ?_;rintro e w3 ⟨rfl,hi,hb,hk⟩;have Fj:=af.mk (Fi.out.call hi hb hk);clear hi hb hk))
     go_ret
     exact ⟨rfl,_,Fj.out⟩
   |false=>
    rw [if_neg bg] at h
    simp only [Option.some.injEq,Prod.mk.injEq] at h
    obtain ⟨rfl,rfl,rfl,rfl⟩:=h
    go_wp2_with (first
     |(go_at_call 116;refine (eP.calls k1 g a b s2 p2 v2 PF false t2 t3 t4 w0 we _ HH.out xN.out).mono ?_;rintro e w2 ⟨rfl,v3,h3⟩;have Fi:=af.mk h3;clear h3))
    go_ret
    exact ⟨rfl,_,Fi.out⟩
def bW.f3 (k:Nat) (s:ByteArray) (p:Int) (rs:List ByteArray):Option (Bool×List ByteArray×ByteArray×ByteArray×Bool×Bool×ByteArray×Int):=
 (bN.f k s p).bind fun m=>some (false,rs,m.1,m.2.1,m.2.2.1,m.2.2.2.1,m.2.2.2.2.1,m.2.2.2.2.2)
def bW.f2 (k:Nat) (s:ByteArray) (p:Int):Option (Bool×List ByteArray×ByteArray×ByteArray×Bool×Bool×ByteArray×Int):=
 (ck.f s p).bind fun c=>if c.1=64 then (cg.l0 k c.2.1 c.2.2 []).bind fun l=>if l.1=true then (bu.f l.2.1 l.2.2.1 58).bind fun t=>if t.1=true then bW.f3 k t.2.1 t.2.2 l.2.2.2 else some (false,[],⟨#[]⟩,⟨#[]⟩,false,false,t.2.1,t.2.2) else some (false,[],⟨#[]⟩,⟨#[]⟩,false,false,l.2.1,l.2.2.1) else bW.f3 k c.2.1 c.2.2 []
def fN:ByteArray:=⟨#[112,111,115,116,109,97,115,116,101,114]⟩
def kE (s:ByteArray) (p:Int):Bool:=decide (p + 10 < (s.size:Int)) && (b7.g (s.extract p.toNat (p + 10).toNat)).toList == ([112,111,115,116,109,97,115,116,101,114]:List UInt8) && (bt s (p + 10)) == 62
def bW.f (k:Nat) (s:ByteArray) (p:Int):Option (Bool×List ByteArray×ByteArray×ByteArray×Bool×Bool×ByteArray×Int):=
 if 0≤p∧p≤(s.size:Int)∧(s.size:Int) < 4611686018427387904 then
  (if kE s p=true then some (false,[],fN,⟨#[]⟩,false,true,s,p + 10) else bW.f2 k s p)
 else none
structure ke (w0 w W:World) (g:Nat) (s:ByteArray) (p:Int):Prop where
 st:aq w0 W g s p
 bl:Below w0.heap.size w0 W
 sz:w0.heap.size≤w.heap.size
 kp:bh w W g none
 ha:W.heap[w.heap.size]? =some (.cells #[.pointer (some ⟨g,0,none⟩)] 80 (0,0))
 hc:W.heap[w.heap.size + 1]? =some (.cells #[.bool false,.slice none 0 0,.string ⟨#[]⟩,.string ⟨#[]⟩,.bool false] 32 (0,0))
section
variable {w0 w W W1:World} {g a b:Nat} {s:ByteArray} {p:Int} {v:Value} {rs:List ByteArray}
theorem ke.begin (hI:aq w0 w g s p) (hB:Below w0.heap.size w0 w):ke w0 w ((w.alloc (.cells #[.pointer (some ⟨g,0,none⟩)] 80)).alloc (.cells #[.bool false,.slice none 0 0,.string ⟨#[]⟩,.string ⟨#[]⟩,.bool false] 32)) g s p where
 st:=(hI.alloc _).alloc _
 bl:=aJ (aJ hB _) _
 sz:=hB.size
 kp:=jQ (jQ (bh.refl _ _ _) _) _
 ha:=by
  refine aM ?_ _
  simpa using heap_alloc_new w _
 hc:=by
  have:=heap_alloc_new (w.alloc (.cells #[.pointer (some ⟨g,0,none⟩)] 80)) (.cells #[.bool false,.slice none 0 0,.string ⟨#[]⟩,.string ⟨#[]⟩,.bool false] 32)
  simpa using this
theorem ke.below (H:ke w0 w W g s p) (hb:Below W.heap.size W W1):ke w0 w W1 g s p where
 st:=H.st.below hb
 bl:=dn H.bl H.bl.size hb
 sz:=H.sz
 kp:=H.kp.trans (bh.of_below hb g none) (.inl rfl)
 ha:=(hb.block _ (jd H.ha)).trans H.ha
 hc:=(hb.block _ (jd H.hc)).trans H.hc
theorem ke.set (H:ke w0 w W g s p) (q:Int):ke w0 w (W.setCell ⟨g,1,none⟩ (.int .i64 q)) g s q where
 st:=H.st.dQ q
 bl:=bn H.bl H.st.ge
 sz:=H.sz
 kp:=H.kp.Hs _ _
 ha:=dU H.ha (aq.kS H.st H.ha bg).symm _
 hc:=dU H.hc (aq.kS H.st H.hc bg).symm _
theorem ke.held (H:ke w0 w W g s p):Held w0 w (W.alloc (.cells #[.bool false,.slice none 0 0,.string ⟨#[]⟩,.string ⟨#[]⟩,.bool false] 32)) g w.heap.size W.heap.size s p (.slice none 0 0) [] where
 st:=H.st.alloc _
 bl:=aJ H.bl _
 kp:=jQ H.kp _
 ha:=aM H.ha _
 hb:=by simpa using heap_alloc_new W _
 hr:=Kd.oP _ _ _ _ _
 sz:=H.sz
 hc:=aM H.hc _
 ga:=Nat.le_refl _
 gb:=jd H.hc
theorem kW {c:Nat} {y0 y1 y2 y3 y4:Value} (x0 x1 x2 x3 x4:Value) (hst:aq w0 W g s p) (hbl:Below w0.heap.size w0 W) (hkp:bh w W g none) (hsz:w0.heap.size≤w.heap.size) (hgc:w.heap.size≤c)
 (hc:W.heap[c]? =some (.cells #[y0,y1,y2,y3,y4] 32 (0,0))) (hW:W1=((((W.setCell ⟨c,0,none⟩ x0).setCell ⟨c,1,none⟩ x1).setCell ⟨c,2,none⟩ x2).setCell ⟨c,3,none⟩ x3).setCell ⟨c,4,none⟩ x4):
 W1.heap[c]? =some (.cells #[x0,x1,x2,x3,x4] 32 (0,0))∧aq w0 W1 g s p∧Below w0.heap.size w0 W1∧bh w W1 g none∧∀ (v:Value) (xs:List ByteArray),Kd.R Kd.string 9 W w.heap.size (fun _ =>True) v xs→Kd.R Kd.string 9 W1 w.heap.size (fun _ =>True) v xs:=by
 subst hW
 have I8:g≠c:=aq.kS hst hc bg
 refine ⟨?_,?_,?_,?_,?_⟩
 ·refine cF (cs:=#[x0,x1,x2,x3,y4]) ?_ 4 _ rfl
  refine cF (cs:=#[x0,x1,x2,y3,y4]) ?_ 3 _ rfl
  refine cF (cs:=#[x0,x1,y2,y3,y4]) ?_ 2 _ rfl
  refine cF (cs:=#[x0,y1,y2,y3,y4]) ?_ 1 _ rfl
  exact cF hc 0 _ rfl
 ·exact ((((hst.far I8 _).far I8 _).far I8 _).far I8 _).far I8 _
 ·have h0:=Nat.le_trans hsz hgc
  exact bn (bn (bn (bn (bn hbl h0) h0) h0) h0) h0
 ·exact jD (jD (jD (jD (jD hkp hgc _) hgc _) hgc _) hgc _) hgc _
 ·intro v xs ho
  have hne:∀ (W2:World),W2.heap[c]? =some (.cells #[y0,y1,y2,y3,y4] 32 (0,0))→Kd.R Kd.string 9 W2 w.heap.size (fun _ =>True) v xs→Kd.R Kd.string 9 W2 w.heap.size (fun k=>k≠c) v xs:=by
   intro W2 hB h1
   refine Kd.fA (Kd.nr h1) ?_
   rintro k ⟨_,_,_,q,hq,cells,hcc⟩ rfl
   rw [hB] at hcc
   injection hcc with hcc
   injection hcc with _ hcc
   have h1:q=9∨q∈Kd.string.E:=by simpa using hq
   rcases h1 with h1|h1
   ·exact absurd (hcc.trans h1) bg
   ·cases h1
  have h1:=hne W hc ho
  exact Kd.fA (Kd.dY (Kd.dY (Kd.dY (Kd.dY (Kd.dY h1 (fun _ h=>h) x0) (fun _ h=>h) x1) (fun _ h=>h) x2) (fun _ h=>h) x3) (fun _ h=>h) x4) (fun _ _ =>trivial)
theorem Held.box (H:Held w0 w W g a b s p v rs) (x2 x3 x4:Value) (hW:W1=((W.setCell ⟨b,2,none⟩ x2).setCell ⟨b,3,none⟩ x3).setCell ⟨b,4,none⟩ x4):
 W1.heap[b]? =some (.cells #[.bool false,v,x2,x3,x4] 32 (0,0))∧aq w0 W1 g s p∧Below w0.heap.size w0 W1∧bh w W1 g none∧Kd.R Kd.string 9 W1 w.heap.size (fun _ =>True) v rs∧W1.heap[w.heap.size + 1]? =some (.cells #[.bool false,.slice none 0 0,.string ⟨#[]⟩,.string ⟨#[]⟩,.bool false] 32 (0,0)):=by
 subst hW
 have hG:=H.gb
 have hgb:g≠b:=aq.kS H.st H.hb bg
 have hcb:w.heap.size + 1≠b:=by omega
 have hwb:w.heap.size≤b:=by omega
 refine ⟨?_,((H.st.far hgb _).far hgb _).far hgb _,?_,jD (jD (jD H.kp hwb _) hwb _) hwb _,?_,dU (dU (dU H.hc hcb _) hcb _) hcb _⟩
 ·refine cF (cs:=#[.bool false,v,x2,x3,.bool false]) ?_ 4 _ rfl
  refine cF (cs:=#[.bool false,v,x2,.string ⟨#[]⟩,.bool false]) ?_ 3 _ rfl
  exact cF H.hb 2 _ rfl
 ·have h0:=Nat.le_trans H.sz hwb
  exact bn (bn (bn H.bl h0) h0) h0
 ·have h1:Kd.R Kd.string 9 W w.heap.size (fun k=>k≠b) v rs:=by
   refine Kd.fA (Kd.nr H.hr) ?_
   rintro k ⟨_,_,_,q,hq,cells,hcc⟩ rfl
   rw [H.hb] at hcc
   injection hcc with hcc
   injection hcc with _ hcc
   have h1:q=9∨q∈Kd.string.E:=by simpa using hq
   rcases h1 with h1|h1
   ·exact absurd (hcc.trans h1) bg
   ·cases h1
  exact Kd.fA (Kd.dY (Kd.dY (Kd.dY h1 (fun _ h=>h) x2) (fun _ h=>h) x3) (fun _ h=>h) x4) (fun _ _ =>trivial)
end
theorem eP.mono:∀ s p rs k,bZ (eP.f k s p rs) (eP.f (k + 1) s p rs):=by
 intro s p rs k
 unfold eP.f
 exact bZ.bind (bZ.refl _) fun _ =>bZ.bind (bH.mono _ _ _) fun _ =>bZ.refl _
theorem cg.mono:∀ k s p rs,bZ (cg.l0 k s p rs) (cg.l0 (k + 1) s p rs)
 | 0,_,_,_ =>fun r h=>by simp [cg.l0] at h
 |k + 1,s,p,rs=>by
  have ih:=cg.mono k
  unfold cg.l0
  exact bZ.bind (eP.mono _ _ _ _) fun _ =>bZ.ite (bZ.bind (bZ.refl _) fun _ =>bZ.ite (ih _ _ _) (bZ.refl _)) (bZ.refl _)
theorem bW.NF:∀ k s p rs,bZ (bW.f3 k s p rs) (bW.f3 (k + 1) s p rs):=by
 intro k s p rs
 unfold bW.f3
 exact bZ.bind (bN.mono _ _ _) fun _ =>bZ.refl _
theorem bW.Qx:∀ k s p,bZ (bW.f2 k s p) (bW.f2 (k + 1) s p):=by
 intro k s p
 unfold bW.f2
 exact bZ.bind (bZ.refl _) fun _ =>bZ.ite (bZ.bind (cg.mono _ _ _ _) fun _ =>bZ.ite (bZ.bind (bZ.refl _) fun _ =>bZ.ite (bW.NF _ _ _ _) (bZ.refl _)) (bZ.refl _)) (bW.NF _ _ _ _)
theorem bW.mono:∀ s p k,bZ (bW.f k s p) (bW.f (k + 1) s p):=by
 intro s p k
 unfold bW.f
 exact bZ.ite (bZ.ite (bZ.refl _) (bW.Qx _ _ _)) (bZ.refl _)
theorem bW.calls (k g:Nat) (s:ByteArray) (p:Int) (r1:Bool) (r2:List ByteArray) (r3 r4:ByteArray) (r5 r6:Bool) (r7:ByteArray) (r8:Int) (w0 w:World) (hI:aq w0 w g s p) (hB:Below w0.heap.size w0 w) (hG:aQ w0) (h:bW.f k s p=some (r1,r2,r3,r4,r5,r6,r7,r8)):
 Calls Tryz.prog 57 #[.pointer (some ⟨g,0,none⟩)] w fun e w'=>∃ Qy:Value,e= .returned (.tuple #[.agg #[.bool r1,Qy,.string r3,.string r4,.bool r5],.bool r6])∧Kd.R Kd.string 9 w' w.heap.size (fun _ =>True) Qy r2∧aq w0 w' g r7 r8∧Below w0.heap.size w0 w'∧bh w w' g none:=by
 unfold bW.f at h
 by_cases hp: 0≤p∧p≤(s.size:Int)∧(s.size:Int) < 4611686018427387904
 case neg=>rw [if_neg hp] at h;cases h
 rw [if_pos hp] at h
 have HF:=af.mk (ke.begin hI hB)
 have HG:=af.mk hG
 have HH:=af.mk h
 clear hI hB hG h
 obtain ⟨hp0,hp1,hp2⟩:=hp
 go_enter Tryz.func57,Tryz.ntmps57
 go_wp2
 generalize ((w.alloc (.cells #[.pointer (some ⟨g,0,none⟩)] 80)).alloc (.cells #[.bool false,.slice none 0 0,.string ⟨#[]⟩,.string ⟨#[]⟩,.bool false] 32))=w1 at HF ⊢
 have hw1:IntKind.i64.wrap ((s.size:Int) - p)=(s.size:Int) - p:=(cm _).trans (by unfold wrap64;omega)
 have hw2:IntKind.i64.wrap (p + 10)=p + 10:=(cm _).trans (by unfold wrap64;omega)
 have hca:w1.cell? ⟨w.heap.size,0,none⟩=some (.pointer (some ⟨g,0,none⟩)):=(ah HF.out.ha 0).trans rfl
 obtain ⟨hgb,_⟩:=HF.out.st
 have hc0:w1.cell? ⟨g,0,none⟩=some (.string s):=(ah hgb 0).trans rfl
 have hc1:w1.cell? ⟨g,1,none⟩=some (.int .i64 p):=(ah hgb 1).trans rfl
 clear hgb
 by_cases hr:p + 10 < (s.size:Int)
 case neg=>
  have HA:=af.mk (show kE s p=false by unfold kE;rw [decide_eq_false hr];rfl)
  have hd:decide (10 < (s.size:Int) - p)=false:=decide_eq_false ak
  go_quiet (fail)
  have hW:=aK (Below.refl w1.heap.size w1)
  have HFA:=af.mk (fun n=>HF.out.below (hW n))
  clear hW
  generalize NG:World.drewN w1 _=w3
  have rq:=af.mk (show ke w0 w w3 g s p from NG ▸ HFA.out _)
  clear HFA NG
  have H2:=af.mk (show bW.f2 k s p=some (r1,r2,r3,r4,r5,r6,r7,r8) from (if_neg (by rw [HA.out];decide)).symm.trans HH.out)
  clear HA HH
  have HE:=af.mk rq.out.held
  have Qz:=HE.out.ca
  have h:=H2.out
  clear H2
  unfold bW.f2 at h
  obtain ⟨⟨c1,c2,c3⟩,A1,h⟩:=Option.bind_eq_some_iff.mp h
  dsimp only at A1 h
  have xN:=af.mk A1
  clear A1
  cases h64:(c1 == 64) with
  |false=>
   rw [if_neg pV] at h
   unfold bW.f3 at h
   obtain ⟨⟨m1,m2,m3,m4,m5,m6⟩,Ab,h⟩:=Option.bind_eq_some_iff.mp h
   dsimp only at Ab h
   simp only [Option.some.injEq,Prod.mk.injEq] at h
   obtain ⟨rfl,rfl,rfl,rfl,rfl,rfl,rfl,rfl⟩:=h
   have I9:=af.mk Ab
   clear Ab
   go_wp2_with (first
    |(go_at_call 115;refine (ck.calls g s p c1 c2 c3 w0 _ HE.out.st HE.out.bl xN.out).mono ?_;rintro e w4 ⟨rfl,hi,hb,hk⟩;have nX:=af.mk (HE.out.call hi hb hk);have vQ:=nX.out.ca;clear hi hb hk)
    |(go_at_call 71;refine (bN.calls k g c2 c3 m1 m2 m3 m4 m5 m6 w0 _ nX.out.st nX.out.bl HG.out I9.out).mono ?_;rintro e w9 ⟨rfl,hi,hb,hk⟩;have eK:=af.mk (nX.out.call hi hb hk);have Ja:=eK.out.fb 0;have Jb:=eK.out.fb 1;have Jc:=eK.out.fb 2;have Jd:=eK.out.fb 3;have Je:=eK.out.fb 4;have Jf:w9.cell? ⟨w3.heap.size,0,none⟩=some (Value.bool false):=(ah eK.out.hb 0).trans rfl;have Jg:w9.cell? ⟨w3.heap.size,1,none⟩=some (Value.slice none 0 0):=(ah eK.out.hb 1).trans rfl;have Jh:w9.cell? ⟨w3.heap.size,2,none⟩=some (Value.string ⟨#[]⟩):=(ah eK.out.hb 2).trans rfl;have Ji:w9.cell? ⟨w3.heap.size,3,none⟩=some (Value.string ⟨#[]⟩):=(ah eK.out.hb 3).trans rfl;have Jj:w9.cell? ⟨w3.heap.size,4,none⟩=some (Value.bool false):=(ah eK.out.hb 4).trans rfl;have tY:=aa eK.out.hc 0;have tZ:=aa eK.out.hc 1;have ud:=aa eK.out.hc 2;have ue:=aa eK.out.hc 3;have uf:=aa eK.out.hc 4;have ug:w9.cell? ⟨w.heap.size + 1,0,none⟩=some (Value.bool false):=(ah eK.out.hc 0).trans rfl;have uh:w9.cell? ⟨w.heap.size + 1,1,none⟩=some (Value.slice none 0 0):=(ah eK.out.hc 1).trans rfl;have uj:w9.cell? ⟨w.heap.size + 1,2,none⟩=some (Value.string ⟨#[]⟩):=(ah eK.out.hc 2).trans rfl;have uk:w9.cell? ⟨w.heap.size + 1,3,none⟩=some (Value.string ⟨#[]⟩):=(ah eK.out.hc 3).trans rfl;have um:w9.cell? ⟨w.heap.size + 1,4,none⟩=some (Value.bool false):=(ah eK.out.hc 4).trans rfl;have hnb:w.heap.size + 1≠w3.heap.size:=Nat.ne_of_lt eK.out.gb;have Jk:w3.heap.size≠w.heap.size + 1:=(Nat.ne_of_lt eK.out.gb).symm;clear hi hb hk))
   have H8:=eK.out.box (.string m1) (.string m2) (.bool m3) rfl
   have H9:=kW (.bool false) (.slice none 0 0) (.string m1) (.string m2) (.bool m3) H8.2.1 H8.2.2.1 H8.2.2.2.1 eK.out.sz (Nat.le_succ _) H8.2.2.2.2.2 rfl
   refine bodyPost_ret (eY rfl _ _ (w.heap.size + 1) 32 #[.bool false,.slice none 0 0,.string m1,.string m2,.bool m3] (0,0) _ rfl H9.1 Tryz.underlying32 rfl ay) rfl ?_
   exact ⟨_,rfl,H9.2.2.2.2 _ _ H8.2.2.2.2.1,H9.2.1,H9.2.2.1,H9.2.2.2.1⟩
  |true=>
   rw [if_pos pV] at h
   obtain ⟨⟨l1,l2,l3,l4⟩,A2,h⟩:=Option.bind_eq_some_iff.mp h
   dsimp only at A2 h
   have Cm:=af.mk A2
   clear A2
   cases l1 with
   |false=>
    rw [if_neg bg] at h
    simp only [Option.some.injEq,Prod.mk.injEq] at h
    obtain ⟨rfl,rfl,rfl,rfl,rfl,rfl,rfl,rfl⟩:=h
    go_wp2_with (first
     |(go_at_call 115;refine (ck.calls g s p c1 c2 c3 w0 _ HE.out.st HE.out.bl xN.out).mono ?_;rintro e w4 ⟨rfl,hi,hb,hk⟩;have nX:=af.mk (HE.out.call hi hb hk);have vQ:=nX.out.ca;clear hi hb hk)
     |(go_at_call 67;refine (cg.calls k g _ _ c2 c3 _ [] false l2 l3 l4 w0 w _ nX.out Cm.out).mono ?_;rintro e w5 ⟨rfl,v5,h5⟩;have iX:=af.mk h5;have Bg:=iX.out.ca;clear h5;have tY:=aa iX.out.hc 0;have tZ:=aa iX.out.hc 1;have ud:=aa iX.out.hc 2;have ue:=aa iX.out.hc 3;have uf:=aa iX.out.hc 4;have ug:w5.cell? ⟨w.heap.size + 1,0,none⟩=some (Value.bool false):=(ah iX.out.hc 0).trans rfl;have uh:w5.cell? ⟨w.heap.size + 1,1,none⟩=some (Value.slice none 0 0):=(ah iX.out.hc 1).trans rfl;have uj:w5.cell? ⟨w.heap.size + 1,2,none⟩=some (Value.string ⟨#[]⟩):=(ah iX.out.hc 2).trans rfl;have uk:w5.cell? ⟨w.heap.size + 1,3,none⟩=some (Value.string ⟨#[]⟩):=(ah iX.out.hc 3).trans rfl;have um:w5.cell? ⟨w.heap.size + 1,4,none⟩=some (Value.bool false):=(ah iX.out.hc 4).trans rfl))
    have H9:=kW (W:=w5) (.bool false) (.slice none 0 0) (.string ⟨#[]⟩) (.string ⟨#[]⟩) (.bool false) iX.out.st iX.out.bl iX.out.kp iX.out.sz (Nat.le_succ _) iX.out.hc rfl
    refine bodyPost_ret (eY rfl _ _ (w.heap.size + 1) 32 #[.bool false,.slice none 0 0,.string ⟨#[]⟩,.string ⟨#[]⟩,.bool false] (0,0) _ rfl H9.1 Tryz.underlying32 rfl ay) rfl ?_
    exact ⟨_,rfl,Kd.oP _ _ _ _ _,H9.2.1,H9.2.2.1,H9.2.2.2.1⟩
   |true=>
    rw [if_pos rfl] at h
    obtain ⟨⟨u1,u2,u3⟩,A3,h⟩:=Option.bind_eq_some_iff.mp h
    dsimp only at A3 h
    have NH:=af.mk A3
    clear A3
    cases u1 with
    |false=>
     rw [if_neg bg] at h
     simp only [Option.some.injEq,Prod.mk.injEq] at h
     obtain ⟨rfl,rfl,rfl,rfl,rfl,rfl,rfl,rfl⟩:=h
     go_wp2_with (first
      |(go_at_call 115;refine (ck.calls g s p c1 c2 c3 w0 _ HE.out.st HE.out.bl xN.out).mono ?_;rintro e w4 ⟨rfl,hi,hb,hk⟩;have nX:=af.mk (HE.out.call hi hb hk);have vQ:=nX.out.ca;clear hi hb hk)
      |(go_at_call 67;refine (cg.calls k g _ _ c2 c3 _ [] true l2 l3 l4 w0 w _ nX.out Cm.out).mono ?_;rintro e w5 ⟨rfl,v5,h5⟩;have iX:=af.mk h5;have Bg:=iX.out.ca;clear h5)
      |(go_at_call 56;refine (bu.calls g l2 l3 58 false u2 u3 w0 _ iX.out.st iX.out.bl NH.out).mono ?_;rintro e w6 ⟨rfl,hi,hb,hk⟩;have jJ:=af.mk (iX.out.call hi hb hk);have Jl:=jJ.out.ca;clear hi hb hk;have tY:=aa jJ.out.hc 0;have tZ:=aa jJ.out.hc 1;have ud:=aa jJ.out.hc 2;have ue:=aa jJ.out.hc 3;have uf:=aa jJ.out.hc 4;have ug:w6.cell? ⟨w.heap.size + 1,0,none⟩=some (Value.bool false):=(ah jJ.out.hc 0).trans rfl;have uh:w6.cell? ⟨w.heap.size + 1,1,none⟩=some (Value.slice none 0 0):=(ah jJ.out.hc 1).trans rfl;have uj:w6.cell? ⟨w.heap.size + 1,2,none⟩=some (Value.string ⟨#[]⟩):=(ah jJ.out.hc 2).trans rfl;have uk:w6.cell? ⟨w.heap.size + 1,3,none⟩=some (Value.string ⟨#[]⟩):=(ah jJ.out.hc 3).trans rfl;have um:w6.cell? ⟨w.heap.size + 1,4,none⟩=some (Value.bool false):=(ah jJ.out.hc 4).trans rfl))
     have H9:=kW (W:=w6) (.bool false) (.slice none 0 0) (.string ⟨#[]⟩) (.string ⟨#[]⟩) (.bool false) jJ.out.st jJ.out.bl jJ.out.kp jJ.out.sz (Nat.le_succ _) jJ.out.hc rfl
     refine bodyPost_ret (eY rfl _ _ (w.heap.size + 1) 32 #[.bool false,.slice none 0 0,.string ⟨#[]⟩,.string ⟨#[]⟩,.bool false] (0,0) _ rfl H9.1 Tryz.underlying32 rfl ay) rfl ?_
     exact ⟨_,rfl,Kd.oP _ _ _ _ _,H9.2.1,H9.2.2.1,H9.2.2.2.1⟩
    |true=>
     rw [if_pos rfl] at h
     unfold bW.f3 at h
     obtain ⟨⟨m1,m2,m3,m4,m5,m6⟩,Ab,h⟩:=Option.bind_eq_some_iff.mp h
     dsimp only at Ab h
     simp only [Option.some.injEq,Prod.mk.injEq] at h
     obtain ⟨rfl,rfl,rfl,rfl,rfl,rfl,rfl,rfl⟩:=h
     have I9:=af.mk Ab
     clear Ab
     go_wp2_with (first
      |(go_at_call 115;refine (ck.calls g s p c1 c2 c3 w0 _ HE.out.st HE.out.bl xN.out).mono ?_;rintro e w4 ⟨rfl,hi,hb,hk⟩;have nX:=af.mk (HE.out.call hi hb hk);have vQ:=nX.out.ca;clear hi hb hk)
      |(go_at_call 67;refine (cg.calls k g _ _ c2 c3 _ [] true l2 l3 l4 w0 w _ nX.out Cm.out).mono ?_;rintro e w5 ⟨rfl,v5,h5⟩;have iX:=af.mk h5;have Bg:=iX.out.ca;clear h5)
      |(go_at_call 56;refine (bu.calls g l2 l3 58 true u2 u3 w0 _ iX.out.st iX.out.bl NH.out).mono ?_;rintro e w6 ⟨rfl,hi,hb,hk⟩;have jJ:=af.mk (iX.out.call hi hb hk);have Jl:=jJ.out.ca;clear hi hb hk)
      |(go_at_call 71;refine (bN.calls k g u2 u3 m1 m2 m3 m4 m5 m6 w0 _ jJ.out.st jJ.out.bl HG.out I9.out).mono ?_;rintro e w9 ⟨rfl,hi,hb,hk⟩;have eK:=af.mk (jJ.out.call hi hb hk);obtain ⟨A9,c9,e9⟩:=Kd.jm eK.out.hr;subst e9;have Ja:=eK.out.fb 0;have Jb:=eK.out.fb 1;have Jc:=eK.out.fb 2;have Jd:=eK.out.fb 3;have Je:=eK.out.fb 4;have Jf:w9.cell? ⟨w3.heap.size,0,none⟩=some (Value.bool false):=(ah eK.out.hb 0).trans rfl;have Jg:w9.cell? ⟨w3.heap.size,1,none⟩=some (Value.slice A9 l4.length c9):=(ah eK.out.hb 1).trans rfl;have Jh:w9.cell? ⟨w3.heap.size,2,none⟩=some (Value.string ⟨#[]⟩):=(ah eK.out.hb 2).trans rfl;have Ji:w9.cell? ⟨w3.heap.size,3,none⟩=some (Value.string ⟨#[]⟩):=(ah eK.out.hb 3).trans rfl;have Jj:w9.cell? ⟨w3.heap.size,4,none⟩=some (Value.bool false):=(ah eK.out.hb 4).trans rfl;have tY:=aa eK.out.hc 0;have tZ:=aa eK.out.hc 1;have ud:=aa eK.out.hc 2;have ue:=aa eK.out.hc 3;have uf:=aa eK.out.hc 4;have ug:w9.cell? ⟨w.heap.size + 1,0,none⟩=some (Value.bool false):=(ah eK.out.hc 0).trans rfl;have uh:w9.cell? ⟨w.heap.size + 1,1,none⟩=some (Value.slice none 0 0):=(ah eK.out.hc 1).trans rfl;have uj:w9.cell? ⟨w.heap.size + 1,2,none⟩=some (Value.string ⟨#[]⟩):=(ah eK.out.hc 2).trans rfl;have uk:w9.cell? ⟨w.heap.size + 1,3,none⟩=some (Value.string ⟨#[]⟩):=(ah eK.out.hc 3).trans rfl;have um:w9.cell? ⟨w.heap.size + 1,4,none⟩=some (Value.bool false):=(ah eK.out.hc 4).trans rfl;have hnb:w.heap.size + 1≠w3.heap.size:=Nat.ne_of_lt eK.out.gb;have Jk:w3.heap.size≠w.heap.size + 1:=(Nat.ne_of_lt eK.out.gb).symm;clear hi hb hk))
     have H8:=eK.out.box (.string m1) (.string m2) (.bool m3) rfl
     have H9:=kW (.bool false) (.slice A9 l4.length c9) (.string m1) (.string m2) (.bool m3) H8.2.1 H8.2.2.1 H8.2.2.2.1 eK.out.sz (Nat.le_succ _) H8.2.2.2.2.2 rfl
     refine bodyPost_ret (eY rfl _ _ (w.heap.size + 1) 32 #[.bool false,.slice A9 l4.length c9,.string m1,.string m2,.bool m3] (0,0) _ rfl H9.1 Tryz.underlying32 rfl ay) rfl ?_
     exact ⟨_,rfl,H9.2.2.2.2 _ _ H8.2.2.2.2.1,H9.2.1,H9.2.2.1,H9.2.2.2.1⟩
 case pos=>
  have hd:decide (10 < (s.size:Int) - p)=true:=decide_eq_true ak
  have e1:(0≤p)=True:=eq_true hp0
  have e2:(p≤p + 10)=True:=eq_true ak
  have e3:(p + 10≤(s.size:Int))=True:=eq_true ak
  have e4:(0≤p + 10)=True:=eq_true ak
  have e5:(p + 10 < (s.size:Int))=True:=eq_true hr
  have hx:=iW s (p + 10)
  obtain ⟨X,hX⟩:∃ X,b7.g (s.extract p.toNat (p + 10).toNat)=X:=⟨_,rfl⟩
  have HX:=af.mk hX
  have HC:=af.mk (fun W=>b7.calls (s.extract p.toNat (p + 10).toNat) X W (by unfold b7.f;rw [if_pos,hX];simp;omega))
  clear hX
  cases hq:(X.toList == ([112,111,115,116,109,97,115,116,101,114]:List UInt8)) with
  |false=>
   have HA:=af.mk (show kE s p=false by unfold kE;rw [HX.out,hq];simp)
   refine pz (n:=45) (S:=fun w'=>w'.cell? ⟨w.heap.size,0,none⟩=some (.pointer (some ⟨g,0,none⟩))∧w'.cell? ⟨g,0,none⟩=some (.string s)∧w'.cell? ⟨g,1,none⟩=some (.int .i64 p)∧af (ke w0 w w' g s p)) (ds:=[]) #[false,false,false,false,false,false,false,false,false,false,false,false,false,false,false,false,false,false,false,false,false,false,false,false,false,false,false,false,false,false,false,false,false,false,false,false,false,false,false,false,false,false,false,false,false] ay (by rfl) (by rfl) ⟨hca,hc0,hc1,(af.mk (HF.out.below (aW (Below.refl _ _))))⟩ (fun hHeld=>?_)
   refine cA (i:=10) (N:=some 18) (v:=?_) (a':=?_) #[false,false,false,false,false,false,false,false,false,false,true,false,false,false,false,false,false,false,false,false,false,false,false,false,false,false,false,false,false,false,false,false,false,false,false,false,false,false,false,false,false,false,false,false,false] rfl rfl ay (fun _ _ _ h=>h) (Or.inl ⟨by rfl,?_⟩) ?_ ?_
   rotate_left
   ·intro w'
    go_simp
    with_reducible rfl
   rotate_left
   ·simp only [Act.put,List.setIfInBounds_toArray,List.set_cons_zero,List.set_cons_succ,cm,cw]
    rfl
   refine jh (i:=0) (N:=some 8) (v:=?_) (a':=?_) #[true,false,false,false,false,false,false,false,false,false,true,false,false,false,false,false,false,false,false,false,false,false,false,false,false,false,false,false,false,false,false,false,false,false,false,false,false,false,false,false,false,false,false,false,false] rfl rfl ay (fun _ _ _ h=>h) (Or.inl ⟨by rfl,?_⟩) hHeld ?_ ?_
   rotate_left
   ·rintro w' ⟨s0,s1,s2,s3⟩
    go_simp
    with_reducible rfl
   rotate_left
   ·simp only [Act.put,List.setIfInBounds_toArray,List.set_cons_zero,List.set_cons_succ,cm,cw]
    rfl
   refine cA (i:=1) (N:=some 9) (v:=?_) (a':=?_) #[true,true,false,false,false,false,false,false,false,false,true,false,false,false,false,false,false,false,false,false,false,false,false,false,false,false,false,false,false,false,false,false,false,false,false,false,false,false,false,false,false,false,false,false,false] rfl rfl ay (fun _ _ _ h=>h) (Or.inl ⟨by rfl,?_⟩) ?_ ?_
   rotate_left
   ·intro w'
    go_simp
    with_reducible rfl
   rotate_left
   ·simp only [Act.put,List.setIfInBounds_toArray,List.set_cons_zero,List.set_cons_succ,cm,cw]
    rfl
   refine cA (i:=2) (N:=some 10) (v:=?_) (a':=?_) #[true,true,true,false,false,false,false,false,false,false,true,false,false,false,false,false,false,false,false,false,false,false,false,false,false,false,false,false,false,false,false,false,false,false,false,false,false,false,false,false,false,false,false,false,false] rfl rfl ay (fun _ _ _ h=>h) (Or.inl ⟨by rfl,?_⟩) ?_ ?_
   rotate_left
   ·intro w'
    go_simp
    with_reducible rfl
   rotate_left
   ·simp only [Act.put,List.setIfInBounds_toArray,List.set_cons_zero,List.set_cons_succ,cm,cw]
    rfl
   refine jh (i:=3) (N:=some 11) (v:=?_) (a':=?_) #[true,true,true,true,false,false,false,false,false,false,true,false,false,false,false,false,false,false,false,false,false,false,false,false,false,false,false,false,false,false,false,false,false,false,false,false,false,false,false,false,false,false,false,false,false] rfl rfl ay (fun _ _ _ h=>h) (Or.inl ⟨by rfl,?_⟩) hHeld ?_ ?_
   rotate_left
   ·rintro w' ⟨s0,s1,s2,s3⟩
    go_simp
    with_reducible rfl
   rotate_left
   ·simp only [Act.put,List.setIfInBounds_toArray,List.set_cons_zero,List.set_cons_succ,cm,cw]
    rfl
   refine cA (i:=4) (N:=some 12) (v:=?_) (a':=?_) #[true,true,true,true,true,false,false,false,false,false,true,false,false,false,false,false,false,false,false,false,false,false,false,false,false,false,false,false,false,false,false,false,false,false,false,false,false,false,false,false,false,false,false,false,false] rfl rfl ay (fun _ _ _ h=>h) (Or.inl ⟨by rfl,?_⟩) ?_ ?_
   rotate_left
   ·intro w'
    go_simp
    with_reducible rfl
   rotate_left
   ·simp only [Act.put,List.setIfInBounds_toArray,List.set_cons_zero,List.set_cons_succ,cm,cw]
    rfl
   refine jh (i:=5) (N:=some 13) (v:=?_) (a':=?_) #[true,true,true,true,true,true,false,false,false,false,true,false,false,false,false,false,false,false,false,false,false,false,false,false,false,false,false,false,false,false,false,false,false,false,false,false,false,false,false,false,false,false,false,false,false] rfl rfl ay (fun _ _ _ h=>h) (Or.inl ⟨by rfl,?_⟩) hHeld ?_ ?_
   rotate_left
   ·rintro w' ⟨s0,s1,s2,s3⟩
    go_simp
    with_reducible rfl
   rotate_left
   ·simp only [Act.put,List.setIfInBounds_toArray,List.set_cons_zero,List.set_cons_succ,cm,cw]
    rfl
   refine cA (i:=6) (N:=some 14) (v:=?_) (a':=?_) #[true,true,true,true,true,true,true,false,false,false,true,false,false,false,false,false,false,false,false,false,false,false,false,false,false,false,false,false,false,false,false,false,false,false,false,false,false,false,false,false,false,false,false,false,false] rfl rfl ay (fun _ _ _ h=>h) (Or.inl ⟨by rfl,?_⟩) ?_ ?_
   rotate_left
   ·intro w'
    go_simp
    with_reducible rfl
   rotate_left
   ·simp only [Act.put,List.setIfInBounds_toArray,List.set_cons_zero,List.set_cons_succ,cm,cw]
    rfl
   refine cA (i:=7) (N:=some 15) (v:=?_) (a':=?_) #[true,true,true,true,true,true,true,true,false,false,true,false,false,false,false,false,false,false,false,false,false,false,false,false,false,false,false,false,false,false,false,false,false,false,false,false,false,false,false,false,false,false,false,false,false] rfl rfl ay (fun _ _ _ h=>h) (Or.inl ⟨by rfl,?_⟩) ?_ ?_
   rotate_left
   ·intro w'
    go_simp
    with_reducible rfl
   rotate_left
   ·simp only [Act.put,List.setIfInBounds_toArray,List.set_cons_zero,List.set_cons_succ,cm,cw]
    rfl
   refine jh (i:=8) (N:=some 16) (v:=?_) (a':=?_) #[true,true,true,true,true,true,true,true,true,false,true,false,false,false,false,false,false,false,false,false,false,false,false,false,false,false,false,false,false,false,false,false,false,false,false,false,false,false,false,false,false,false,false,false,false] rfl rfl ay (fun _ _ _ h=>h) (Or.inl ⟨by rfl,?_⟩) hHeld ?_ ?_
   rotate_left
   ·rintro w' ⟨s0,s1,s2,s3⟩
    go_simp
    with_reducible rfl
   rotate_left
   ·simp only [Act.put,List.setIfInBounds_toArray,List.set_cons_zero,List.set_cons_succ,cm,cw]
    rfl
   refine cA (i:=9) (N:=some 17) (v:=?_) (a':=?_) #[true,true,true,true,true,true,true,true,true,true,true,false,false,false,false,false,false,false,false,false,false,false,false,false,false,false,false,false,false,false,false,false,false,false,false,false,false,false,false,false,false,false,false,false,false] rfl rfl ay (fun _ _ _ h=>h) (Or.inl ⟨by rfl,?_⟩) ?_ ?_
   rotate_left
   ·intro w'
    go_simp
    with_reducible rfl
   rotate_left
   ·simp only [Act.put,List.setIfInBounds_toArray,List.set_cons_zero,List.set_cons_succ,cm,cw]
    rfl
   refine cA (i:=11) (N:=some 19) (v:=?_) (a':=?_) #[true,true,true,true,true,true,true,true,true,true,true,true,false,false,false,false,false,false,false,false,false,false,false,false,false,false,false,false,false,false,false,false,false,false,false,false,false,false,false,false,false,false,false,false,false] rfl rfl ay (fun _ _ _ h=>h) (Or.inl ⟨by rfl,?_⟩) ?_ ?_
   rotate_left
   ·intro w'
    go_simp
    with_reducible rfl
   rotate_left
   ·simp only [Act.put,List.setIfInBounds_toArray,List.set_cons_zero,List.set_cons_succ,cm,cw]
    rfl
   refine cA (i:=12) (N:=some 20) (v:=?_) (a':=?_) #[true,true,true,true,true,true,true,true,true,true,true,true,true,false,false,false,false,false,false,false,false,false,false,false,false,false,false,false,false,false,false,false,false,false,false,false,false,false,false,false,false,false,false,false,false] rfl rfl ay (fun _ _ _ h=>h) (Or.inl ⟨by rfl,?_⟩) ?_ ?_
   rotate_left
   ·intro w'
    go_simp
    with_reducible rfl
   rotate_left
   ·simp only [Act.put,List.setIfInBounds_toArray,List.set_cons_zero,List.set_cons_succ,cm,cw]
    rfl
   refine cA (i:=25) (N:=some 33) (v:=?_) (a':=?_) #[true,true,true,true,true,true,true,true,true,true,true,true,true,false,false,false,false,false,false,false,false,false,false,false,false,true,false,false,false,false,false,false,false,false,false,false,false,false,false,false,false,false,false,false,false] rfl rfl ay (fun _ _ _ h=>h) (Or.inl ⟨by rfl,?_⟩) ?_ ?_
   rotate_left
   ·intro w'
    go_simp
    with_reducible rfl
   rotate_left
   ·simp only [Act.put,List.setIfInBounds_toArray,List.set_cons_zero,List.set_cons_succ,cm,cw]
    rfl
   refine jh (i:=13) (N:=some 21) (v:=?_) (a':=?_) #[true,true,true,true,true,true,true,true,true,true,true,true,true,true,false,false,false,false,false,false,false,false,false,false,false,true,false,false,false,false,false,false,false,false,false,false,false,false,false,false,false,false,false,false,false] rfl rfl ay (fun _ _ _ h=>h) (Or.inl ⟨by rfl,?_⟩) hHeld ?_ ?_
   rotate_left
   ·rintro w' ⟨s0,s1,s2,s3⟩
    go_simp
    with_reducible rfl
   rotate_left
   ·simp only [Act.put,List.setIfInBounds_toArray,List.set_cons_zero,List.set_cons_succ,cm,cw]
    rfl
   refine cA (i:=14) (N:=some 22) (v:=?_) (a':=?_) #[true,true,true,true,true,true,true,true,true,true,true,true,true,true,true,false,false,false,false,false,false,false,false,false,false,true,false,false,false,false,false,false,false,false,false,false,false,false,false,false,false,false,false,false,false] rfl rfl ay (fun _ _ _ h=>h) (Or.inl ⟨by rfl,?_⟩) ?_ ?_
   rotate_left
   ·intro w'
    go_simp
    with_reducible rfl
   rotate_left
   ·simp only [Act.put,List.setIfInBounds_toArray,List.set_cons_zero,List.set_cons_succ,cm,cw]
    rfl
   refine cA (i:=15) (N:=some 23) (v:=?_) (a':=?_) #[true,true,true,true,true,true,true,true,true,true,true,true,true,true,true,true,false,false,false,false,false,false,false,false,false,true,false,false,false,false,false,false,false,false,false,false,false,false,false,false,false,false,false,false,false] rfl rfl ay (fun _ _ _ h=>h) (Or.inl ⟨by rfl,?_⟩) ?_ ?_
   rotate_left
   ·intro w'
    go_simp
    with_reducible rfl
   rotate_left
   ·simp only [Act.put,List.setIfInBounds_toArray,List.set_cons_zero,List.set_cons_succ,cm,cw]
    rfl
   refine jh (i:=16) (N:=some 24) (v:=?_) (a':=?_) #[true,true,true,true,true,true,true,true,true,true,true,true,true,true,true,true,true,false,false,false,false,false,false,false,false,true,false,false,false,false,false,false,false,false,false,false,false,false,false,false,false,false,false,false,false] rfl rfl ay (fun _ _ _ h=>h) (Or.inl ⟨by rfl,?_⟩) hHeld ?_ ?_
   rotate_left
   ·rintro w' ⟨s0,s1,s2,s3⟩
    go_simp
    with_reducible rfl
   rotate_left
   ·simp only [Act.put,List.setIfInBounds_toArray,List.set_cons_zero,List.set_cons_succ,cm,cw]
    rfl
   refine jh (i:=17) (N:=some 25) (v:=?_) (a':=?_) #[true,true,true,true,true,true,true,true,true,true,true,true,true,true,true,true,true,true,false,false,false,false,false,false,false,true,false,false,false,false,false,false,false,false,false,false,false,false,false,false,false,false,false,false,false] rfl rfl ay (fun _ _ _ h=>h) (Or.inl ⟨by rfl,?_⟩) hHeld ?_ ?_
   rotate_left
   ·rintro w' ⟨s0,s1,s2,s3⟩
    go_simp
    with_reducible rfl
   rotate_left
   ·simp only [Act.put,List.setIfInBounds_toArray,List.set_cons_zero,List.set_cons_succ,cm,cw]
    rfl
   refine cA (i:=18) (N:=some 26) (v:=?_) (a':=?_) #[true,true,true,true,true,true,true,true,true,true,true,true,true,true,true,true,true,true,true,false,false,false,false,false,false,true,false,false,false,false,false,false,false,false,false,false,false,false,false,false,false,false,false,false,false] rfl rfl ay (fun _ _ _ h=>h) (Or.inl ⟨by rfl,?_⟩) ?_ ?_
   rotate_left
   ·intro w'
    go_simp
    with_reducible rfl
   rotate_left
   ·simp only [Act.put,List.setIfInBounds_toArray,List.set_cons_zero,List.set_cons_succ,cm,cw]
    rfl
   refine cA (i:=19) (N:=some 27) (v:=?_) (a':=?_) #[true,true,true,true,true,true,true,true,true,true,true,true,true,true,true,true,true,true,true,true,false,false,false,false,false,true,false,false,false,false,false,false,false,false,false,false,false,false,false,false,false,false,false,false,false] rfl rfl ay (fun _ _ _ h=>h) (Or.inl ⟨by rfl,?_⟩) ?_ ?_
   rotate_left
   ·intro w'
    go_simp
    with_reducible rfl
   rotate_left
   ·simp only [Act.put,List.setIfInBounds_toArray,List.set_cons_zero,List.set_cons_succ,cm,cw]
    rfl
   refine jh (i:=20) (N:=some 28) (v:=?_) (a':=?_) #[true,true,true,true,true,true,true,true,true,true,true,true,true,true,true,true,true,true,true,true,true,false,false,false,false,true,false,false,false,false,false,false,false,false,false,false,false,false,false,false,false,false,false,false,false] rfl rfl ay (fun _ _ _ h=>h) (Or.inl ⟨by rfl,?_⟩) hHeld ?_ ?_
   rotate_left
   ·rintro w' ⟨s0,s1,s2,s3⟩
    go_simp
    with_reducible rfl
   rotate_left
   ·simp only [Act.put,List.setIfInBounds_toArray,List.set_cons_zero,List.set_cons_succ,cm,cw]
    rfl
   refine jh (i:=21) (N:=some 29) (v:=?_) (a':=?_) #[true,true,true,true,true,true,true,true,true,true,true,true,true,true,true,true,true,true,true,true,true,true,false,false,false,true,false,false,false,false,false,false,false,false,false,false,false,false,false,false,false,false,false,false,false] rfl rfl ay (fun _ _ _ h=>h) (Or.inl ⟨by rfl,?_⟩) hHeld ?_ ?_
   rotate_left
   ·rintro w' ⟨s0,s1,s2,s3⟩
    go_simp
    with_reducible rfl
   rotate_left
   ·simp only [Act.put,List.setIfInBounds_toArray,List.set_cons_zero,List.set_cons_succ,cm,cw]
    rfl
   refine cA (i:=22) (N:=some 30) (v:=?_) (a':=?_) #[true,true,true,true,true,true,true,true,true,true,true,true,true,true,true,true,true,true,true,true,true,true,true,false,false,true,false,false,false,false,false,false,false,false,false,false,false,false,false,false,false,false,false,false,false] rfl rfl ay (fun _ _ _ h=>h) (Or.inl ⟨by rfl,?_⟩) ?_ ?_
   rotate_left
   ·intro w'
    go_simp
    with_reducible rfl
   rotate_left
   ·simp only [Act.put,List.setIfInBounds_toArray,List.set_cons_zero,List.set_cons_succ,cm,cw]
    rfl
   refine cA (i:=23) (N:=some 31) (v:=?_) (a':=?_) #[true,true,true,true,true,true,true,true,true,true,true,true,true,true,true,true,true,true,true,true,true,true,true,true,false,true,false,false,false,false,false,false,false,false,false,false,false,false,false,false,false,false,false,false,false] rfl rfl ay (fun _ _ _ h=>h) (Or.inl ⟨by rfl,?_⟩) ?_ ?_
   rotate_left
   ·intro w'
    go_simp
    with_reducible rfl
   rotate_left
   ·simp only [Act.put,List.setIfInBounds_toArray,List.set_cons_zero,List.set_cons_succ,cm,cw]
    rfl
   refine jh (i:=24) (N:=some 32) (v:=?_) (a':=?_) #[true,true,true,true,true,true,true,true,true,true,true,true,true,true,true,true,true,true,true,true,true,true,true,true,true,true,false,false,false,false,false,false,false,false,false,false,false,false,false,false,false,false,false,false,false] rfl rfl ay (fun _ _ _ h=>h) (Or.inl ⟨by rfl,?_⟩) hHeld ?_ ?_
   rotate_left
   ·rintro w' ⟨s0,s1,s2,s3⟩
    go_simp
    with_reducible rfl
   rotate_left
   ·simp only [Act.put,List.setIfInBounds_toArray,List.set_cons_zero,List.set_cons_succ,cm,cw]
    rfl
   refine cA (i:=26) (N:=some 34) (v:=?_) (a':=?_) #[true,true,true,true,true,true,true,true,true,true,true,true,true,true,true,true,true,true,true,true,true,true,true,true,true,true,true,false,false,false,false,false,false,false,false,false,false,false,false,false,false,false,false,false,false] rfl rfl ay (fun _ _ _ h=>h) (Or.inl ⟨by rfl,?_⟩) ?_ ?_
   rotate_left
   ·intro w'
    go_simp
    with_reducible rfl
   rotate_left
   ·simp only [Act.put,List.setIfInBounds_toArray,List.set_cons_zero,List.set_cons_succ,cm,cw]
    rfl
   refine cA (i:=27) (N:=some 35) (v:=?_) (a':=?_) #[true,true,true,true,true,true,true,true,true,true,true,true,true,true,true,true,true,true,true,true,true,true,true,true,true,true,true,true,false,false,false,false,false,false,false,false,false,false,false,false,false,false,false,false,false] rfl rfl ay (fun _ _ _ h=>h) (Or.inl ⟨by rfl,?_⟩) ?_ ?_
   rotate_left
   ·intro w'
    go_simp
    with_reducible rfl
   rotate_left
   ·simp only [Act.put,List.setIfInBounds_toArray,List.set_cons_zero,List.set_cons_succ,cm,cw]
    rfl
   refine rD (i:=28) (N:=some 36) #[true,true,true,true,true,true,true,true,true,true,true,true,true,true,true,true,true,true,true,true,true,true,true,true,true,true,true,true,true,false,false,false,false,false,false,false,false,false,false,false,false,false,false,false,false] rfl rfl ay bg (fun K hK=>?_)
   refine nV Tryz.func81 ay rfl #[.string (s.extract p.toNat (p + 10).toNat)] (by rfl) rfl rfl (by simp only [List.map_toArray,List.map_cons,List.map_nil];rfl) ?_
   with_reducible refine (HC.out _).mono ?_
   rintro e w3 ⟨rfl,hb⟩
   refine ⟨_,rfl,?_⟩
   have rq:=af.mk (ke.below hHeld.2.2.2.out hb)
   clear hb
   refine hK.out _ _ ⟨(ah rq.out.ha 0).trans rfl,(ah rq.out.st.1 0).trans rfl,(ah rq.out.st.1 1).trans rfl,rq⟩ (fun hHeld=>?_)
   clear hK K
   refine nU (a':=?_) ?_ ?_
   rotate_left
   ·show Act.put _ (some 36) _=_
    simp only [Act.put,List.setIfInBounds_toArray,List.set_cons_zero,List.set_cons_succ,cm,cw]
    rfl
   refine cA (i:=29) (N:=some 37) (v:=?_) (a':=?_) #[true,true,true,true,true,true,true,true,true,true,true,true,true,true,true,true,true,true,true,true,true,true,true,true,true,true,true,true,true,true,false,false,false,false,false,false,false,false,false,false,false,false,false,false,false] rfl rfl ay (fun _ _ _ h=>h) (Or.inl ⟨by rfl,?_⟩) ?_ ?_
   rotate_left
   ·intro w'
    go_simp
    with_reducible rfl
   rotate_left
   ·simp only [Act.put,List.setIfInBounds_toArray,List.set_cons_zero,List.set_cons_succ,cm,cw]
    rfl
   refine cA (i:=30) (N:=some 38) (v:=?_) (a':=?_) #[true,true,true,true,true,true,true,true,true,true,true,true,true,true,true,true,true,true,true,true,true,true,true,true,true,true,true,true,true,true,true,false,false,false,false,false,false,false,false,false,false,false,false,false,false] rfl rfl ay (fun _ _ _ h=>h) (Or.inl ⟨by rfl,?_⟩) ?_ ?_
   rotate_left
   ·intro w'
    go_simp
    with_reducible rfl
   rotate_left
   ·simp only [Act.put,List.setIfInBounds_toArray,List.set_cons_zero,List.set_cons_succ,cm,cw]
    rfl
   refine cA (i:=31) (N:=some 39) (v:=?_) (a':=?_) #[true,true,true,true,true,true,true,true,true,true,true,true,true,true,true,true,true,true,true,true,true,true,true,true,true,true,true,true,true,true,true,true,false,false,false,false,false,false,false,false,false,false,false,false,false] rfl rfl ay (fun _ _ _ h=>h) (Or.inl ⟨by rfl,?_⟩) ?_ ?_
   rotate_left
   ·intro w'
    go_simp
    with_reducible rfl
   rotate_left
   ·simp only [Act.put,List.setIfInBounds_toArray,List.set_cons_zero,List.set_cons_succ,cm,cw]
    rfl
   refine cA (i:=32) (N:=some 40) (v:=undef) (a':=?_) #[true,true,true,true,true,true,true,true,true,true,true,true,true,true,true,true,true,true,true,true,true,true,true,true,true,true,true,true,true,true,true,true,true,false,false,false,false,false,false,false,false,false,false,false,false] rfl rfl ay (fun _ _ _ h=>h) (Or.inr ⟨by rfl,rfl⟩) ?_ ?_
   rotate_left
   ·simp only [Act.put,List.setIfInBounds_toArray,List.set_cons_zero,List.set_cons_succ,cm,cw]
    rfl
   refine cA (i:=33) (N:=some 41) (v:=undef) (a':=?_) #[true,true,true,true,true,true,true,true,true,true,true,true,true,true,true,true,true,true,true,true,true,true,true,true,true,true,true,true,true,true,true,true,true,true,false,false,false,false,false,false,false,false,false,false,false] rfl rfl ay (fun _ _ _ h=>h) (Or.inr ⟨by rfl,rfl⟩) ?_ ?_
   rotate_left
   ·simp only [Act.put,List.setIfInBounds_toArray,List.set_cons_zero,List.set_cons_succ,cm,cw]
    rfl
   refine cA (i:=34) (N:=some 42) (v:=undef) (a':=?_) #[true,true,true,true,true,true,true,true,true,true,true,true,true,true,true,true,true,true,true,true,true,true,true,true,true,true,true,true,true,true,true,true,true,true,true,false,false,false,false,false,false,false,false,false,false] rfl rfl ay (fun _ _ _ h=>h) (Or.inr ⟨by rfl,rfl⟩) ?_ ?_
   rotate_left
   ·simp only [Act.put,List.setIfInBounds_toArray,List.set_cons_zero,List.set_cons_succ,cm,cw]
    rfl
   refine cA (i:=35) (N:=some 43) (v:=undef) (a':=?_) #[true,true,true,true,true,true,true,true,true,true,true,true,true,true,true,true,true,true,true,true,true,true,true,true,true,true,true,true,true,true,true,true,true,true,true,true,false,false,false,false,false,false,false,false,false] rfl rfl ay (fun _ _ _ h=>h) (Or.inr ⟨by rfl,rfl⟩) ?_ ?_
   rotate_left
   ·simp only [Act.put,List.setIfInBounds_toArray,List.set_cons_zero,List.set_cons_succ,cm,cw]
    rfl
   refine cA (i:=36) (N:=some 44) (v:=undef) (a':=?_) #[true,true,true,true,true,true,true,true,true,true,true,true,true,true,true,true,true,true,true,true,true,true,true,true,true,true,true,true,true,true,true,true,true,true,true,true,true,false,false,false,false,false,false,false,false] rfl rfl ay (fun _ _ _ h=>h) (Or.inr ⟨by rfl,rfl⟩) ?_ ?_
   rotate_left
   ·simp only [Act.put,List.setIfInBounds_toArray,List.set_cons_zero,List.set_cons_succ,cm,cw]
    rfl
   refine cA (i:=37) (N:=some 45) (v:=undef) (a':=?_) #[true,true,true,true,true,true,true,true,true,true,true,true,true,true,true,true,true,true,true,true,true,true,true,true,true,true,true,true,true,true,true,true,true,true,true,true,true,true,false,false,false,false,false,false,false] rfl rfl ay (fun _ _ _ h=>h) (Or.inr ⟨by rfl,rfl⟩) ?_ ?_
   rotate_left
   ·simp only [Act.put,List.setIfInBounds_toArray,List.set_cons_zero,List.set_cons_succ,cm,cw]
    rfl
   refine cA (i:=38) (N:=some 46) (v:=undef) (a':=?_) #[true,true,true,true,true,true,true,true,true,true,true,true,true,true,true,true,true,true,true,true,true,true,true,true,true,true,true,true,true,true,true,true,true,true,true,true,true,true,true,false,false,false,false,false,false] rfl rfl ay (fun _ _ _ h=>h) (Or.inr ⟨by rfl,rfl⟩) ?_ ?_
   rotate_left
   ·simp only [Act.put,List.setIfInBounds_toArray,List.set_cons_zero,List.set_cons_succ,cm,cw]
    rfl
   refine cA (i:=39) (N:=some 47) (v:=undef) (a':=?_) #[true,true,true,true,true,true,true,true,true,true,true,true,true,true,true,true,true,true,true,true,true,true,true,true,true,true,true,true,true,true,true,true,true,true,true,true,true,true,true,true,false,false,false,false,false] rfl rfl ay (fun _ _ _ h=>h) (Or.inr ⟨by rfl,rfl⟩) ?_ ?_
   rotate_left
   ·simp only [Act.put,List.setIfInBounds_toArray,List.set_cons_zero,List.set_cons_succ,cm,cw]
    rfl
   refine cA (i:=40) (N:=some 48) (v:=undef) (a':=?_) #[true,true,true,true,true,true,true,true,true,true,true,true,true,true,true,true,true,true,true,true,true,true,true,true,true,true,true,true,true,true,true,true,true,true,true,true,true,true,true,true,true,false,false,false,false] rfl rfl ay (fun _ _ _ h=>h) (Or.inr ⟨by rfl,rfl⟩) ?_ ?_
   rotate_left
   ·simp only [Act.put,List.setIfInBounds_toArray,List.set_cons_zero,List.set_cons_succ,cm,cw]
    rfl
   refine cA (i:=41) (N:=some 49) (v:=undef) (a':=?_) #[true,true,true,true,true,true,true,true,true,true,true,true,true,true,true,true,true,true,true,true,true,true,true,true,true,true,true,true,true,true,true,true,true,true,true,true,true,true,true,true,true,true,false,false,false] rfl rfl ay (fun _ _ _ h=>h) (Or.inr ⟨by rfl,rfl⟩) ?_ ?_
   rotate_left
   ·simp only [Act.put,List.setIfInBounds_toArray,List.set_cons_zero,List.set_cons_succ,cm,cw]
    rfl
   refine cA (i:=42) (N:=some 50) (v:=undef) (a':=?_) #[true,true,true,true,true,true,true,true,true,true,true,true,true,true,true,true,true,true,true,true,true,true,true,true,true,true,true,true,true,true,true,true,true,true,true,true,true,true,true,true,true,true,true,false,false] rfl rfl ay (fun _ _ _ h=>h) (Or.inr ⟨by rfl,rfl⟩) ?_ ?_
   rotate_left
   ·simp only [Act.put,List.setIfInBounds_toArray,List.set_cons_zero,List.set_cons_succ,cm,cw]
    rfl
   refine cA (i:=43) (N:=some 51) (v:=undef) (a':=?_) #[true,true,true,true,true,true,true,true,true,true,true,true,true,true,true,true,true,true,true,true,true,true,true,true,true,true,true,true,true,true,true,true,true,true,true,true,true,true,true,true,true,true,true,true,false] rfl rfl ay (fun _ _ _ h=>h) (Or.inr ⟨by rfl,rfl⟩) ?_ ?_
   rotate_left
   ·simp only [Act.put,List.setIfInBounds_toArray,List.set_cons_zero,List.set_cons_succ,cm,cw]
    rfl
   refine cA (i:=44) (N:=some 52) (v:=?_) (a':=?_) #[true,true,true,true,true,true,true,true,true,true,true,true,true,true,true,true,true,true,true,true,true,true,true,true,true,true,true,true,true,true,true,true,true,true,true,true,true,true,true,true,true,true,true,true,true] rfl rfl ay (fun _ _ _ h=>h) (Or.inl ⟨by rfl,?_⟩) ?_ ?_
   rotate_left
   ·intro w'
    go_simp
    with_reducible rfl
   rotate_left
   ·simp only [Act.put,List.setIfInBounds_toArray,List.set_cons_zero,List.set_cons_succ,cm,cw]
    rfl
   refine tA ay ?_
   have H2:=af.mk (show bW.f2 k s p=some (r1,r2,r3,r4,r5,r6,r7,r8) from (if_neg (by rw [HA.out];decide)).symm.trans HH.out)
   clear HA HH
   have HE:=af.mk rq.out.held
   have Qz:=HE.out.ca
   have h:=H2.out
   clear H2
   unfold bW.f2 at h
   obtain ⟨⟨c1,c2,c3⟩,A1,h⟩:=Option.bind_eq_some_iff.mp h
   dsimp only at A1 h
   have xN:=af.mk A1
   clear A1
   cases h64:(c1 == 64) with
   |false=>
    rw [if_neg pV] at h
    unfold bW.f3 at h
    obtain ⟨⟨m1,m2,m3,m4,m5,m6⟩,Ab,h⟩:=Option.bind_eq_some_iff.mp h
    dsimp only at Ab h
    simp only [Option.some.injEq,Prod.mk.injEq] at h
    obtain ⟨rfl,rfl,rfl,rfl,rfl,rfl,rfl,rfl⟩:=h
    have I9:=af.mk Ab
    clear Ab
    go_wp2_with (first
     |(go_at_call 115;refine (ck.calls g s p c1 c2 c3 w0 _ HE.out.st HE.out.bl xN.out).mono ?_;rintro e w4 ⟨rfl,hi,hb,hk⟩;have nX:=af.mk (HE.out.call hi hb hk);have vQ:=nX.out.ca;clear hi hb hk)
     |(go_at_call 71;refine (bN.calls k g c2 c3 m1 m2 m3 m4 m5 m6 w0 _ nX.out.st nX.out.bl HG.out I9.out).mono ?_;rintro e w9 ⟨rfl,hi,hb,hk⟩;have eK:=af.mk (nX.out.call hi hb hk);have Ja:=eK.out.fb 0;have Jb:=eK.out.fb 1;have Jc:=eK.out.fb 2;have Jd:=eK.out.fb 3;have Je:=eK.out.fb 4;have Jf:w9.cell? ⟨w3.heap.size,0,none⟩=some (Value.bool false):=(ah eK.out.hb 0).trans rfl;have Jg:w9.cell? ⟨w3.heap.size,1,none⟩=some (Value.slice none 0 0):=(ah eK.out.hb 1).trans rfl;have Jh:w9.cell? ⟨w3.heap.size,2,none⟩=some (Value.string ⟨#[]⟩):=(ah eK.out.hb 2).trans rfl;have Ji:w9.cell? ⟨w3.heap.size,3,none⟩=some (Value.string ⟨#[]⟩):=(ah eK.out.hb 3).trans rfl;have Jj:w9.cell? ⟨w3.heap.size,4,none⟩=some (Value.bool false):=(ah eK.out.hb 4).trans rfl;have tY:=aa eK.out.hc 0;have tZ:=aa eK.out.hc 1;have ud:=aa eK.out.hc 2;have ue:=aa eK.out.hc 3;have uf:=aa eK.out.hc 4;have ug:w9.cell? ⟨w.heap.size + 1,0,none⟩=some (Value.bool false):=(ah eK.out.hc 0).trans rfl;have uh:w9.cell? ⟨w.heap.size + 1,1,none⟩=some (Value.slice none 0 0):=(ah eK.out.hc 1).trans rfl;have uj:w9.cell? ⟨w.heap.size + 1,2,none⟩=some (Value.string ⟨#[]⟩):=(ah eK.out.hc 2).trans rfl;have uk:w9.cell? ⟨w.heap.size + 1,3,none⟩=some (Value.string ⟨#[]⟩):=(ah eK.out.hc 3).trans rfl;have um:w9.cell? ⟨w.heap.size + 1,4,none⟩=some (Value.bool false):=(ah eK.out.hc 4).trans rfl;have hnb:w.heap.size + 1≠w3.heap.size:=Nat.ne_of_lt eK.out.gb;have Jk:w3.heap.size≠w.heap.size + 1:=(Nat.ne_of_lt eK.out.gb).symm;clear hi hb hk))
    have H8:=eK.out.box (.string m1) (.string m2) (.bool m3) rfl
    have H9:=kW (.bool false) (.slice none 0 0) (.string m1) (.string m2) (.bool m3) H8.2.1 H8.2.2.1 H8.2.2.2.1 eK.out.sz (Nat.le_succ _) H8.2.2.2.2.2 rfl
    refine bodyPost_ret (eY rfl _ _ (w.heap.size + 1) 32 #[.bool false,.slice none 0 0,.string m1,.string m2,.bool m3] (0,0) _ rfl H9.1 Tryz.underlying32 rfl ay) rfl ?_
    exact ⟨_,rfl,H9.2.2.2.2 _ _ H8.2.2.2.2.1,H9.2.1,H9.2.2.1,H9.2.2.2.1⟩
   |true=>
    rw [if_pos pV] at h
    obtain ⟨⟨l1,l2,l3,l4⟩,A2,h⟩:=Option.bind_eq_some_iff.mp h
    dsimp only at A2 h
    have Cm:=af.mk A2
    clear A2
    cases l1 with
    |false=>
     rw [if_neg bg] at h
     simp only [Option.some.injEq,Prod.mk.injEq] at h
     obtain ⟨rfl,rfl,rfl,rfl,rfl,rfl,rfl,rfl⟩:=h
     go_wp2_with (first
      |(go_at_call 115;refine (ck.calls g s p c1 c2 c3 w0 _ HE.out.st HE.out.bl xN.out).mono ?_;rintro e w4 ⟨rfl,hi,hb,hk⟩;have nX:=af.mk (HE.out.call hi hb hk);have vQ:=nX.out.ca;clear hi hb hk)
      |(go_at_call 67;refine (cg.calls k g _ _ c2 c3 _ [] false l2 l3 l4 w0 w _ nX.out Cm.out).mono ?_;rintro e w5 ⟨rfl,v5,h5⟩;have iX:=af.mk h5;have Bg:=iX.out.ca;clear h5;have tY:=aa iX.out.hc 0;have tZ:=aa iX.out.hc 1;have ud:=aa iX.out.hc 2;have ue:=aa iX.out.hc 3;have uf:=aa iX.out.hc 4;have ug:w5.cell? ⟨w.heap.size + 1,0,none⟩=some (Value.bool false):=(ah iX.out.hc 0).trans rfl;have uh:w5.cell? ⟨w.heap.size + 1,1,none⟩=some (Value.slice none 0 0):=(ah iX.out.hc 1).trans rfl;have uj:w5.cell? ⟨w.heap.size + 1,2,none⟩=some (Value.string ⟨#[]⟩):=(ah iX.out.hc 2).trans rfl;have uk:w5.cell? ⟨w.heap.size + 1,3,none⟩=some (Value.string ⟨#[]⟩):=(ah iX.out.hc 3).trans rfl;have um:w5.cell? ⟨w.heap.size + 1,4,none⟩=some (Value.bool false):=(ah iX.out.hc 4).trans rfl))
     have H9:=kW (W:=w5) (.bool false) (.slice none 0 0) (.string ⟨#[]⟩) (.string ⟨#[]⟩) (.bool false) iX.out.st iX.out.bl iX.out.kp iX.out.sz (Nat.le_succ _) iX.out.hc rfl
     refine bodyPost_ret (eY rfl _ _ (w.heap.size + 1) 32 #[.bool false,.slice none 0 0,.string ⟨#[]⟩,.string ⟨#[]⟩,.bool false] (0,0) _ rfl H9.1 Tryz.underlying32 rfl ay) rfl ?_
     exact ⟨_,rfl,Kd.oP _ _ _ _ _,H9.2.1,H9.2.2.1,H9.2.2.2.1⟩
    |true=>
     rw [if_pos rfl] at h
     obtain ⟨⟨u1,u2,u3⟩,A3,h⟩:=Option.bind_eq_some_iff.mp h
     dsimp only at A3 h
     have NH:=af.mk A3
     clear A3
     cases u1 with
     |false=>
      rw [if_neg bg] at h
      simp only [Option.some.injEq,Prod.mk.injEq] at h
      obtain ⟨rfl,rfl,rfl,rfl,rfl,rfl,rfl,rfl⟩:=h
      go_wp2_with (first
       |(go_at_call 115;refine (ck.calls g s p c1 c2 c3 w0 _ HE.out.st HE.out.bl xN.out).mono ?_;rintro e w4 ⟨rfl,hi,hb,hk⟩;have nX:=af.mk (HE.out.call hi hb hk);have vQ:=nX.out.ca;clear hi hb hk)
       |(go_at_call 67;refine (cg.calls k g _ _ c2 c3 _ [] true l2 l3 l4 w0 w _ nX.out Cm.out).mono ?_;rintro e w5 ⟨rfl,v5,h5⟩;have iX:=af.mk h5;have Bg:=iX.out.ca;clear h5)
       |(go_at_call 56;refine (bu.calls g l2 l3 58 false u2 u3 w0 _ iX.out.st iX.out.bl NH.out).mono ?_;rintro e w6 ⟨rfl,hi,hb,hk⟩;have jJ:=af.mk (iX.out.call hi hb hk);have Jl:=jJ.out.ca;clear hi hb hk;have tY:=aa jJ.out.hc 0;have tZ:=aa jJ.out.hc 1;have ud:=aa jJ.out.hc 2;have ue:=aa jJ.out.hc 3;have uf:=aa jJ.out.hc 4;have ug:w6.cell? ⟨w.heap.size + 1,0,none⟩=some (Value.bool false):=(ah jJ.out.hc 0).trans rfl;have uh:w6.cell? ⟨w.heap.size + 1,1,none⟩=some (Value.slice none 0 0):=(ah jJ.out.hc 1).trans rfl;have uj:w6.cell? ⟨w.heap.size + 1,2,none⟩=some (Value.string ⟨#[]⟩):=(ah jJ.out.hc 2).trans rfl;have uk:w6.cell? ⟨w.heap.size + 1,3,none⟩=some (Value.string ⟨#[]⟩):=(ah jJ.out.hc 3).trans rfl;have um:w6.cell? ⟨w.heap.size + 1,4,none⟩=some (Value.bool false):=(ah jJ.out.hc 4).trans rfl))
      have H9:=kW (W:=w6) (.bool false) (.slice none 0 0) (.string ⟨#[]⟩) (.string ⟨#[]⟩) (.bool false) jJ.out.st jJ.out.bl jJ.out.kp jJ.out.sz (Nat.le_succ _) jJ.out.hc rfl
      refine bodyPost_ret (eY rfl _ _ (w.heap.size + 1) 32 #[.bool false,.slice none 0 0,.string ⟨#[]⟩,.string ⟨#[]⟩,.bool false] (0,0) _ rfl H9.1 Tryz.underlying32 rfl ay) rfl ?_
      exact ⟨_,rfl,Kd.oP _ _ _ _ _,H9.2.1,H9.2.2.1,H9.2.2.2.1⟩
     |true=>
      rw [if_pos rfl] at h
      unfold bW.f3 at h
      obtain ⟨⟨m1,m2,m3,m4,m5,m6⟩,Ab,h⟩:=Option.bind_eq_some_iff.mp h
      dsimp only at Ab h
      simp only [Option.some.injEq,Prod.mk.injEq] at h
      obtain ⟨rfl,rfl,rfl,rfl,rfl,rfl,rfl,rfl⟩:=h
      have I9:=af.mk Ab
      clear Ab
      go_wp2_with (first
       |(go_at_call 115;refine (ck.calls g s p c1 c2 c3 w0 _ HE.out.st HE.out.bl xN.out).mono ?_;rintro e w4 ⟨rfl,hi,hb,hk⟩;have nX:=af.mk (HE.out.call hi hb hk);have vQ:=nX.out.ca;clear hi hb hk)
       |(go_at_call 67;refine (cg.calls k g _ _ c2 c3 _ [] true l2 l3 l4 w0 w _ nX.out Cm.out).mono ?_;rintro e w5 ⟨rfl,v5,h5⟩;have iX:=af.mk h5;have Bg:=iX.out.ca;clear h5)
       |(go_at_call 56;refine (bu.calls g l2 l3 58 true u2 u3 w0 _ iX.out.st iX.out.bl NH.out).mono ?_;rintro e w6 ⟨rfl,hi,hb,hk⟩;have jJ:=af.mk (iX.out.call hi hb hk);have Jl:=jJ.out.ca;clear hi hb hk)
       |(go_at_call 71;refine (bN.calls k g u2 u3 m1 m2 m3 m4 m5 m6 w0 _ jJ.out.st jJ.out.bl HG.out I9.out).mono ?_;rintro e w9 ⟨rfl,hi,hb,hk⟩;have eK:=af.mk (jJ.out.call hi hb hk);obtain ⟨A9,c9,e9⟩:=Kd.jm eK.out.hr;subst e9;have Ja:=eK.out.fb 0;have Jb:=eK.out.fb 1;have Jc:=eK.out.fb 2;have Jd:=eK.out.fb 3;have Je:=eK.out.fb 4;have Jf:w9.cell? ⟨w3.heap.size,0,none⟩=some (Value.bool false):=(ah eK.out.hb 0).trans rfl;have Jg:w9.cell? ⟨w3.heap.size,1,none⟩=some (Value.slice A9 l4.length c9):=(ah eK.out.hb 1).trans rfl;have Jh:w9.cell? ⟨w3.heap.size,2,none⟩=some (Value.string ⟨#[]⟩):=(ah eK.out.hb 2).trans rfl;have Ji:w9.cell? ⟨w3.heap.size,3,none⟩=some (Value.string ⟨#[]⟩):=(ah eK.out.hb 3).trans rfl;have Jj:w9.cell? ⟨w3.heap.size,4,none⟩=some (Value.bool false):=(ah eK.out.hb 4).trans rfl;have tY:=aa eK.out.hc 0;have tZ:=aa eK.out.hc 1;have ud:=aa eK.out.hc 2;have ue:=aa eK.out.hc 3;have uf:=aa eK.out.hc 4;have ug:w9.cell? ⟨w.heap.size + 1,0,none⟩=some (Value.bool false):=(ah eK.out.hc 0).trans rfl;have uh:w9.cell? ⟨w.heap.size + 1,1,none⟩=some (Value.slice none 0 0):=(ah eK.out.hc 1).trans rfl;have uj:w9.cell? ⟨w.heap.size + 1,2,none⟩=some (Value.string ⟨#[]⟩):=(ah eK.out.hc 2).trans rfl;have uk:w9.cell? ⟨w.heap.size + 1,3,none⟩=some (Value.string ⟨#[]⟩):=(ah eK.out.hc 3).trans rfl;have um:w9.cell? ⟨w.heap.size + 1,4,none⟩=some (Value.bool false):=(ah eK.out.hc 4).trans rfl;have hnb:w.heap.size + 1≠w3.heap.size:=Nat.ne_of_lt eK.out.gb;have Jk:w3.heap.size≠w.heap.size + 1:=(Nat.ne_of_lt eK.out.gb).symm;clear hi hb hk))
      have H8:=eK.out.box (.string m1) (.string m2) (.bool m3) rfl
      have H9:=kW (.bool false) (.slice A9 l4.length c9) (.string m1) (.string m2) (.bool m3) H8.2.1 H8.2.2.1 H8.2.2.2.1 eK.out.sz (Nat.le_succ _) H8.2.2.2.2.2 rfl
      refine bodyPost_ret (eY rfl _ _ (w.heap.size + 1) 32 #[.bool false,.slice A9 l4.length c9,.string m1,.string m2,.bool m3] (0,0) _ rfl H9.1 Tryz.underlying32 rfl ay) rfl ?_
      exact ⟨_,rfl,H9.2.2.2.2 _ _ H8.2.2.2.2.1,H9.2.1,H9.2.2.1,H9.2.2.2.1⟩
  |true=>
   cases h62:(bt s (p + 10) == 62) with
   |false=>
    have HA:=af.mk (show kE s p=false by unfold kE;rw [HX.out,hq,h62];simp)
    go_region_held3 (fun w'=>w'.cell? ⟨w.heap.size,0,none⟩=some (.pointer (some ⟨g,0,none⟩))∧w'.cell? ⟨g,0,none⟩=some (.string s)∧w'.cell? ⟨g,1,none⟩=some (.int .i64 p)∧af (ke w0 w w' g s p)) (first|exact ⟨hca,hc0,hc1,af.mk (HF.out.below (aW (Below.refl _ _)))⟩|(refine ⟨?_,?_,?_,?_⟩<;>assumption))
     (first|(go_at_call 81;obtain ⟨_,_,_,hF⟩:=‹_∧_∧_∧af (ke w0 w _ g s p)›;refine (HC.out _).mono ?_;rintro e w3 ⟨rfl,hb⟩;have QA:=ke.below hF.out hb;have rq:=af.mk QA;clear hF QA;have aaG:w3.cell? ⟨w.heap.size,0,none⟩=some (.pointer (some ⟨g,0,none⟩)):=(ah rq.out.ha 0).trans rfl;have aaH:w3.cell? ⟨g,0,none⟩=some (.string s):=(ah rq.out.st.1 0).trans rfl;have aaI:w3.cell? ⟨g,1,none⟩=some (.int .i64 p):=(ah rq.out.st.1 1).trans rfl;clear hb))
    have H2:=af.mk (show bW.f2 k s p=some (r1,r2,r3,r4,r5,r6,r7,r8) from (if_neg (by rw [HA.out];decide)).symm.trans HH.out)
    clear HA HH
    have HE:=af.mk rq.out.held
    have Qz:=HE.out.ca
    have h:=H2.out
    clear H2
    unfold bW.f2 at h
    obtain ⟨⟨c1,c2,c3⟩,A1,h⟩:=Option.bind_eq_some_iff.mp h
    dsimp only at A1 h
    have xN:=af.mk A1
    clear A1
    cases h64:(c1 == 64) with
    |false=>
     rw [if_neg pV] at h
     unfold bW.f3 at h
     obtain ⟨⟨m1,m2,m3,m4,m5,m6⟩,Ab,h⟩:=Option.bind_eq_some_iff.mp h
     dsimp only at Ab h
     simp only [Option.some.injEq,Prod.mk.injEq] at h
     obtain ⟨rfl,rfl,rfl,rfl,rfl,rfl,rfl,rfl⟩:=h
     have I9:=af.mk Ab
     clear Ab
     go_wp2_with (first
      |(go_at_call 115;refine (ck.calls g s p c1 c2 c3 w0 _ HE.out.st HE.out.bl xN.out).mono ?_;rintro e w4 ⟨rfl,hi,hb,hk⟩;have nX:=af.mk (HE.out.call hi hb hk);have vQ:=nX.out.ca;clear hi hb hk)
      |(go_at_call 71;refine (bN.calls k g c2 c3 m1 m2 m3 m4 m5 m6 w0 _ nX.out.st nX.out.bl HG.out I9.out).mono ?_;rintro e w9 ⟨rfl,hi,hb,hk⟩;have eK:=af.mk (nX.out.call hi hb hk);have Ja:=eK.out.fb 0;have Jb:=eK.out.fb 1;have Jc:=eK.out.fb 2;have Jd:=eK.out.fb 3;have Je:=eK.out.fb 4;have Jf:w9.cell? ⟨w3.heap.size,0,none⟩=some (Value.bool false):=(ah eK.out.hb 0).trans rfl;have Jg:w9.cell? ⟨w3.heap.size,1,none⟩=some (Value.slice none 0 0):=(ah eK.out.hb 1).trans rfl;have Jh:w9.cell? ⟨w3.heap.size,2,none⟩=some (Value.string ⟨#[]⟩):=(ah eK.out.hb 2).trans rfl;have Ji:w9.cell? ⟨w3.heap.size,3,none⟩=some (Value.string ⟨#[]⟩):=(ah eK.out.hb 3).trans rfl;have Jj:w9.cell? ⟨w3.heap.size,4,none⟩=some (Value.bool false):=(ah eK.out.hb 4).trans rfl;have tY:=aa eK.out.hc 0;have tZ:=aa eK.out.hc 1;have ud:=aa eK.out.hc 2;have ue:=aa eK.out.hc 3;have uf:=aa eK.out.hc 4;have ug:w9.cell? ⟨w.heap.size + 1,0,none⟩=some (Value.bool false):=(ah eK.out.hc 0).trans rfl;have uh:w9.cell? ⟨w.heap.size + 1,1,none⟩=some (Value.slice none 0 0):=(ah eK.out.hc 1).trans rfl;have uj:w9.cell? ⟨w.heap.size + 1,2,none⟩=some (Value.string ⟨#[]⟩):=(ah eK.out.hc 2).trans rfl;have uk:w9.cell? ⟨w.heap.size + 1,3,none⟩=some (Value.string ⟨#[]⟩):=(ah eK.out.hc 3).trans rfl;have um:w9.cell? ⟨w.heap.size + 1,4,none⟩=some (Value.bool false):=(ah eK.out.hc 4).trans rfl;have hnb:w.heap.size + 1≠w3.heap.size:=Nat.ne_of_lt eK.out.gb;have Jk:w3.heap.size≠w.heap.size + 1:=(Nat.ne_of_lt eK.out.gb).symm;clear hi hb hk))
     have H8:=eK.out.box (.string m1) (.string m2) (.bool m3) rfl
     have H9:=kW (.bool false) (.slice none 0 0) (.string m1) (.string m2) (.bool m3) H8.2.1 H8.2.2.1 H8.2.2.2.1 eK.out.sz (Nat.le_succ _) H8.2.2.2.2.2 rfl
     refine bodyPost_ret (eY rfl _ _ (w.heap.size + 1) 32 #[.bool false,.slice none 0 0,.string m1,.string m2,.bool m3] (0,0) _ rfl H9.1 Tryz.underlying32 rfl ay) rfl ?_
     exact ⟨_,rfl,H9.2.2.2.2 _ _ H8.2.2.2.2.1,H9.2.1,H9.2.2.1,H9.2.2.2.1⟩
    |true=>
     rw [if_pos pV] at h
     obtain ⟨⟨l1,l2,l3,l4⟩,A2,h⟩:=Option.bind_eq_some_iff.mp h
     dsimp only at A2 h
     have Cm:=af.mk A2
     clear A2
     cases l1 with
     |false=>
      rw [if_neg bg] at h
      simp only [Option.some.injEq,Prod.mk.injEq] at h
      obtain ⟨rfl,rfl,rfl,rfl,rfl,rfl,rfl,rfl⟩:=h
      go_wp2_with (first
       |(go_at_call 115;refine (ck.calls g s p c1 c2 c3 w0 _ HE.out.st HE.out.bl xN.out).mono ?_;rintro e w4 ⟨rfl,hi,hb,hk⟩;have nX:=af.mk (HE.out.call hi hb hk);have vQ:=nX.out.ca;clear hi hb hk)
       |(go_at_call 67;refine (cg.calls k g _ _ c2 c3 _ [] false l2 l3 l4 w0 w _ nX.out Cm.out).mono ?_;rintro e w5 ⟨rfl,v5,h5⟩;have iX:=af.mk h5;have Bg:=iX.out.ca;clear h5;have tY:=aa iX.out.hc 0;have tZ:=aa iX.out.hc 1;have ud:=aa iX.out.hc 2;have ue:=aa iX.out.hc 3;have uf:=aa iX.out.hc 4;have ug:w5.cell? ⟨w.heap.size + 1,0,none⟩=some (Value.bool false):=(ah iX.out.hc 0).trans rfl;have uh:w5.cell? ⟨w.heap.size + 1,1,none⟩=some (Value.slice none 0 0):=(ah iX.out.hc 1).trans rfl;have uj:w5.cell? ⟨w.heap.size + 1,2,none⟩=some (Value.string ⟨#[]⟩):=(ah iX.out.hc 2).trans rfl;have uk:w5.cell? ⟨w.heap.size + 1,3,none⟩=some (Value.string ⟨#[]⟩):=(ah iX.out.hc 3).trans rfl;have um:w5.cell? ⟨w.heap.size + 1,4,none⟩=some (Value.bool false):=(ah iX.out.hc 4).trans rfl))
      have H9:=kW (W:=w5) (.bool false) (.slice none 0 0) (.string ⟨#[]⟩) (.string ⟨#[]⟩) (.bool false) iX.out.st iX.out.bl iX.out.kp iX.out.sz (Nat.le_succ _) iX.out.hc rfl
      refine bodyPost_ret (eY rfl _ _ (w.heap.size + 1) 32 #[.bool false,.slice none 0 0,.string ⟨#[]⟩,.string ⟨#[]⟩,.bool false] (0,0) _ rfl H9.1 Tryz.underlying32 rfl ay) rfl ?_
      exact ⟨_,rfl,Kd.oP _ _ _ _ _,H9.2.1,H9.2.2.1,H9.2.2.2.1⟩
     |true=>
      rw [if_pos rfl] at h
      obtain ⟨⟨u1,u2,u3⟩,A3,h⟩:=Option.bind_eq_some_iff.mp h
      dsimp only at A3 h
      have NH:=af.mk A3
      clear A3
      cases u1 with
      |false=>
       rw [if_neg bg] at h
       simp only [Option.some.injEq,Prod.mk.injEq] at h
       obtain ⟨rfl,rfl,rfl,rfl,rfl,rfl,rfl,rfl⟩:=h
       go_wp2_with (first
        |(go_at_call 115;refine (ck.calls g s p c1 c2 c3 w0 _ HE.out.st HE.out.bl xN.out).mono ?_;rintro e w4 ⟨rfl,hi,hb,hk⟩;have nX:=af.mk (HE.out.call hi hb hk);have vQ:=nX.out.ca;clear hi hb hk)
        |(go_at_call 67;refine (cg.calls k g _ _ c2 c3 _ [] true l2 l3 l4 w0 w _ nX.out Cm.out).mono ?_;rintro e w5 ⟨rfl,v5,h5⟩;have iX:=af.mk h5;have Bg:=iX.out.ca;clear h5)
        |(go_at_call 56;refine (bu.calls g l2 l3 58 false u2 u3 w0 _ iX.out.st iX.out.bl NH.out).mono ?_;rintro e w6 ⟨rfl,hi,hb,hk⟩;have jJ:=af.mk (iX.out.call hi hb hk);have Jl:=jJ.out.ca;clear hi hb hk;have tY:=aa jJ.out.hc 0;have tZ:=aa jJ.out.hc 1;have ud:=aa jJ.out.hc 2;have ue:=aa jJ.out.hc 3;have uf:=aa jJ.out.hc 4;have ug:w6.cell? ⟨w.heap.size + 1,0,none⟩=some (Value.bool false):=(ah jJ.out.hc 0).trans rfl;have uh:w6.cell? ⟨w.heap.size + 1,1,none⟩=some (Value.slice none 0 0):=(ah jJ.out.hc 1).trans rfl;have uj:w6.cell? ⟨w.heap.size + 1,2,none⟩=some (Value.string ⟨#[]⟩):=(ah jJ.out.hc 2).trans rfl;have uk:w6.cell? ⟨w.heap.size + 1,3,none⟩=some (Value.string ⟨#[]⟩):=(ah jJ.out.hc 3).trans rfl;have um:w6.cell? ⟨w.heap.size + 1,4,none⟩=some (Value.bool false):=(ah jJ.out.hc 4).trans rfl))
       have H9:=kW (W:=w6) (.bool false) (.slice none 0 0) (.string ⟨#[]⟩) (.string ⟨#[]⟩) (.bool false) jJ.out.st jJ.out.bl jJ.out.kp jJ.out.sz (Nat.le_succ _) jJ.out.hc rfl
       refine bodyPost_ret (eY rfl _ _ (w.heap.size + 1) 32 #[.bool false,.slice none 0 0,.string ⟨#[]⟩,.string ⟨#[]⟩,.bool false] (0,0) _ rfl H9.1 Tryz.underlying32 rfl ay) rfl ?_
       exact ⟨_,rfl,Kd.oP _ _ _ _ _,H9.2.1,H9.2.2.1,H9.2.2.2.1⟩
      |true=>
       rw [if_pos rfl] at h
       unfold bW.f3 at h
       obtain ⟨⟨m1,m2,m3,m4,m5,m6⟩,Ab,h⟩:=Option.bind_eq_some_iff.mp h
       dsimp only at Ab h
       simp only [Option.some.injEq,Prod.mk.injEq] at h
       obtain ⟨rfl,rfl,rfl,rfl,rfl,rfl,rfl,rfl⟩:=h
       have I9:=af.mk Ab
       clear Ab
       go_wp2_with (first
        |(go_at_call 115;refine (ck.calls g s p c1 c2 c3 w0 _ HE.out.st HE.out.bl xN.out).mono ?_;rintro e w4 ⟨rfl,hi,hb,hk⟩;have nX:=af.mk (HE.out.call hi hb hk);have vQ:=nX.out.ca;clear hi hb hk)
        |(go_at_call 67;refine (cg.calls k g _ _ c2 c3 _ [] true l2 l3 l4 w0 w _ nX.out Cm.out).mono ?_;rintro e w5 ⟨rfl,v5,h5⟩;have iX:=af.mk h5;have Bg:=iX.out.ca;clear h5)
        |(go_at_call 56;refine (bu.calls g l2 l3 58 true u2 u3 w0 _ iX.out.st iX.out.bl NH.out).mono ?_;rintro e w6 ⟨rfl,hi,hb,hk⟩;have jJ:=af.mk (iX.out.call hi hb hk);have Jl:=jJ.out.ca;clear hi hb hk)
        |(go_at_call 71;refine (bN.calls k g u2 u3 m1 m2 m3 m4 m5 m6 w0 _ jJ.out.st jJ.out.bl HG.out I9.out).mono ?_;rintro e w9 ⟨rfl,hi,hb,hk⟩;have eK:=af.mk (jJ.out.call hi hb hk);obtain ⟨A9,c9,e9⟩:=Kd.jm eK.out.hr;subst e9;have Ja:=eK.out.fb 0;have Jb:=eK.out.fb 1;have Jc:=eK.out.fb 2;have Jd:=eK.out.fb 3;have Je:=eK.out.fb 4;have Jf:w9.cell? ⟨w3.heap.size,0,none⟩=some (Value.bool false):=(ah eK.out.hb 0).trans rfl;have Jg:w9.cell? ⟨w3.heap.size,1,none⟩=some (Value.slice A9 l4.length c9):=(ah eK.out.hb 1).trans rfl;have Jh:w9.cell? ⟨w3.heap.size,2,none⟩=some (Value.string ⟨#[]⟩):=(ah eK.out.hb 2).trans rfl;have Ji:w9.cell? ⟨w3.heap.size,3,none⟩=some (Value.string ⟨#[]⟩):=(ah eK.out.hb 3).trans rfl;have Jj:w9.cell? ⟨w3.heap.size,4,none⟩=some (Value.bool false):=(ah eK.out.hb 4).trans rfl;have tY:=aa eK.out.hc 0;have tZ:=aa eK.out.hc 1;have ud:=aa eK.out.hc 2;have ue:=aa eK.out.hc 3;have uf:=aa eK.out.hc 4;have ug:w9.cell? ⟨w.heap.size + 1,0,none⟩=some (Value.bool false):=(ah eK.out.hc 0).trans rfl;have uh:w9.cell? ⟨w.heap.size + 1,1,none⟩=some (Value.slice none 0 0):=(ah eK.out.hc 1).trans rfl;have uj:w9.cell? ⟨w.heap.size + 1,2,none⟩=some (Value.string ⟨#[]⟩):=(ah eK.out.hc 2).trans rfl;have uk:w9.cell? ⟨w.heap.size + 1,3,none⟩=some (Value.string ⟨#[]⟩):=(ah eK.out.hc 3).trans rfl;have um:w9.cell? ⟨w.heap.size + 1,4,none⟩=some (Value.bool false):=(ah eK.out.hc 4).trans rfl;have hnb:w.heap.size + 1≠w3.heap.size:=Nat.ne_of_lt eK.out.gb;have Jk:w3.heap.size≠w.heap.size + 1:=(Nat.ne_of_lt eK.out.gb).symm;clear hi hb hk))
       have H8:=eK.out.box (.string m1) (.string m2) (.bool m3) rfl
       have H9:=kW (.bool false) (.slice A9 l4.length c9) (.string m1) (.string m2) (.bool m3) H8.2.1 H8.2.2.1 H8.2.2.2.1 eK.out.sz (Nat.le_succ _) H8.2.2.2.2.2 rfl
       refine bodyPost_ret (eY rfl _ _ (w.heap.size + 1) 32 #[.bool false,.slice A9 l4.length c9,.string m1,.string m2,.bool m3] (0,0) _ rfl H9.1 Tryz.underlying32 rfl ay) rfl ?_
       exact ⟨_,rfl,H9.2.2.2.2 _ _ H8.2.2.2.2.1,H9.2.1,H9.2.2.1,H9.2.2.2.1⟩
   |true=>
    have HA:=af.mk (show kE s p=true by unfold kE;rw [HX.out,hq,h62,decide_eq_true hr];rfl)
    go_region_held3 (fun w'=>w'.cell? ⟨w.heap.size,0,none⟩=some (.pointer (some ⟨g,0,none⟩))∧w'.cell? ⟨g,0,none⟩=some (.string s)∧w'.cell? ⟨g,1,none⟩=some (.int .i64 p)∧af (ke w0 w w' g s p)) (first|exact ⟨hca,hc0,hc1,af.mk (HF.out.below (aW (Below.refl _ _)))⟩|(refine ⟨?_,?_,?_,?_⟩<;>assumption))
     (first|(go_at_call 81;obtain ⟨_,_,_,hF⟩:=‹_∧_∧_∧af (ke w0 w _ g s p)›;refine (HC.out _).mono ?_;rintro e w3 ⟨rfl,hb⟩;have QA:=ke.below hF.out hb;have rq:=af.mk QA;clear hF QA;have aaG:w3.cell? ⟨w.heap.size,0,none⟩=some (.pointer (some ⟨g,0,none⟩)):=(ah rq.out.ha 0).trans rfl;have aaH:w3.cell? ⟨g,0,none⟩=some (.string s):=(ah rq.out.st.1 0).trans rfl;have aaI:w3.cell? ⟨g,1,none⟩=some (.int .i64 p):=(ah rq.out.st.1 1).trans rfl;clear hb))
    have H2:=af.mk ((if_pos HA.out).symm.trans HH.out)
    have h:=H2.out
    simp only [Option.some.injEq,Prod.mk.injEq] at h
    obtain ⟨rfl,rfl,rfl,rfl,rfl,rfl,rfl,rfl⟩:=h
    clear H2 HH
    have hk1:w3.frozen? ⟨g,1,none⟩=false:=aa rq.out.st.1 1
    have tY:=aa rq.out.hc 0
    have tZ:=aa rq.out.hc 1
    have ud:=aa rq.out.hc 2
    have ue:=aa rq.out.hc 3
    have uf:=aa rq.out.hc 4
    have ug:w3.cell? ⟨w.heap.size + 1,0,none⟩=some (Value.bool false):=(ah rq.out.hc 0).trans rfl
    have uh:w3.cell? ⟨w.heap.size + 1,1,none⟩=some (Value.slice none 0 0):=(ah rq.out.hc 1).trans rfl
    have uj:w3.cell? ⟨w.heap.size + 1,2,none⟩=some (Value.string ⟨#[]⟩):=(ah rq.out.hc 2).trans rfl
    have uk:w3.cell? ⟨w.heap.size + 1,3,none⟩=some (Value.string ⟨#[]⟩):=(ah rq.out.hc 3).trans rfl
    have um:w3.cell? ⟨w.heap.size + 1,4,none⟩=some (Value.bool false):=(ah rq.out.hc 4).trans rfl
    have hng:g≠w.heap.size + 1:=aq.kS rq.out.st rq.out.hc bg
    have aer:=hng.symm
    go_wp2
    have H0:=rq.out.set (p + 10)
    have H9:=kW (.bool false) (.slice none 0 0) (.string fN) (.string ⟨#[]⟩) (.bool false) H0.st H0.bl H0.kp H0.sz (Nat.le_succ _) H0.hc rfl
    refine bodyPost_ret (eY rfl _ _ (w.heap.size + 1) 32 #[.bool false,.slice none 0 0,.string fN,.string ⟨#[]⟩,.bool false] (0,0) _ rfl H9.1 Tryz.underlying32 rfl ay) rfl ?_
    exact ⟨_,rfl,Kd.oP _ _ _ _ _,H9.2.1,H9.2.2.1,H9.2.2.2.1⟩
end Go.Proofs.YtokpnfljjjjikaaGreatDoor.lO
