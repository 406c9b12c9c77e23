import Derived.Test.YtokpnfljjjjikaaGreatDoorQCbx8
set_option maxHeartbeats 8000000
set_option maxRecDepth 100000
namespace Go.Proofs.YtokpnfljjjjikaaGreatDoor.nK
open Go.RowKit Go.Proofs.aj.bQ Go.Proofs.aj.fR Go.Proofs.aj.cM
set_option linter.unusedSimpArgs false
def gQ.f (k:Nat) (s:ByteArray) (p:Int) (rs:List ByteArray):Option (Bool×ByteArray×Int×List ByteArray):=
 (bf.f s p 64).bind fun t=>(cg.f k t.2.1 t.2.2).bind fun d=>if rs.length < 8000000000000 then some (t.1 && d.2.1,d.2.2.1,d.2.2.2,rs ++ [d.1]) else none
def dm.l0:Nat→ByteArray→Int→List ByteArray→Option (Bool×ByteArray×Int×List ByteArray)
 | 0,_,_,_ =>none
 |k + 1,s,p,rs=>(gQ.f k s p rs).bind fun t=>if t.1=true then (bf.f t.2.1 t.2.2.1 44).bind fun c=>if c.1=true then dm.l0 k c.2.1 c.2.2 t.2.2.2 else some (true,c.2.1,c.2.2,t.2.2.2) else some (false,t.2.1,t.2.2.1,t.2.2.2)
structure Held (w0 we W:World) (g a b:Nat) (s:ByteArray) (p:Int) (v:Value) (rs:List ByteArray):Prop where
 st:ay w0 W g s p
 bl:Below w0.heap.size w0 W
 kp:br we W g none
 ha:W.heap[a]? =some (.cells #[.pointer (some ⟨g,0,none⟩)] 80 (0,0))
 hb:W.heap[b]? =some (.cells #[.bool false,v,.string ⟨#[]⟩,.string ⟨#[]⟩,.bool false] 32 (0,0))
 hr:Kd.R Kd.string 9 W we.heap.size (fun _ =>True) v rs
 sz:w0.heap.size≤we.heap.size
 hc:W.heap[we.heap.size + 1]? =some (.cells #[.bool false,.slice none 0 0,.string ⟨#[]⟩,.string ⟨#[]⟩,.bool false] 32 (0,0))
 ga:we.heap.size≤a
 gb:we.heap.size + 1 < b
section
variable {w0 we W W1:World} {g a b:Nat} {s s1:ByteArray} {p p1:Int} {v:Value} {rs:List ByteArray}
theorem Held.call (H:Held w0 we W g a b s p v rs) (hi:ay w0 W1 g s1 p1) (hb:Below w0.heap.size w0 W1) (hk:br W W1 g none):Held w0 we W1 g a b s1 p1 v rs where
 st:=hi
 bl:=hb
 kp:=H.kp.trans hk (.inl rfl)
 ha:=br.blk hk H.ha (ay.pU H.st H.ha bG).symm aV
 hb:=br.blk hk H.hb (ay.pU H.st H.hb bG).symm aV
 hr:=Kd.gL (Kd.rQ (ay.apart H.st H.hr bG) hk (fun _ h=>h.2)) (fun _ h=>h.1)
 sz:=H.sz
 hc:=br.blk hk H.hc (ay.pU H.st H.hc bG).symm aV
 ga:=H.ga
 gb:=H.gb
theorem Held.ca (H:Held w0 we W g a b s p v rs):W.cell? ⟨a,0,none⟩=some (.pointer (some ⟨g,0,none⟩)):=(af H.ha 0).trans rfl
theorem Held.cb (H:Held w0 we W g a b s p v rs):W.cell? ⟨b,1,none⟩=some v:=(af H.hb 1).trans rfl
theorem Held.fb (H:Held w0 we W g a b s p v rs) (j:Nat):W.frozen? ⟨b,j,none⟩=false:=aa H.hb j
theorem Held.alloc (H:Held w0 we W g a b s p v rs) (o:Obj):Held w0 we (W.alloc o) g a b s p v rs:=
 H.call (H.st.alloc o) (aG H.bl o) (oq (br.refl _ _ _) o)
theorem Held.app (H:Held w0 we W g a b s p v rs) {v1:Value} {W2:World} {n:ByteArray} (ho:Kd.R Kd.string 9 W2 we.heap.size (fun _ =>True) v1 (rs ++ [n])) (hb:Below we.heap.size W W2) (hg:W.grownBy W2 v.ownBlock):Held w0 we (W2.setCell ⟨b,1,none⟩ v1) g a b s p v1 (rs ++ [n]):=by
 have hB:W2.heap[b]? =some (.cells #[.bool false,v,.string ⟨#[]⟩,.string ⟨#[]⟩,.bool false] 32 (0,0)):=rF H.hb hg (Kd.SD H.hr H.hb bG)
 have hA:W2.heap[a]? =some (.cells #[.pointer (some ⟨g,0,none⟩)] 80 (0,0)):=rF H.ha hg (Kd.SD H.hr H.ha bG)
 have hS:ay w0 W2 g s p:=ay.grown H.st hg (ay.own_ne H.st H.hr bG)
 have hab:a≠b:=by
  rintro rfl
  rw [hA] at hB
  simp at hB
 have hgb:g≠b:=ay.pU hS hB bG
 have hC:W2.heap[we.heap.size + 1]? =some (.cells #[.bool false,.slice none 0 0,.string ⟨#[]⟩,.string ⟨#[]⟩,.bool false] 32 (0,0)):=rF H.hc hg (Kd.SD H.hr H.hc bG)
 have hG:=H.gb
 refine ⟨ay.far hS hgb _,?_,?_,?_,?_,?_,H.sz,iM hC (by show _≠b;omega) _,H.ga,H.gb⟩
 ·exact (bR H.bl H.sz hb).setCell (Nat.le_trans H.sz (by show _≤b;omega)) _
 ·exact nR (br.trans H.kp (br.oY hg g) (Kd.uD H.hr)) (by show _≤b;omega) _
 ·exact iM hA hab _
 ·have:=DI hB 1 v1
  simpa using this
 ·refine Kd.gL (Kd.eu (Kd.gL (Kd.uC ho) (ok':=fun k=>k≠b) ?_) (fun k hk=>hk) v1) (fun _ _ =>trivial)
  rintro k ⟨_,_,_,q,hq,cells,hc⟩ rfl
  rw [hB] at hc
  injection hc with hc
  injection hc with _ hc
  have h1:q=9∨q∈Kd.string.E:=by simpa using hq
  rcases h1 with h1|h1
  ·exact absurd (hc.trans h1) bG
  ·cases h1
end
theorem gQ.calls (k g a b:Nat) (s:ByteArray) (p:Int) (v:Value) (rs:List ByteArray) (r1:Bool) (s1:ByteArray) (p1:Int) (rs1:List ByteArray) (w0 we w:World) (H:Held w0 we w g a b s p v rs) (h:gQ.f k s p rs=some (r1,s1,p1,rs1)):
 Calls Tryz.prog 116 #[.pointer (some ⟨a,0,none⟩),.pointer (some ⟨b,0,none⟩)] w fun e w'=>e= .returned (.bool r1)∧∃ v1,Held w0 we w' g a b s1 p1 v1 rs1:=by
 unfold gQ.f at h
 obtain ⟨⟨t1,t2,t3⟩,A1,h⟩:=Option.bind_eq_some_iff.mp h
 obtain ⟨⟨d1,d2,d3,d4⟩,A2,h⟩:=Option.bind_eq_some_iff.mp h
 dsimp only at A1 A2 h
 have ht:t1=true∨t1=false:=by cases t1<;>simp
 by_cases hl:rs.length < 8000000000000
 case neg=>rw [if_neg hl] at h;cases h
 rw [if_pos hl] at h
 simp only [Option.some.injEq,Prod.mk.injEq] at h
 obtain ⟨rfl,rfl,rfl,rfl⟩:=h
 have HL:=ah.mk hl
 have pS:=ah.mk A1
 have qu:=ah.mk A2
 have HH:=ah.mk H
 have hca:=H.ca
 clear hl A1 A2 H
 go_enter Tryz.func116,Tryz.ntmps116
 go_wp2_with (first
  |(go_at_call 56;refine (bf.calls g s p 64 t1 t2 t3 w0 w HH.out.st HH.out.bl pS.out).mono ?_;rintro e w1 ⟨rfl,hi,hb,hk⟩;have Rx:=ah.mk (HH.out.call hi hb hk);clear hi hb hk;have alS:=Rx.out.ca)
  |(go_at_call 80;refine (cg.calls k g t2 t3 d1 d2 d3 d4 w0 w1 Rx.out.st Rx.out.bl qu.out).mono ?_;rintro e w2 ⟨rfl,hi,hb,hk⟩;have Ry:=ah.mk (Rx.out.call hi hb hk);clear hi hb hk;have aip:=Ry.out.cb)
  |((with_reducible refine kS (b:= .append) (xs:=#[.tmp 14,.tmp 16]) rfl ?_);at_builtin;refine Kd.qx Kd.string we.heap.size rfl (.tmp 14) (.tmp 16) 28 9 (.string ⟨#[]⟩) 16 rfl Tryz.underlying28 acT rfl bG aq v rs d1 [.string d1] (fun _ =>True) (fun _ =>False) rfl sA ?aP (fun _ hk=>hk.elim) ?aF ?aO (Below.refl _ _) ?aS ?aL ?_;(case aP=>exact rfl);(case aF=>exact (fun _ _ =>trivial));(case aO=>exact Ry.out.hr);(case aS=>exact oI Ry.out.kp);(case aL=>have:=HL.out;omega);intro v3 w3 ho hb hg hat;obtain ⟨A3,c3,rfl⟩:=Kd.fI ho;have HH3:=ah.mk (Ry.out.app ho hb hg);have alU:=(aa (rF Ry.out.hb hg (Kd.SD Ry.out.hr Ry.out.hb bG)) 1);have aiq:=(af (rF Ry.out.hb hg (Kd.SD Ry.out.hr Ry.out.hb bG)) 1).trans rfl;clear ho hb hg hat))
 all_goals
  go_ret
  exact ⟨by first|rfl|(simp [*];done)|(rename_i ht;simp [ht];done)|(rename_i _ ht;simp [ht];done),_,by have h1:=HH3.out;rw [List.length_append] at h1;exact h1⟩
theorem dm.calls (k g a b:Nat) (s:ByteArray) (p:Int) (v:Value) (rs:List ByteArray) (r1:Bool) (s1:ByteArray) (p1:Int) (rs1:List ByteArray) (w0 we w:World) (H:Held w0 we w g a b s p v rs) (h:dm.l0 k s p rs=some (r1,s1,p1,rs1)):
 Calls Tryz.prog 67 #[.pointer (some ⟨g,0,none⟩),.int .u8 44,.func (.func 116) #[] #[.pointer (some ⟨a,0,none⟩),.pointer (some ⟨b,0,none⟩)]] w fun e w'=>e= .returned (.bool r1)∧∃ v1,Held w0 we w' g a b s1 p1 v1 rs1:=by
 have HH:=ah.mk H
 have HS:=ah.mk h
 clear H h
 go_enter Tryz.func67,Tryz.ntmps67
 go_wp2
 go_loopg [] k (fun kq w'=>∃ (s2:ByteArray) (p2:Int) (v2:Value) (rs2:List ByteArray),ah (dm.l0 kq s2 p2 rs2=some (r1,s1,p1,rs1))∧ah (Held w0 we w' g a b s2 p2 v2 rs2))
 case atStart=>exact ⟨s,p,v,rs,HS,HH⟩
 case round=>
  clear HS HH
  obtain ⟨s2,p2,v2,rs2,HA,HH⟩:=hrel
  cases gk with
  |zero=>exact absurd HA.out (by simp [dm.l0])
  |succ k1=>
   have h:=HA.out
   clear HA
   simp only [dm.l0] at h
   obtain ⟨⟨t1,t2,t3,t4⟩,A1,h⟩:=Option.bind_eq_some_iff.mp h
   dsimp only at h
   have pS:=ah.mk A1
   clear A1
   cases t1 with
   |true=>
    rw [if_pos rfl] at h
    obtain ⟨⟨c1,c2,c3⟩,A2,h⟩:=Option.bind_eq_some_iff.mp h
    dsimp only at A2 h
    have qu:=ah.mk A2
    have HH':=ah.mk h
    clear A2 h
    cases c1 with
    |true=>
     have HN:=ah.mk (show dm.l0 k1 c2 c3 t4=some (r1,s1,p1,rs1) from (if_pos rfl).symm.trans HH'.out)
     clear HH'
     go_wp2_with (first
      |(go_at_call 116;refine (gQ.calls k1 g a b s2 p2 v2 rs2 true t2 t3 t4 w0 we _ HH.out pS.out).mono ?_;rintro e w2 ⟨rfl,v3,h3⟩;have Rx:=ah.mk h3;clear h3)
      |(go_at_call 56;refine (bf.calls g t2 t3 44 true c2 c3 w0 _ Rx.out.st Rx.out.bl qu.out).mono ?_;rintro e w3 ⟨rfl,hi,hb,hk⟩;have Ry:=ah.mk (Rx.out.call hi hb hk);clear hi hb hk))
     go_roundg k1
     case measure=>omega
     case rel=>exact ⟨c2,c3,_,t4,HN,Ry⟩
    |false=>
     have hN:=(if_neg bG).symm.trans HH'.out
     simp only [Option.some.injEq,Prod.mk.injEq] at hN
     obtain ⟨rfl,rfl,rfl,rfl⟩:=hN
     clear HH'
     go_wp2_with (first
      |(go_at_call 116;refine (gQ.calls k1 g a b s2 p2 v2 rs2 true t2 t3 t4 w0 we _ HH.out pS.out).mono ?_;rintro e w2 ⟨rfl,v3,h3⟩;have Rx:=ah.mk h3;clear h3)
      |(go_at_call 56;refine (bf.calls g t2 t3 44 false c2 c3 w0 _ Rx.out.st Rx.out.bl qu.out).mono ?_;rintro e w3 ⟨rfl,hi,hb,hk⟩;have Ry:=ah.mk (Rx.out.call hi hb hk);clear hi hb hk))
     go_ret
     exact ⟨rfl,_,Ry.out⟩
   |false=>
    rw [if_neg bG] at h
    simp only [Option.some.injEq,Prod.mk.injEq] at h
    obtain ⟨rfl,rfl,rfl,rfl⟩:=h
    go_wp2_with (first
     |(go_at_call 116;refine (gQ.calls k1 g a b s2 p2 v2 rs2 false t2 t3 t4 w0 we _ HH.out pS.out).mono ?_;rintro e w2 ⟨rfl,v3,h3⟩;have Rx:=ah.mk h3;clear h3))
    go_ret
    exact ⟨rfl,_,Rx.out⟩
def cT.f3 (k:Nat) (s:ByteArray) (p:Int) (rs:List ByteArray):Option (Bool×List ByteArray×ByteArray×ByteArray×Bool×Bool×ByteArray×Int):=
 (cv.f k s p).bind fun m=>some (false,rs,m.1,m.2.1,m.2.2.1,m.2.2.2.1,m.2.2.2.2.1,m.2.2.2.2.2)
def cT.f2 (k:Nat) (s:ByteArray) (p:Int):Option (Bool×List ByteArray×ByteArray×ByteArray×Bool×Bool×ByteArray×Int):=
 (cS.f s p).bind fun c=>if c.1=64 then (dm.l0 k c.2.1 c.2.2 []).bind fun l=>if l.1=true then (bf.f l.2.1 l.2.2.1 58).bind fun t=>if t.1=true then cT.f3 k t.2.1 t.2.2 l.2.2.2 else some (false,[],⟨#[]⟩,⟨#[]⟩,false,false,t.2.1,t.2.2) else some (false,[],⟨#[]⟩,⟨#[]⟩,false,false,l.2.1,l.2.2.1) else cT.f3 k c.2.1 c.2.2 []
def kO:ByteArray:=⟨#[112,111,115,116,109,97,115,116,101,114]⟩
def pz (s:ByteArray) (p:Int):Bool:=decide (p + 10 < (s.size:Int)) && (cz.g (s.extract p.toNat (p + 10).toNat)).toList == ([112,111,115,116,109,97,115,116,101,114]:List UInt8) && (bt s (p + 10)) == 62
def cT.f (k:Nat) (s:ByteArray) (p:Int):Option (Bool×List ByteArray×ByteArray×ByteArray×Bool×Bool×ByteArray×Int):=
 if 0≤p∧p≤(s.size:Int)∧(s.size:Int) < 4611686018427387904 then
  (if pz s p=true then some (false,[],kO,⟨#[]⟩,false,true,s,p + 10) else cT.f2 k s p)
 else none
structure oO (w0 w W:World) (g:Nat) (s:ByteArray) (p:Int):Prop where
 st:ay w0 W g s p
 bl:Below w0.heap.size w0 W
 sz:w0.heap.size≤w.heap.size
 kp:br w W g none
 ha:W.heap[w.heap.size]? =some (.cells #[.pointer (some ⟨g,0,none⟩)] 80 (0,0))
 hc:W.heap[w.heap.size + 1]? =some (.cells #[.bool false,.slice none 0 0,.string ⟨#[]⟩,.string ⟨#[]⟩,.bool false] 32 (0,0))
section
variable {w0 w W W1:World} {g a b:Nat} {s:ByteArray} {p:Int} {v:Value} {rs:List ByteArray}
theorem oO.begin (hI:ay w0 w g s p) (hB:Below w0.heap.size w0 w):oO w0 w ((w.alloc (.cells #[.pointer (some ⟨g,0,none⟩)] 80)).alloc (.cells #[.bool false,.slice none 0 0,.string ⟨#[]⟩,.string ⟨#[]⟩,.bool false] 32)) g s p where
 st:=(hI.alloc _).alloc _
 bl:=aG (aG hB _) _
 sz:=hB.size
 kp:=oq (oq (br.refl _ _ _) _) _
 ha:=by
  refine bB ?_ _
  simpa using heap_alloc_new w _
 hc:=by
  have:=heap_alloc_new (w.alloc (.cells #[.pointer (some ⟨g,0,none⟩)] 80)) (.cells #[.bool false,.slice none 0 0,.string ⟨#[]⟩,.string ⟨#[]⟩,.bool false] 32)
  simpa using this
theorem oO.below (H:oO w0 w W g s p) (hb:Below W.heap.size W W1):oO w0 w W1 g s p where
 st:=H.st.below hb
 bl:=bR H.bl H.bl.size hb
 sz:=H.sz
 kp:=H.kp.trans (br.of_below hb g none) (.inl rfl)
 ha:=(hb.block _ (kf H.ha)).trans H.ha
 hc:=(hb.block _ (kf H.hc)).trans H.hc
theorem oO.set (H:oO w0 w W g s p) (q:Int):oO w0 w (W.setCell ⟨g,1,none⟩ (.int .i64 q)) g s q where
 st:=H.st.fD q
 bl:=bh H.bl H.st.ge
 sz:=H.sz
 kp:=H.kp.Ew _ _
 ha:=iM H.ha (ay.pU H.st H.ha bG).symm _
 hc:=iM H.hc (ay.pU H.st H.hc bG).symm _
theorem oO.held (H:oO w0 w W g s p):Held w0 w (W.alloc (.cells #[.bool false,.slice none 0 0,.string ⟨#[]⟩,.string ⟨#[]⟩,.bool false] 32)) g w.heap.size W.heap.size s p (.slice none 0 0) [] where
 st:=H.st.alloc _
 bl:=aG H.bl _
 kp:=oq H.kp _
 ha:=bB H.ha _
 hb:=by simpa using heap_alloc_new W _
 hr:=Kd.eX _ _ _ _ _
 sz:=H.sz
 hc:=bB H.hc _
 ga:=Nat.le_refl _
 gb:=kf H.hc
theorem qc {c:Nat} {y0 y1 y2 y3 y4:Value} (x0 x1 x2 x3 x4:Value) (hst:ay w0 W g s p) (hbl:Below w0.heap.size w0 W) (hkp:br w W g none) (hsz:w0.heap.size≤w.heap.size) (hgc:w.heap.size≤c)
 (hc:W.heap[c]? =some (.cells #[y0,y1,y2,y3,y4] 32 (0,0))) (hW:W1=((((W.setCell ⟨c,0,none⟩ x0).setCell ⟨c,1,none⟩ x1).setCell ⟨c,2,none⟩ x2).setCell ⟨c,3,none⟩ x3).setCell ⟨c,4,none⟩ x4):
 W1.heap[c]? =some (.cells #[x0,x1,x2,x3,x4] 32 (0,0))∧ay w0 W1 g s p∧Below w0.heap.size w0 W1∧br w W1 g none∧∀ (v:Value) (xs:List ByteArray),Kd.R Kd.string 9 W w.heap.size (fun _ =>True) v xs→Kd.R Kd.string 9 W1 w.heap.size (fun _ =>True) v xs:=by
 subst hW
 have U8:g≠c:=ay.pU hst hc bG
 refine ⟨?_,?_,?_,?_,?_⟩
 ·refine cZ (cs:=#[x0,x1,x2,x3,y4]) ?_ 4 _ rfl
  refine cZ (cs:=#[x0,x1,x2,y3,y4]) ?_ 3 _ rfl
  refine cZ (cs:=#[x0,x1,y2,y3,y4]) ?_ 2 _ rfl
  refine cZ (cs:=#[x0,y1,y2,y3,y4]) ?_ 1 _ rfl
  exact cZ hc 0 _ rfl
 ·exact ((((hst.far U8 _).far U8 _).far U8 _).far U8 _).far U8 _
 ·have h0:=Nat.le_trans hsz hgc
  exact bh (bh (bh (bh (bh hbl h0) h0) h0) h0) h0
 ·exact nR (nR (nR (nR (nR hkp hgc _) hgc _) hgc _) hgc _) hgc _
 ·intro v xs ho
  have hne:∀ (W2:World),W2.heap[c]? =some (.cells #[y0,y1,y2,y3,y4] 32 (0,0))→Kd.R Kd.string 9 W2 w.heap.size (fun _ =>True) v xs→Kd.R Kd.string 9 W2 w.heap.size (fun k=>k≠c) v xs:=by
   intro W2 hB h1
   refine Kd.gL (Kd.uC h1) ?_
   rintro k ⟨_,_,_,q,hq,cells,hcc⟩ rfl
   rw [hB] at hcc
   injection hcc with hcc
   injection hcc with _ hcc
   have h1:q=9∨q∈Kd.string.E:=by simpa using hq
   rcases h1 with h1|h1
   ·exact absurd (hcc.trans h1) bG
   ·cases h1
  have h1:=hne W hc ho
  exact Kd.gL (Kd.eu (Kd.eu (Kd.eu (Kd.eu (Kd.eu h1 (fun _ h=>h) x0) (fun _ h=>h) x1) (fun _ h=>h) x2) (fun _ h=>h) x3) (fun _ h=>h) x4) (fun _ _ =>trivial)
theorem Held.box (H:Held w0 w W g a b s p v rs) (x2 x3 x4:Value) (hW:W1=((W.setCell ⟨b,2,none⟩ x2).setCell ⟨b,3,none⟩ x3).setCell ⟨b,4,none⟩ x4):
 W1.heap[b]? =some (.cells #[.bool false,v,x2,x3,x4] 32 (0,0))∧ay w0 W1 g s p∧Below w0.heap.size w0 W1∧br w W1 g none∧Kd.R Kd.string 9 W1 w.heap.size (fun _ =>True) v rs∧W1.heap[w.heap.size + 1]? =some (.cells #[.bool false,.slice none 0 0,.string ⟨#[]⟩,.string ⟨#[]⟩,.bool false] 32 (0,0)):=by
 subst hW
 have hG:=H.gb
 have hgb:g≠b:=ay.pU H.st H.hb bG
 have hcb:w.heap.size + 1≠b:=by omega
 have hwb:w.heap.size≤b:=by omega
 refine ⟨?_,((H.st.far hgb _).far hgb _).far hgb _,?_,nR (nR (nR H.kp hwb _) hwb _) hwb _,?_,iM (iM (iM H.hc hcb _) hcb _) hcb _⟩
 ·refine cZ (cs:=#[.bool false,v,x2,x3,.bool false]) ?_ 4 _ rfl
  refine cZ (cs:=#[.bool false,v,x2,.string ⟨#[]⟩,.bool false]) ?_ 3 _ rfl
  exact cZ H.hb 2 _ rfl
 ·have h0:=Nat.le_trans H.sz hwb
  exact bh (bh (bh H.bl h0) h0) h0
 ·have h1:Kd.R Kd.string 9 W w.heap.size (fun k=>k≠b) v rs:=by
   refine Kd.gL (Kd.uC H.hr) ?_
   rintro k ⟨_,_,_,q,hq,cells,hcc⟩ rfl
   rw [H.hb] at hcc
   injection hcc with hcc
   injection hcc with _ hcc
   have h1:q=9∨q∈Kd.string.E:=by simpa using hq
   rcases h1 with h1|h1
   ·exact absurd (hcc.trans h1) bG
   ·cases h1
  exact Kd.gL (Kd.eu (Kd.eu (Kd.eu h1 (fun _ h=>h) x2) (fun _ h=>h) x3) (fun _ h=>h) x4) (fun _ _ =>trivial)
end
theorem gQ.mono:∀ s p rs k,cH (gQ.f k s p rs) (gQ.f (k + 1) s p rs):=by
 intro s p rs k
 unfold gQ.f
 exact cH.bind (cH.refl _) fun _ =>cH.bind (cg.mono _ _ _) fun _ =>cH.refl _
theorem dm.mono:∀ k s p rs,cH (dm.l0 k s p rs) (dm.l0 (k + 1) s p rs)
 | 0,_,_,_ =>fun r h=>by simp [dm.l0] at h
 |k + 1,s,p,rs=>by
  have ih:=dm.mono k
  unfold dm.l0
  exact cH.bind (gQ.mono _ _ _ _) fun _ =>cH.ite (cH.bind (cH.refl _) fun _ =>cH.ite (ih _ _ _) (cH.refl _)) (cH.refl _)
theorem cT.ZX:∀ k s p rs,cH (cT.f3 k s p rs) (cT.f3 (k + 1) s p rs):=by
 intro k s p rs
 unfold cT.f3
 exact cH.bind (cv.mono _ _ _) fun _ =>cH.refl _
theorem cT.adz:∀ k s p,cH (cT.f2 k s p) (cT.f2 (k + 1) s p):=by
 intro k s p
 unfold cT.f2
 exact cH.bind (cH.refl _) fun _ =>cH.ite (cH.bind (dm.mono _ _ _ _) fun _ =>cH.ite (cH.bind (cH.refl _) fun _ =>cH.ite (cT.ZX _ _ _ _) (cH.refl _)) (cH.refl _)) (cT.ZX _ _ _ _)
theorem cT.mono:∀ s p k,cH (cT.f k s p) (cT.f (k + 1) s p):=by
 intro s p k
 unfold cT.f
 exact cH.ite (cH.ite (cH.refl _) (cT.adz _ _ _)) (cH.refl _)
theorem cT.calls (k g:Nat) (s:ByteArray) (p:Int) (r1:Bool) (r2:List ByteArray) (r3 r4:ByteArray) (r5 r6:Bool) (r7:ByteArray) (r8:Int) (w0 w:World) (hI:ay w0 w g s p) (hB:Below w0.heap.size w0 w) (hG:aQ w0) (h:cT.f k s p=some (r1,r2,r3,r4,r5,r6,r7,r8)):
 Calls Tryz.prog 57 #[.pointer (some ⟨g,0,none⟩)] w fun e w'=>∃ Rz:Value,e= .returned (.tuple #[.agg #[.bool r1,Rz,.string r3,.string r4,.bool r5],.bool r6])∧Kd.R Kd.string 9 w' w.heap.size (fun _ =>True) Rz r2∧ay w0 w' g r7 r8∧Below w0.heap.size w0 w'∧br w w' g none:=by
 unfold cT.f at h
 by_cases hp: 0≤p∧p≤(s.size:Int)∧(s.size:Int) < 4611686018427387904
 case neg=>rw [if_neg hp] at h;cases h
 rw [if_pos hp] at h
 have HF:=ah.mk (oO.begin hI hB)
 have HG:=ah.mk hG
 have HH:=ah.mk h
 clear hI hB hG h
 obtain ⟨hp0,hp1,hp2⟩:=hp
 go_enter Tryz.func57,Tryz.ntmps57
 go_wp2
 generalize ((w.alloc (.cells #[.pointer (some ⟨g,0,none⟩)] 80)).alloc (.cells #[.bool false,.slice none 0 0,.string ⟨#[]⟩,.string ⟨#[]⟩,.bool false] 32))=w1 at HF ⊢
 have hw1:IntKind.i64.wrap ((s.size:Int) - p)=(s.size:Int) - p:=(cR _).trans (by unfold wrap64;omega)
 have hw2:IntKind.i64.wrap (p + 10)=p + 10:=(cR _).trans (by unfold wrap64;omega)
 have hca:w1.cell? ⟨w.heap.size,0,none⟩=some (.pointer (some ⟨g,0,none⟩)):=(af HF.out.ha 0).trans rfl
 obtain ⟨hgb,_⟩:=HF.out.st
 have hc0:w1.cell? ⟨g,0,none⟩=some (.string s):=(af hgb 0).trans rfl
 have hc1:w1.cell? ⟨g,1,none⟩=some (.int .i64 p):=(af hgb 1).trans rfl
 clear hgb
 by_cases hr:p + 10 < (s.size:Int)
 case neg=>
  have HA:=ah.mk (show pz s p=false by unfold pz;rw [decide_eq_false hr];rfl)
  have hd:decide (10 < (s.size:Int) - p)=false:=decide_eq_false aq
  go_quiet (fail)
  have hW:=aM (Below.refl w1.heap.size w1)
  have HFA:=ah.mk (fun n=>HF.out.below (hW n))
  clear hW
  generalize ZY:World.drewN w1 _=w3
  have zP:=ah.mk (show oO w0 w w3 g s p from ZY ▸ HFA.out _)
  clear HFA ZY
  have H2:=ah.mk (show cT.f2 k s p=some (r1,r2,r3,r4,r5,r6,r7,r8) from (if_neg (by rw [HA.out];decide)).symm.trans HH.out)
  clear HA HH
  have HE:=ah.mk zP.out.held
  have adA:=HE.out.ca
  have h:=H2.out
  clear H2
  unfold cT.f2 at h
  obtain ⟨⟨c1,c2,c3⟩,A1,h⟩:=Option.bind_eq_some_iff.mp h
  dsimp only at A1 h
  have pS:=ah.mk A1
  clear A1
  cases h64:(c1 == 64) with
  |false=>
   rw [if_neg xB] at h
   unfold cT.f3 at h
   obtain ⟨⟨m1,m2,m3,m4,m5,m6⟩,Ab,h⟩:=Option.bind_eq_some_iff.mp h
   dsimp only at Ab h
   simp only [Option.some.injEq,Prod.mk.injEq] at h
   obtain ⟨rfl,rfl,rfl,rfl,rfl,rfl,rfl,rfl⟩:=h
   have U9:=ah.mk Ab
   clear Ab
   go_wp2_with (first
    |(go_at_call 115;refine (cS.calls g s p c1 c2 c3 w0 _ HE.out.st HE.out.bl pS.out).mono ?_;rintro e w4 ⟨rfl,hi,hb,hk⟩;have uf:=ah.mk (HE.out.call hi hb hk);have Fe:=uf.out.ca;clear hi hb hk)
    |(go_at_call 71;refine (cv.calls k g c2 c3 m1 m2 m3 m4 m5 m6 w0 _ uf.out.st uf.out.bl HG.out U9.out).mono ?_;rintro e w9 ⟨rfl,hi,hb,hk⟩;have gJ:=ah.mk (uf.out.call hi hb hk);have Va:=gJ.out.fb 0;have Vb:=gJ.out.fb 1;have Vc:=gJ.out.fb 2;have Vd:=gJ.out.fb 3;have Ve:=gJ.out.fb 4;have Vf:w9.cell? ⟨w3.heap.size,0,none⟩=some (Value.bool false):=(af gJ.out.hb 0).trans rfl;have Vg:w9.cell? ⟨w3.heap.size,1,none⟩=some (Value.slice none 0 0):=(af gJ.out.hb 1).trans rfl;have Vh:w9.cell? ⟨w3.heap.size,2,none⟩=some (Value.string ⟨#[]⟩):=(af gJ.out.hb 2).trans rfl;have Vi:w9.cell? ⟨w3.heap.size,3,none⟩=some (Value.string ⟨#[]⟩):=(af gJ.out.hb 3).trans rfl;have Vj:w9.cell? ⟨w3.heap.size,4,none⟩=some (Value.bool false):=(af gJ.out.hb 4).trans rfl;have Dl:=aa gJ.out.hc 0;have Dm:=aa gJ.out.hc 1;have Dn:=aa gJ.out.hc 2;have Dp:=aa gJ.out.hc 3;have Dq:=aa gJ.out.hc 4;have Dr:w9.cell? ⟨w.heap.size + 1,0,none⟩=some (Value.bool false):=(af gJ.out.hc 0).trans rfl;have Ds:w9.cell? ⟨w.heap.size + 1,1,none⟩=some (Value.slice none 0 0):=(af gJ.out.hc 1).trans rfl;have Dt:w9.cell? ⟨w.heap.size + 1,2,none⟩=some (Value.string ⟨#[]⟩):=(af gJ.out.hc 2).trans rfl;have Du:w9.cell? ⟨w.heap.size + 1,3,none⟩=some (Value.string ⟨#[]⟩):=(af gJ.out.hc 3).trans rfl;have Dv:w9.cell? ⟨w.heap.size + 1,4,none⟩=some (Value.bool false):=(af gJ.out.hc 4).trans rfl;have hnb:w.heap.size + 1≠w3.heap.size:=Nat.ne_of_lt gJ.out.gb;have Vk:w3.heap.size≠w.heap.size + 1:=(Nat.ne_of_lt gJ.out.gb).symm;clear hi hb hk))
   have H8:=gJ.out.box (.string m1) (.string m2) (.bool m3) rfl
   have H9:=qc (.bool false) (.slice none 0 0) (.string m1) (.string m2) (.bool m3) H8.2.1 H8.2.2.1 H8.2.2.2.1 gJ.out.sz (Nat.le_succ _) H8.2.2.2.2.2 rfl
   refine bodyPost_ret (cU rfl _ _ (w.heap.size + 1) 32 #[.bool false,.slice none 0 0,.string m1,.string m2,.bool m3] (0,0) _ rfl H9.1 Tryz.underlying32 rfl av) rfl ?_
   exact ⟨_,rfl,H9.2.2.2.2 _ _ H8.2.2.2.2.1,H9.2.1,H9.2.2.1,H9.2.2.2.1⟩
  |true=>
   rw [if_pos xB] at h
   obtain ⟨⟨l1,l2,l3,l4⟩,A2,h⟩:=Option.bind_eq_some_iff.mp h
   dsimp only at A2 h
   have qu:=ah.mk A2
   clear A2
   cases l1 with
   |false=>
    rw [if_neg bG] at h
    simp only [Option.some.injEq,Prod.mk.injEq] at h
    obtain ⟨rfl,rfl,rfl,rfl,rfl,rfl,rfl,rfl⟩:=h
    go_wp2_with (first
     |(go_at_call 115;refine (cS.calls g s p c1 c2 c3 w0 _ HE.out.st HE.out.bl pS.out).mono ?_;rintro e w4 ⟨rfl,hi,hb,hk⟩;have uf:=ah.mk (HE.out.call hi hb hk);have Fe:=uf.out.ca;clear hi hb hk)
     |(go_at_call 67;refine (dm.calls k g _ _ c2 c3 _ [] false l2 l3 l4 w0 w _ uf.out qu.out).mono ?_;rintro e w5 ⟨rfl,v5,h5⟩;have lH:=ah.mk h5;have Mp:=lH.out.ca;clear h5;have Dl:=aa lH.out.hc 0;have Dm:=aa lH.out.hc 1;have Dn:=aa lH.out.hc 2;have Dp:=aa lH.out.hc 3;have Dq:=aa lH.out.hc 4;have Dr:w5.cell? ⟨w.heap.size + 1,0,none⟩=some (Value.bool false):=(af lH.out.hc 0).trans rfl;have Ds:w5.cell? ⟨w.heap.size + 1,1,none⟩=some (Value.slice none 0 0):=(af lH.out.hc 1).trans rfl;have Dt:w5.cell? ⟨w.heap.size + 1,2,none⟩=some (Value.string ⟨#[]⟩):=(af lH.out.hc 2).trans rfl;have Du:w5.cell? ⟨w.heap.size + 1,3,none⟩=some (Value.string ⟨#[]⟩):=(af lH.out.hc 3).trans rfl;have Dv:w5.cell? ⟨w.heap.size + 1,4,none⟩=some (Value.bool false):=(af lH.out.hc 4).trans rfl))
    have H9:=qc (W:=w5) (.bool false) (.slice none 0 0) (.string ⟨#[]⟩) (.string ⟨#[]⟩) (.bool false) lH.out.st lH.out.bl lH.out.kp lH.out.sz (Nat.le_succ _) lH.out.hc rfl
    refine bodyPost_ret (cU rfl _ _ (w.heap.size + 1) 32 #[.bool false,.slice none 0 0,.string ⟨#[]⟩,.string ⟨#[]⟩,.bool false] (0,0) _ rfl H9.1 Tryz.underlying32 rfl av) rfl ?_
    exact ⟨_,rfl,Kd.eX _ _ _ _ _,H9.2.1,H9.2.2.1,H9.2.2.2.1⟩
   |true=>
    rw [if_pos rfl] at h
    obtain ⟨⟨u1,u2,u3⟩,A3,h⟩:=Option.bind_eq_some_iff.mp h
    dsimp only at A3 h
    have uu:=ah.mk A3
    clear A3
    cases u1 with
    |false=>
     rw [if_neg bG] at h
     simp only [Option.some.injEq,Prod.mk.injEq] at h
     obtain ⟨rfl,rfl,rfl,rfl,rfl,rfl,rfl,rfl⟩:=h
     go_wp2_with (first
      |(go_at_call 115;refine (cS.calls g s p c1 c2 c3 w0 _ HE.out.st HE.out.bl pS.out).mono ?_;rintro e w4 ⟨rfl,hi,hb,hk⟩;have uf:=ah.mk (HE.out.call hi hb hk);have Fe:=uf.out.ca;clear hi hb hk)
      |(go_at_call 67;refine (dm.calls k g _ _ c2 c3 _ [] true l2 l3 l4 w0 w _ uf.out qu.out).mono ?_;rintro e w5 ⟨rfl,v5,h5⟩;have lH:=ah.mk h5;have Mp:=lH.out.ca;clear h5)
      |(go_at_call 56;refine (bf.calls g l2 l3 58 false u2 u3 w0 _ lH.out.st lH.out.bl uu.out).mono ?_;rintro e w6 ⟨rfl,hi,hb,hk⟩;have n9:=ah.mk (lH.out.call hi hb hk);have Vl:=n9.out.ca;clear hi hb hk;have Dl:=aa n9.out.hc 0;have Dm:=aa n9.out.hc 1;have Dn:=aa n9.out.hc 2;have Dp:=aa n9.out.hc 3;have Dq:=aa n9.out.hc 4;have Dr:w6.cell? ⟨w.heap.size + 1,0,none⟩=some (Value.bool false):=(af n9.out.hc 0).trans rfl;have Ds:w6.cell? ⟨w.heap.size + 1,1,none⟩=some (Value.slice none 0 0):=(af n9.out.hc 1).trans rfl;have Dt:w6.cell? ⟨w.heap.size + 1,2,none⟩=some (Value.string ⟨#[]⟩):=(af n9.out.hc 2).trans rfl;have Du:w6.cell? ⟨w.heap.size + 1,3,none⟩=some (Value.string ⟨#[]⟩):=(af n9.out.hc 3).trans rfl;have Dv:w6.cell? ⟨w.heap.size + 1,4,none⟩=some (Value.bool false):=(af n9.out.hc 4).trans rfl))
     have H9:=qc (W:=w6) (.bool false) (.slice none 0 0) (.string ⟨#[]⟩) (.string ⟨#[]⟩) (.bool false) n9.out.st n9.out.bl n9.out.kp n9.out.sz (Nat.le_succ _) n9.out.hc rfl
     refine bodyPost_ret (cU rfl _ _ (w.heap.size + 1) 32 #[.bool false,.slice none 0 0,.string ⟨#[]⟩,.string ⟨#[]⟩,.bool false] (0,0) _ rfl H9.1 Tryz.underlying32 rfl av) rfl ?_
     exact ⟨_,rfl,Kd.eX _ _ _ _ _,H9.2.1,H9.2.2.1,H9.2.2.2.1⟩
    |true=>
     rw [if_pos rfl] at h
     unfold cT.f3 at h
     obtain ⟨⟨m1,m2,m3,m4,m5,m6⟩,Ab,h⟩:=Option.bind_eq_some_iff.mp h
     dsimp only at Ab h
     simp only [Option.some.injEq,Prod.mk.injEq] at h
     obtain ⟨rfl,rfl,rfl,rfl,rfl,rfl,rfl,rfl⟩:=h
     have U9:=ah.mk Ab
     clear Ab
     go_wp2_with (first
      |(go_at_call 115;refine (cS.calls g s p c1 c2 c3 w0 _ HE.out.st HE.out.bl pS.out).mono ?_;rintro e w4 ⟨rfl,hi,hb,hk⟩;have uf:=ah.mk (HE.out.call hi hb hk);have Fe:=uf.out.ca;clear hi hb hk)
      |(go_at_call 67;refine (dm.calls k g _ _ c2 c3 _ [] true l2 l3 l4 w0 w _ uf.out qu.out).mono ?_;rintro e w5 ⟨rfl,v5,h5⟩;have lH:=ah.mk h5;have Mp:=lH.out.ca;clear h5)
      |(go_at_call 56;refine (bf.calls g l2 l3 58 true u2 u3 w0 _ lH.out.st lH.out.bl uu.out).mono ?_;rintro e w6 ⟨rfl,hi,hb,hk⟩;have n9:=ah.mk (lH.out.call hi hb hk);have Vl:=n9.out.ca;clear hi hb hk)
      |(go_at_call 71;refine (cv.calls k g u2 u3 m1 m2 m3 m4 m5 m6 w0 _ n9.out.st n9.out.bl HG.out U9.out).mono ?_;rintro e w9 ⟨rfl,hi,hb,hk⟩;have gJ:=ah.mk (n9.out.call hi hb hk);obtain ⟨A9,c9,e9⟩:=Kd.fI gJ.out.hr;subst e9;have Va:=gJ.out.fb 0;have Vb:=gJ.out.fb 1;have Vc:=gJ.out.fb 2;have Vd:=gJ.out.fb 3;have Ve:=gJ.out.fb 4;have Vf:w9.cell? ⟨w3.heap.size,0,none⟩=some (Value.bool false):=(af gJ.out.hb 0).trans rfl;have Vg:w9.cell? ⟨w3.heap.size,1,none⟩=some (Value.slice A9 l4.length c9):=(af gJ.out.hb 1).trans rfl;have Vh:w9.cell? ⟨w3.heap.size,2,none⟩=some (Value.string ⟨#[]⟩):=(af gJ.out.hb 2).trans rfl;have Vi:w9.cell? ⟨w3.heap.size,3,none⟩=some (Value.string ⟨#[]⟩):=(af gJ.out.hb 3).trans rfl;have Vj:w9.cell? ⟨w3.heap.size,4,none⟩=some (Value.bool false):=(af gJ.out.hb 4).trans rfl;have Dl:=aa gJ.out.hc 0;have Dm:=aa gJ.out.hc 1;have Dn:=aa gJ.out.hc 2;have Dp:=aa gJ.out.hc 3;have Dq:=aa gJ.out.hc 4;have Dr:w9.cell? ⟨w.heap.size + 1,0,none⟩=some (Value.bool false):=(af gJ.out.hc 0).trans rfl;have Ds:w9.cell? ⟨w.heap.size + 1,1,none⟩=some (Value.slice none 0 0):=(af gJ.out.hc 1).trans rfl;have Dt:w9.cell? ⟨w.heap.size + 1,2,none⟩=some (Value.string ⟨#[]⟩):=(af gJ.out.hc 2).trans rfl;have Du:w9.cell? ⟨w.heap.size + 1,3,none⟩=some (Value.string ⟨#[]⟩):=(af gJ.out.hc 3).trans rfl;have Dv:w9.cell? ⟨w.heap.size + 1,4,none⟩=some (Value.bool false):=(af gJ.out.hc 4).trans rfl;have hnb:w.heap.size + 1≠w3.heap.size:=Nat.ne_of_lt gJ.out.gb;have Vk:w3.heap.size≠w.heap.size + 1:=(Nat.ne_of_lt gJ.out.gb).symm;clear hi hb hk))
     have H8:=gJ.out.box (.string m1) (.string m2) (.bool m3) rfl
     have H9:=qc (.bool false) (.slice A9 l4.length c9) (.string m1) (.string m2) (.bool m3) H8.2.1 H8.2.2.1 H8.2.2.2.1 gJ.out.sz (Nat.le_succ _) H8.2.2.2.2.2 rfl
     refine bodyPost_ret (cU rfl _ _ (w.heap.size + 1) 32 #[.bool false,.slice A9 l4.length c9,.string m1,.string m2,.bool m3] (0,0) _ rfl H9.1 Tryz.underlying32 rfl av) rfl ?_
     exact ⟨_,rfl,H9.2.2.2.2 _ _ H8.2.2.2.2.1,H9.2.1,H9.2.2.1,H9.2.2.2.1⟩
 case pos=>
  have hd:decide (10 < (s.size:Int) - p)=true:=decide_eq_true aq
  have e1:(0≤p)=True:=eq_true hp0
  have e2:(p≤p + 10)=True:=eq_true aq
  have e3:(p + 10≤(s.size:Int))=True:=eq_true aq
  have e4:(0≤p + 10)=True:=eq_true aq
  have e5:(p + 10 < (s.size:Int))=True:=eq_true hr
  have hx:=gI s (p + 10)
  obtain ⟨X,hX⟩:∃ X,cz.g (s.extract p.toNat (p + 10).toNat)=X:=⟨_,rfl⟩
  have HX:=ah.mk hX
  have HC:=ah.mk (fun W=>cz.calls (s.extract p.toNat (p + 10).toNat) X W (by unfold cz.f;rw [if_pos,hX];simp;omega))
  clear hX
  cases hq:(X.toList == ([112,111,115,116,109,97,115,116,101,114]:List UInt8)) with
  |false=>
   have HA:=ah.mk (show pz s p=false by unfold pz;rw [HX.out,hq];simp)
   refine BP (n:=45) (S:=fun w'=>w'.cell? ⟨w.heap.size,0,none⟩=some (.pointer (some ⟨g,0,none⟩))∧w'.cell? ⟨g,0,none⟩=some (.string s)∧w'.cell? ⟨g,1,none⟩=some (.int .i64 p)∧ah (oO w0 w w' g s p)) (ds:=[]) #[false,false,false,false,false,false,false,false,false,false,false,false,false,false,false,false,false,false,false,false,false,false,false,false,false,false,false,false,false,false,false,false,false,false,false,false,false,false,false,false,false,false,false,false,false] av (by rfl) (by rfl) ⟨hca,hc0,hc1,(ah.mk (HF.out.below (bn (Below.refl _ _))))⟩ (fun hHeld=>?_)
   refine eH (i:=10) (N:=some 18) (v:=?_) (a':=?_) #[false,false,false,false,false,false,false,false,false,false,true,false,false,false,false,false,false,false,false,false,false,false,false,false,false,false,false,false,false,false,false,false,false,false,false,false,false,false,false,false,false,false,false,false,false] rfl rfl av (fun _ _ _ h=>h) (Or.inl ⟨by rfl,?_⟩) ?_ ?_
   rotate_left
   ·intro w'
    go_simp
    with_reducible rfl
   rotate_left
   ·simp only [Act.put,List.setIfInBounds_toArray,List.set_cons_zero,List.set_cons_succ,cR,cW]
    rfl
   refine mV (i:=0) (N:=some 8) (v:=?_) (a':=?_) #[true,false,false,false,false,false,false,false,false,false,true,false,false,false,false,false,false,false,false,false,false,false,false,false,false,false,false,false,false,false,false,false,false,false,false,false,false,false,false,false,false,false,false,false,false] rfl rfl av (fun _ _ _ h=>h) (Or.inl ⟨by rfl,?_⟩) hHeld ?_ ?_
   rotate_left
   ·rintro w' ⟨s0,s1,s2,s3⟩
    go_simp
    with_reducible rfl
   rotate_left
   ·simp only [Act.put,List.setIfInBounds_toArray,List.set_cons_zero,List.set_cons_succ,cR,cW]
    rfl
   refine eH (i:=1) (N:=some 9) (v:=?_) (a':=?_) #[true,true,false,false,false,false,false,false,false,false,true,false,false,false,false,false,false,false,false,false,false,false,false,false,false,false,false,false,false,false,false,false,false,false,false,false,false,false,false,false,false,false,false,false,false] rfl rfl av (fun _ _ _ h=>h) (Or.inl ⟨by rfl,?_⟩) ?_ ?_
   rotate_left
   ·intro w'
    go_simp
    with_reducible rfl
   rotate_left
   ·simp only [Act.put,List.setIfInBounds_toArray,List.set_cons_zero,List.set_cons_succ,cR,cW]
    rfl
   refine eH (i:=2) (N:=some 10) (v:=?_) (a':=?_) #[true,true,true,false,false,false,false,false,false,false,true,false,false,false,false,false,false,false,false,false,false,false,false,false,false,false,false,false,false,false,false,false,false,false,false,false,false,false,false,false,false,false,false,false,false] rfl rfl av (fun _ _ _ h=>h) (Or.inl ⟨by rfl,?_⟩) ?_ ?_
   rotate_left
   ·intro w'
    go_simp
    with_reducible rfl
   rotate_left
   ·simp only [Act.put,List.setIfInBounds_toArray,List.set_cons_zero,List.set_cons_succ,cR,cW]
    rfl
   refine mV (i:=3) (N:=some 11) (v:=?_) (a':=?_) #[true,true,true,true,false,false,false,false,false,false,true,false,false,false,false,false,false,false,false,false,false,false,false,false,false,false,false,false,false,false,false,false,false,false,false,false,false,false,false,false,false,false,false,false,false] rfl rfl av (fun _ _ _ h=>h) (Or.inl ⟨by rfl,?_⟩) hHeld ?_ ?_
   rotate_left
   ·rintro w' ⟨s0,s1,s2,s3⟩
    go_simp
    with_reducible rfl
   rotate_left
   ·simp only [Act.put,List.setIfInBounds_toArray,List.set_cons_zero,List.set_cons_succ,cR,cW]
    rfl
   refine eH (i:=4) (N:=some 12) (v:=?_) (a':=?_) #[true,true,true,true,true,false,false,false,false,false,true,false,false,false,false,false,false,false,false,false,false,false,false,false,false,false,false,false,false,false,false,false,false,false,false,false,false,false,false,false,false,false,false,false,false] rfl rfl av (fun _ _ _ h=>h) (Or.inl ⟨by rfl,?_⟩) ?_ ?_
   rotate_left
   ·intro w'
    go_simp
    with_reducible rfl
   rotate_left
   ·simp only [Act.put,List.setIfInBounds_toArray,List.set_cons_zero,List.set_cons_succ,cR,cW]
    rfl
   refine mV (i:=5) (N:=some 13) (v:=?_) (a':=?_) #[true,true,true,true,true,true,false,false,false,false,true,false,false,false,false,false,false,false,false,false,false,false,false,false,false,false,false,false,false,false,false,false,false,false,false,false,false,false,false,false,false,false,false,false,false] rfl rfl av (fun _ _ _ h=>h) (Or.inl ⟨by rfl,?_⟩) hHeld ?_ ?_
   rotate_left
   ·rintro w' ⟨s0,s1,s2,s3⟩
    go_simp
    with_reducible rfl
   rotate_left
   ·simp only [Act.put,List.setIfInBounds_toArray,List.set_cons_zero,List.set_cons_succ,cR,cW]
    rfl
   refine eH (i:=6) (N:=some 14) (v:=?_) (a':=?_) #[true,true,true,true,true,true,true,false,false,false,true,false,false,false,false,false,false,false,false,false,false,false,false,false,false,false,false,false,false,false,false,false,false,false,false,false,false,false,false,false,false,false,false,false,false] rfl rfl av (fun _ _ _ h=>h) (Or.inl ⟨by rfl,?_⟩) ?_ ?_
   rotate_left
   ·intro w'
    go_simp
    with_reducible rfl
   rotate_left
   ·simp only [Act.put,List.setIfInBounds_toArray,List.set_cons_zero,List.set_cons_succ,cR,cW]
    rfl
   refine eH (i:=7) (N:=some 15) (v:=?_) (a':=?_) #[true,true,true,true,true,true,true,true,false,false,true,false,false,false,false,false,false,false,false,false,false,false,false,false,false,false,false,false,false,false,false,false,false,false,false,false,false,false,false,false,false,false,false,false,false] rfl rfl av (fun _ _ _ h=>h) (Or.inl ⟨by rfl,?_⟩) ?_ ?_
   rotate_left
   ·intro w'
    go_simp
    with_reducible rfl
   rotate_left
   ·simp only [Act.put,List.setIfInBounds_toArray,List.set_cons_zero,List.set_cons_succ,cR,cW]
    rfl
   refine mV (i:=8) (N:=some 16) (v:=?_) (a':=?_) #[true,true,true,true,true,true,true,true,true,false,true,false,false,false,false,false,false,false,false,false,false,false,false,false,false,false,false,false,false,false,false,false,false,false,false,false,false,false,false,false,false,false,false,false,false] rfl rfl av (fun _ _ _ h=>h) (Or.inl ⟨by rfl,?_⟩) hHeld ?_ ?_
   rotate_left
   ·rintro w' ⟨s0,s1,s2,s3⟩
    go_simp
    with_reducible rfl
   rotate_left
   ·simp only [Act.put,List.setIfInBounds_toArray,List.set_cons_zero,List.set_cons_succ,cR,cW]
    rfl
   refine eH (i:=9) (N:=some 17) (v:=?_) (a':=?_) #[true,true,true,true,true,true,true,true,true,true,true,false,false,false,false,false,false,false,false,false,false,false,false,false,false,false,false,false,false,false,false,false,false,false,false,false,false,false,false,false,false,false,false,false,false] rfl rfl av (fun _ _ _ h=>h) (Or.inl ⟨by rfl,?_⟩) ?_ ?_
   rotate_left
   ·intro w'
    go_simp
    with_reducible rfl
   rotate_left
   ·simp only [Act.put,List.setIfInBounds_toArray,List.set_cons_zero,List.set_cons_succ,cR,cW]
    rfl
   refine eH (i:=11) (N:=some 19) (v:=?_) (a':=?_) #[true,true,true,true,true,true,true,true,true,true,true,true,false,false,false,false,false,false,false,false,false,false,false,false,false,false,false,false,false,false,false,false,false,false,false,false,false,false,false,false,false,false,false,false,false] rfl rfl av (fun _ _ _ h=>h) (Or.inl ⟨by rfl,?_⟩) ?_ ?_
   rotate_left
   ·intro w'
    go_simp
    with_reducible rfl
   rotate_left
   ·simp only [Act.put,List.setIfInBounds_toArray,List.set_cons_zero,List.set_cons_succ,cR,cW]
    rfl
   refine eH (i:=12) (N:=some 20) (v:=?_) (a':=?_) #[true,true,true,true,true,true,true,true,true,true,true,true,true,false,false,false,false,false,false,false,false,false,false,false,false,false,false,false,false,false,false,false,false,false,false,false,false,false,false,false,false,false,false,false,false] rfl rfl av (fun _ _ _ h=>h) (Or.inl ⟨by rfl,?_⟩) ?_ ?_
   rotate_left
   ·intro w'
    go_simp
    with_reducible rfl
   rotate_left
   ·simp only [Act.put,List.setIfInBounds_toArray,List.set_cons_zero,List.set_cons_succ,cR,cW]
    rfl
   refine eH (i:=25) (N:=some 33) (v:=?_) (a':=?_) #[true,true,true,true,true,true,true,true,true,true,true,true,true,false,false,false,false,false,false,false,false,false,false,false,false,true,false,false,false,false,false,false,false,false,false,false,false,false,false,false,false,false,false,false,false] rfl rfl av (fun _ _ _ h=>h) (Or.inl ⟨by rfl,?_⟩) ?_ ?_
   rotate_left
   ·intro w'
    go_simp
    with_reducible rfl
   rotate_left
   ·simp only [Act.put,List.setIfInBounds_toArray,List.set_cons_zero,List.set_cons_succ,cR,cW]
    rfl
   refine mV (i:=13) (N:=some 21) (v:=?_) (a':=?_) #[true,true,true,true,true,true,true,true,true,true,true,true,true,true,false,false,false,false,false,false,false,false,false,false,false,true,false,false,false,false,false,false,false,false,false,false,false,false,false,false,false,false,false,false,false] rfl rfl av (fun _ _ _ h=>h) (Or.inl ⟨by rfl,?_⟩) hHeld ?_ ?_
   rotate_left
   ·rintro w' ⟨s0,s1,s2,s3⟩
    go_simp
    with_reducible rfl
   rotate_left
   ·simp only [Act.put,List.setIfInBounds_toArray,List.set_cons_zero,List.set_cons_succ,cR,cW]
    rfl
   refine eH (i:=14) (N:=some 22) (v:=?_) (a':=?_) #[true,true,true,true,true,true,true,true,true,true,true,true,true,true,true,false,false,false,false,false,false,false,false,false,false,true,false,false,false,false,false,false,false,false,false,false,false,false,false,false,false,false,false,false,false] rfl rfl av (fun _ _ _ h=>h) (Or.inl ⟨by rfl,?_⟩) ?_ ?_
   rotate_left
   ·intro w'
    go_simp
    with_reducible rfl
   rotate_left
   ·simp only [Act.put,List.setIfInBounds_toArray,List.set_cons_zero,List.set_cons_succ,cR,cW]
    rfl
   refine eH (i:=15) (N:=some 23) (v:=?_) (a':=?_) #[true,true,true,true,true,true,true,true,true,true,true,true,true,true,true,true,false,false,false,false,false,false,false,false,false,true,false,false,false,false,false,false,false,false,false,false,false,false,false,false,false,false,false,false,false] rfl rfl av (fun _ _ _ h=>h) (Or.inl ⟨by rfl,?_⟩) ?_ ?_
   rotate_left
   ·intro w'
    go_simp
    with_reducible rfl
   rotate_left
   ·simp only [Act.put,List.setIfInBounds_toArray,List.set_cons_zero,List.set_cons_succ,cR,cW]
    rfl
   refine mV (i:=16) (N:=some 24) (v:=?_) (a':=?_) #[true,true,true,true,true,true,true,true,true,true,true,true,true,true,true,true,true,false,false,false,false,false,false,false,false,true,false,false,false,false,false,false,false,false,false,false,false,false,false,false,false,false,false,false,false] rfl rfl av (fun _ _ _ h=>h) (Or.inl ⟨by rfl,?_⟩) hHeld ?_ ?_
   rotate_left
   ·rintro w' ⟨s0,s1,s2,s3⟩
    go_simp
    with_reducible rfl
   rotate_left
   ·simp only [Act.put,List.setIfInBounds_toArray,List.set_cons_zero,List.set_cons_succ,cR,cW]
    rfl
   refine mV (i:=17) (N:=some 25) (v:=?_) (a':=?_) #[true,true,true,true,true,true,true,true,true,true,true,true,true,true,true,true,true,true,false,false,false,false,false,false,false,true,false,false,false,false,false,false,false,false,false,false,false,false,false,false,false,false,false,false,false] rfl rfl av (fun _ _ _ h=>h) (Or.inl ⟨by rfl,?_⟩) hHeld ?_ ?_
   rotate_left
   ·rintro w' ⟨s0,s1,s2,s3⟩
    go_simp
    with_reducible rfl
   rotate_left
   ·simp only [Act.put,List.setIfInBounds_toArray,List.set_cons_zero,List.set_cons_succ,cR,cW]
    rfl
   refine eH (i:=18) (N:=some 26) (v:=?_) (a':=?_) #[true,true,true,true,true,true,true,true,true,true,true,true,true,true,true,true,true,true,true,false,false,false,false,false,false,true,false,false,false,false,false,false,false,false,false,false,false,false,false,false,false,false,false,false,false] rfl rfl av (fun _ _ _ h=>h) (Or.inl ⟨by rfl,?_⟩) ?_ ?_
   rotate_left
   ·intro w'
    go_simp
    with_reducible rfl
   rotate_left
   ·simp only [Act.put,List.setIfInBounds_toArray,List.set_cons_zero,List.set_cons_succ,cR,cW]
    rfl
   refine eH (i:=19) (N:=some 27) (v:=?_) (a':=?_) #[true,true,true,true,true,true,true,true,true,true,true,true,true,true,true,true,true,true,true,true,false,false,false,false,false,true,false,false,false,false,false,false,false,false,false,false,false,false,false,false,false,false,false,false,false] rfl rfl av (fun _ _ _ h=>h) (Or.inl ⟨by rfl,?_⟩) ?_ ?_
   rotate_left
   ·intro w'
    go_simp
    with_reducible rfl
   rotate_left
   ·simp only [Act.put,List.setIfInBounds_toArray,List.set_cons_zero,List.set_cons_succ,cR,cW]
    rfl
   refine mV (i:=20) (N:=some 28) (v:=?_) (a':=?_) #[true,true,true,true,true,true,true,true,true,true,true,true,true,true,true,true,true,true,true,true,true,false,false,false,false,true,false,false,false,false,false,false,false,false,false,false,false,false,false,false,false,false,false,false,false] rfl rfl av (fun _ _ _ h=>h) (Or.inl ⟨by rfl,?_⟩) hHeld ?_ ?_
   rotate_left
   ·rintro w' ⟨s0,s1,s2,s3⟩
    go_simp
    with_reducible rfl
   rotate_left
   ·simp only [Act.put,List.setIfInBounds_toArray,List.set_cons_zero,List.set_cons_succ,cR,cW]
    rfl
   refine mV (i:=21) (N:=some 29) (v:=?_) (a':=?_) #[true,true,true,true,true,true,true,true,true,true,true,true,true,true,true,true,true,true,true,true,true,true,false,false,false,true,false,false,false,false,false,false,false,false,false,false,false,false,false,false,false,false,false,false,false] rfl rfl av (fun _ _ _ h=>h) (Or.inl ⟨by rfl,?_⟩) hHeld ?_ ?_
   rotate_left
   ·rintro w' ⟨s0,s1,s2,s3⟩
    go_simp
    with_reducible rfl
   rotate_left
   ·simp only [Act.put,List.setIfInBounds_toArray,List.set_cons_zero,List.set_cons_succ,cR,cW]
    rfl
   refine eH (i:=22) (N:=some 30) (v:=?_) (a':=?_) #[true,true,true,true,true,true,true,true,true,true,true,true,true,true,true,true,true,true,true,true,true,true,true,false,false,true,false,false,false,false,false,false,false,false,false,false,false,false,false,false,false,false,false,false,false] rfl rfl av (fun _ _ _ h=>h) (Or.inl ⟨by rfl,?_⟩) ?_ ?_
   rotate_left
   ·intro w'
    go_simp
    with_reducible rfl
   rotate_left
   ·simp only [Act.put,List.setIfInBounds_toArray,List.set_cons_zero,List.set_cons_succ,cR,cW]
    rfl
   refine eH (i:=23) (N:=some 31) (v:=?_) (a':=?_) #[true,true,true,true,true,true,true,true,true,true,true,true,true,true,true,true,true,true,true,true,true,true,true,true,false,true,false,false,false,false,false,false,false,false,false,false,false,false,false,false,false,false,false,false,false] rfl rfl av (fun _ _ _ h=>h) (Or.inl ⟨by rfl,?_⟩) ?_ ?_
   rotate_left
   ·intro w'
    go_simp
    with_reducible rfl
   rotate_left
   ·simp only [Act.put,List.setIfInBounds_toArray,List.set_cons_zero,List.set_cons_succ,cR,cW]
    rfl
   refine mV (i:=24) (N:=some 32) (v:=?_) (a':=?_) #[true,true,true,true,true,true,true,true,true,true,true,true,true,true,true,true,true,true,true,true,true,true,true,true,true,true,false,false,false,false,false,false,false,false,false,false,false,false,false,false,false,false,false,false,false] rfl rfl av (fun _ _ _ h=>h) (Or.inl ⟨by rfl,?_⟩) hHeld ?_ ?_
   rotate_left
   ·rintro w' ⟨s0,s1,s2,s3⟩
    go_simp
    with_reducible rfl
   rotate_left
   ·simp only [Act.put,List.setIfInBounds_toArray,List.set_cons_zero,List.set_cons_succ,cR,cW]
    rfl
   refine eH (i:=26) (N:=some 34) (v:=?_) (a':=?_) #[true,true,true,true,true,true,true,true,true,true,true,true,true,true,true,true,true,true,true,true,true,true,true,true,true,true,true,false,false,false,false,false,false,false,false,false,false,false,false,false,false,false,false,false,false] rfl rfl av (fun _ _ _ h=>h) (Or.inl ⟨by rfl,?_⟩) ?_ ?_
   rotate_left
   ·intro w'
    go_simp
    with_reducible rfl
   rotate_left
   ·simp only [Act.put,List.setIfInBounds_toArray,List.set_cons_zero,List.set_cons_succ,cR,cW]
    rfl
   refine eH (i:=27) (N:=some 35) (v:=?_) (a':=?_) #[true,true,true,true,true,true,true,true,true,true,true,true,true,true,true,true,true,true,true,true,true,true,true,true,true,true,true,true,false,false,false,false,false,false,false,false,false,false,false,false,false,false,false,false,false] rfl rfl av (fun _ _ _ h=>h) (Or.inl ⟨by rfl,?_⟩) ?_ ?_
   rotate_left
   ·intro w'
    go_simp
    with_reducible rfl
   rotate_left
   ·simp only [Act.put,List.setIfInBounds_toArray,List.set_cons_zero,List.set_cons_succ,cR,cW]
    rfl
   refine Ix (i:=28) (N:=some 36) #[true,true,true,true,true,true,true,true,true,true,true,true,true,true,true,true,true,true,true,true,true,true,true,true,true,true,true,true,true,false,false,false,false,false,false,false,false,false,false,false,false,false,false,false,false] rfl rfl av bG (fun K hK=>?_)
   refine Cw Tryz.func81 av rfl #[.string (s.extract p.toNat (p + 10).toNat)] (by rfl) rfl rfl (by simp only [List.map_toArray,List.map_cons,List.map_nil];rfl) ?_
   with_reducible refine (HC.out _).mono ?_
   rintro e w3 ⟨rfl,hb⟩
   refine ⟨_,rfl,?_⟩
   have zP:=ah.mk (oO.below hHeld.2.2.2.out hb)
   clear hb
   refine hK.out _ _ ⟨(af zP.out.ha 0).trans rfl,(af zP.out.st.1 0).trans rfl,(af zP.out.st.1 1).trans rfl,zP⟩ (fun hHeld=>?_)
   clear hK K
   refine Cv (a':=?_) ?_ ?_
   rotate_left
   ·show Act.put _ (some 36) _=_
    simp only [Act.put,List.setIfInBounds_toArray,List.set_cons_zero,List.set_cons_succ,cR,cW]
    rfl
   refine eH (i:=29) (N:=some 37) (v:=?_) (a':=?_) #[true,true,true,true,true,true,true,true,true,true,true,true,true,true,true,true,true,true,true,true,true,true,true,true,true,true,true,true,true,true,false,false,false,false,false,false,false,false,false,false,false,false,false,false,false] rfl rfl av (fun _ _ _ h=>h) (Or.inl ⟨by rfl,?_⟩) ?_ ?_
   rotate_left
   ·intro w'
    go_simp
    with_reducible rfl
   rotate_left
   ·simp only [Act.put,List.setIfInBounds_toArray,List.set_cons_zero,List.set_cons_succ,cR,cW]
    rfl
   refine eH (i:=30) (N:=some 38) (v:=?_) (a':=?_) #[true,true,true,true,true,true,true,true,true,true,true,true,true,true,true,true,true,true,true,true,true,true,true,true,true,true,true,true,true,true,true,false,false,false,false,false,false,false,false,false,false,false,false,false,false] rfl rfl av (fun _ _ _ h=>h) (Or.inl ⟨by rfl,?_⟩) ?_ ?_
   rotate_left
   ·intro w'
    go_simp
    with_reducible rfl
   rotate_left
   ·simp only [Act.put,List.setIfInBounds_toArray,List.set_cons_zero,List.set_cons_succ,cR,cW]
    rfl
   refine eH (i:=31) (N:=some 39) (v:=?_) (a':=?_) #[true,true,true,true,true,true,true,true,true,true,true,true,true,true,true,true,true,true,true,true,true,true,true,true,true,true,true,true,true,true,true,true,false,false,false,false,false,false,false,false,false,false,false,false,false] rfl rfl av (fun _ _ _ h=>h) (Or.inl ⟨by rfl,?_⟩) ?_ ?_
   rotate_left
   ·intro w'
    go_simp
    with_reducible rfl
   rotate_left
   ·simp only [Act.put,List.setIfInBounds_toArray,List.set_cons_zero,List.set_cons_succ,cR,cW]
    rfl
   refine eH (i:=32) (N:=some 40) (v:=undef) (a':=?_) #[true,true,true,true,true,true,true,true,true,true,true,true,true,true,true,true,true,true,true,true,true,true,true,true,true,true,true,true,true,true,true,true,true,false,false,false,false,false,false,false,false,false,false,false,false] rfl rfl av (fun _ _ _ h=>h) (Or.inr ⟨by rfl,rfl⟩) ?_ ?_
   rotate_left
   ·simp only [Act.put,List.setIfInBounds_toArray,List.set_cons_zero,List.set_cons_succ,cR,cW]
    rfl
   refine eH (i:=33) (N:=some 41) (v:=undef) (a':=?_) #[true,true,true,true,true,true,true,true,true,true,true,true,true,true,true,true,true,true,true,true,true,true,true,true,true,true,true,true,true,true,true,true,true,true,false,false,false,false,false,false,false,false,false,false,false] rfl rfl av (fun _ _ _ h=>h) (Or.inr ⟨by rfl,rfl⟩) ?_ ?_
   rotate_left
   ·simp only [Act.put,List.setIfInBounds_toArray,List.set_cons_zero,List.set_cons_succ,cR,cW]
    rfl
   refine eH (i:=34) (N:=some 42) (v:=undef) (a':=?_) #[true,true,true,true,true,true,true,true,true,true,true,true,true,true,true,true,true,true,true,true,true,true,true,true,true,true,true,true,true,true,true,true,true,true,true,false,false,false,false,false,false,false,false,false,false] rfl rfl av (fun _ _ _ h=>h) (Or.inr ⟨by rfl,rfl⟩) ?_ ?_
   rotate_left
   ·simp only [Act.put,List.setIfInBounds_toArray,List.set_cons_zero,List.set_cons_succ,cR,cW]
    rfl
   refine eH (i:=35) (N:=some 43) (v:=undef) (a':=?_) #[true,true,true,true,true,true,true,true,true,true,true,true,true,true,true,true,true,true,true,true,true,true,true,true,true,true,true,true,true,true,true,true,true,true,true,true,false,false,false,false,false,false,false,false,false] rfl rfl av (fun _ _ _ h=>h) (Or.inr ⟨by rfl,rfl⟩) ?_ ?_
   rotate_left
   ·simp only [Act.put,List.setIfInBounds_toArray,List.set_cons_zero,List.set_cons_succ,cR,cW]
    rfl
   refine eH (i:=36) (N:=some 44) (v:=undef) (a':=?_) #[true,true,true,true,true,true,true,true,true,true,true,true,true,true,true,true,true,true,true,true,true,true,true,true,true,true,true,true,true,true,true,true,true,true,true,true,true,false,false,false,false,false,false,false,false] rfl rfl av (fun _ _ _ h=>h) (Or.inr ⟨by rfl,rfl⟩) ?_ ?_
   rotate_left
   ·simp only [Act.put,List.setIfInBounds_toArray,List.set_cons_zero,List.set_cons_succ,cR,cW]
    rfl
   refine eH (i:=37) (N:=some 45) (v:=undef) (a':=?_) #[true,true,true,true,true,true,true,true,true,true,true,true,true,true,true,true,true,true,true,true,true,true,true,true,true,true,true,true,true,true,true,true,true,true,true,true,true,true,false,false,false,false,false,false,false] rfl rfl av (fun _ _ _ h=>h) (Or.inr ⟨by rfl,rfl⟩) ?_ ?_
   rotate_left
   ·simp only [Act.put,List.setIfInBounds_toArray,List.set_cons_zero,List.set_cons_succ,cR,cW]
    rfl
   refine eH (i:=38) (N:=some 46) (v:=undef) (a':=?_) #[true,true,true,true,true,true,true,true,true,true,true,true,true,true,true,true,true,true,true,true,true,true,true,true,true,true,true,true,true,true,true,true,true,true,true,true,true,true,true,false,false,false,false,false,false] rfl rfl av (fun _ _ _ h=>h) (Or.inr ⟨by rfl,rfl⟩) ?_ ?_
   rotate_left
   ·simp only [Act.put,List.setIfInBounds_toArray,List.set_cons_zero,List.set_cons_succ,cR,cW]
    rfl
   refine eH (i:=39) (N:=some 47) (v:=undef) (a':=?_) #[true,true,true,true,true,true,true,true,true,true,true,true,true,true,true,true,true,true,true,true,true,true,true,true,true,true,true,true,true,true,true,true,true,true,true,true,true,true,true,true,false,false,false,false,false] rfl rfl av (fun _ _ _ h=>h) (Or.inr ⟨by rfl,rfl⟩) ?_ ?_
   rotate_left
   ·simp only [Act.put,List.setIfInBounds_toArray,List.set_cons_zero,List.set_cons_succ,cR,cW]
    rfl
   refine eH (i:=40) (N:=some 48) (v:=undef) (a':=?_) #[true,true,true,true,true,true,true,true,true,true,true,true,true,true,true,true,true,true,true,true,true,true,true,true,true,true,true,true,true,true,true,true,true,true,true,true,true,true,true,true,true,false,false,false,false] rfl rfl av (fun _ _ _ h=>h) (Or.inr ⟨by rfl,rfl⟩) ?_ ?_
   rotate_left
   ·simp only [Act.put,List.setIfInBounds_toArray,List.set_cons_zero,List.set_cons_succ,cR,cW]
    rfl
   refine eH (i:=41) (N:=some 49) (v:=undef) (a':=?_) #[true,true,true,true,true,true,true,true,true,true,true,true,true,true,true,true,true,true,true,true,true,true,true,true,true,true,true,true,true,true,true,true,true,true,true,true,true,true,true,true,true,true,false,false,false] rfl rfl av (fun _ _ _ h=>h) (Or.inr ⟨by rfl,rfl⟩) ?_ ?_
   rotate_left
   ·simp only [Act.put,List.setIfInBounds_toArray,List.set_cons_zero,List.set_cons_succ,cR,cW]
    rfl
   refine eH (i:=42) (N:=some 50) (v:=undef) (a':=?_) #[true,true,true,true,true,true,true,true,true,true,true,true,true,true,true,true,true,true,true,true,true,true,true,true,true,true,true,true,true,true,true,true,true,true,true,true,true,true,true,true,true,true,true,false,false] rfl rfl av (fun _ _ _ h=>h) (Or.inr ⟨by rfl,rfl⟩) ?_ ?_
   rotate_left
   ·simp only [Act.put,List.setIfInBounds_toArray,List.set_cons_zero,List.set_cons_succ,cR,cW]
    rfl
   refine eH (i:=43) (N:=some 51) (v:=undef) (a':=?_) #[true,true,true,true,true,true,true,true,true,true,true,true,true,true,true,true,true,true,true,true,true,true,true,true,true,true,true,true,true,true,true,true,true,true,true,true,true,true,true,true,true,true,true,true,false] rfl rfl av (fun _ _ _ h=>h) (Or.inr ⟨by rfl,rfl⟩) ?_ ?_
   rotate_left
   ·simp only [Act.put,List.setIfInBounds_toArray,List.set_cons_zero,List.set_cons_succ,cR,cW]
    rfl
   refine eH (i:=44) (N:=some 52) (v:=?_) (a':=?_) #[true,true,true,true,true,true,true,true,true,true,true,true,true,true,true,true,true,true,true,true,true,true,true,true,true,true,true,true,true,true,true,true,true,true,true,true,true,true,true,true,true,true,true,true,true] rfl rfl av (fun _ _ _ h=>h) (Or.inl ⟨by rfl,?_⟩) ?_ ?_
   rotate_left
   ·intro w'
    go_simp
    with_reducible rfl
   rotate_left
   ·simp only [Act.put,List.setIfInBounds_toArray,List.set_cons_zero,List.set_cons_succ,cR,cW]
    rfl
   refine GD av ?_
   have H2:=ah.mk (show cT.f2 k s p=some (r1,r2,r3,r4,r5,r6,r7,r8) from (if_neg (by rw [HA.out];decide)).symm.trans HH.out)
   clear HA HH
   have HE:=ah.mk zP.out.held
   have adA:=HE.out.ca
   have h:=H2.out
   clear H2
   unfold cT.f2 at h
   obtain ⟨⟨c1,c2,c3⟩,A1,h⟩:=Option.bind_eq_some_iff.mp h
   dsimp only at A1 h
   have pS:=ah.mk A1
   clear A1
   cases h64:(c1 == 64) with
   |false=>
    rw [if_neg xB] at h
    unfold cT.f3 at h
    obtain ⟨⟨m1,m2,m3,m4,m5,m6⟩,Ab,h⟩:=Option.bind_eq_some_iff.mp h
    dsimp only at Ab h
    simp only [Option.some.injEq,Prod.mk.injEq] at h
    obtain ⟨rfl,rfl,rfl,rfl,rfl,rfl,rfl,rfl⟩:=h
    have U9:=ah.mk Ab
    clear Ab
    go_wp2_with (first
     |(go_at_call 115;refine (cS.calls g s p c1 c2 c3 w0 _ HE.out.st HE.out.bl pS.out).mono ?_;rintro e w4 ⟨rfl,hi,hb,hk⟩;have uf:=ah.mk (HE.out.call hi hb hk);have Fe:=uf.out.ca;clear hi hb hk)
     |(go_at_call 71;refine (cv.calls k g c2 c3 m1 m2 m3 m4 m5 m6 w0 _ uf.out.st uf.out.bl HG.out U9.out).mono ?_;rintro e w9 ⟨rfl,hi,hb,hk⟩;have gJ:=ah.mk (uf.out.call hi hb hk);have Va:=gJ.out.fb 0;have Vb:=gJ.out.fb 1;have Vc:=gJ.out.fb 2;have Vd:=gJ.out.fb 3;have Ve:=gJ.out.fb 4;have Vf:w9.cell? ⟨w3.heap.size,0,none⟩=some (Value.bool false):=(af gJ.out.hb 0).trans rfl;have Vg:w9.cell? ⟨w3.heap.size,1,none⟩=some (Value.slice none 0 0):=(af gJ.out.hb 1).trans rfl;have Vh:w9.cell? ⟨w3.heap.size,2,none⟩=some (Value.string ⟨#[]⟩):=(af gJ.out.hb 2).trans rfl;have Vi:w9.cell? ⟨w3.heap.size,3,none⟩=some (Value.string ⟨#[]⟩):=(af gJ.out.hb 3).trans rfl;have Vj:w9.cell? ⟨w3.heap.size,4,none⟩=some (Value.bool false):=(af gJ.out.hb 4).trans rfl;have Dl:=aa gJ.out.hc 0;have Dm:=aa gJ.out.hc 1;have Dn:=aa gJ.out.hc 2;have Dp:=aa gJ.out.hc 3;have Dq:=aa gJ.out.hc 4;have Dr:w9.cell? ⟨w.heap.size + 1,0,none⟩=some (Value.bool false):=(af gJ.out.hc 0).trans rfl;have Ds:w9.cell? ⟨w.heap.size + 1,1,none⟩=some (Value.slice none 0 0):=(af gJ.out.hc 1).trans rfl;have Dt:w9.cell? ⟨w.heap.size + 1,2,none⟩=some (Value.string ⟨#[]⟩):=(af gJ.out.hc 2).trans rfl;have Du:w9.cell? ⟨w.heap.size + 1,3,none⟩=some (Value.string ⟨#[]⟩):=(af gJ.out.hc 3).trans rfl;have Dv:w9.cell? ⟨w.heap.size + 1,4,none⟩=some (Value.bool false):=(af gJ.out.hc 4).trans rfl;have hnb:w.heap.size + 1≠w3.heap.size:=Nat.ne_of_lt gJ.out.gb;have Vk:w3.heap.size≠w.heap.size + 1:=(Nat.ne_of_lt gJ.out.gb).symm;clear hi hb hk))
    have H8:=gJ.out.box (.string m1) (.string m2) (.bool m3) rfl
    have H9:=qc (.bool false) (.slice none 0 0) (.string m1) (.string m2) (.bool m3) H8.2.1 H8.2.2.1 H8.2.2.2.1 gJ.out.sz (Nat.le_succ _) H8.2.2.2.2.2 rfl
    refine bodyPost_ret (cU rfl _ _ (w.heap.size + 1) 32 #[.bool false,.slice none 0 0,.string m1,.string m2,.bool m3] (0,0) _ rfl H9.1 Tryz.underlying32 rfl av) rfl ?_
    exact ⟨_,rfl,H9.2.2.2.2 _ _ H8.2.2.2.2.1,H9.2.1,H9.2.2.1,H9.2.2.2.1⟩
   |true=>
    rw [if_pos xB] at h
    obtain ⟨⟨l1,l2,l3,l4⟩,A2,h⟩:=Option.bind_eq_some_iff.mp h
    dsimp only at A2 h
    have qu:=ah.mk A2
    clear A2
    cases l1 with
    |false=>
     rw [if_neg bG] at h
     simp only [Option.some.injEq,Prod.mk.injEq] at h
     obtain ⟨rfl,rfl,rfl,rfl,rfl,rfl,rfl,rfl⟩:=h
     go_wp2_with (first
      |(go_at_call 115;refine (cS.calls g s p c1 c2 c3 w0 _ HE.out.st HE.out.bl pS.out).mono ?_;rintro e w4 ⟨rfl,hi,hb,hk⟩;have uf:=ah.mk (HE.out.call hi hb hk);have Fe:=uf.out.ca;clear hi hb hk)
      |(go_at_call 67;refine (dm.calls k g _ _ c2 c3 _ [] false l2 l3 l4 w0 w _ uf.out qu.out).mono ?_;rintro e w5 ⟨rfl,v5,h5⟩;have lH:=ah.mk h5;have Mp:=lH.out.ca;clear h5;have Dl:=aa lH.out.hc 0;have Dm:=aa lH.out.hc 1;have Dn:=aa lH.out.hc 2;have Dp:=aa lH.out.hc 3;have Dq:=aa lH.out.hc 4;have Dr:w5.cell? ⟨w.heap.size + 1,0,none⟩=some (Value.bool false):=(af lH.out.hc 0).trans rfl;have Ds:w5.cell? ⟨w.heap.size + 1,1,none⟩=some (Value.slice none 0 0):=(af lH.out.hc 1).trans rfl;have Dt:w5.cell? ⟨w.heap.size + 1,2,none⟩=some (Value.string ⟨#[]⟩):=(af lH.out.hc 2).trans rfl;have Du:w5.cell? ⟨w.heap.size + 1,3,none⟩=some (Value.string ⟨#[]⟩):=(af lH.out.hc 3).trans rfl;have Dv:w5.cell? ⟨w.heap.size + 1,4,none⟩=some (Value.bool false):=(af lH.out.hc 4).trans rfl))
     have H9:=qc (W:=w5) (.bool false) (.slice none 0 0) (.string ⟨#[]⟩) (.string ⟨#[]⟩) (.bool false) lH.out.st lH.out.bl lH.out.kp lH.out.sz (Nat.le_succ _) lH.out.hc rfl
     refine bodyPost_ret (cU rfl _ _ (w.heap.size + 1) 32 #[.bool false,.slice none 0 0,.string ⟨#[]⟩,.string ⟨#[]⟩,.bool false] (0,0) _ rfl H9.1 Tryz.underlying32 rfl av) rfl ?_
     exact ⟨_,rfl,Kd.eX _ _ _ _ _,H9.2.1,H9.2.2.1,H9.2.2.2.1⟩
    |true=>
     rw [if_pos rfl] at h
     obtain ⟨⟨u1,u2,u3⟩,A3,h⟩:=Option.bind_eq_some_iff.mp h
     dsimp only at A3 h
     have uu:=ah.mk A3
     clear A3
     cases u1 with
     |false=>
      rw [if_neg bG] at h
      simp only [Option.some.injEq,Prod.mk.injEq] at h
      obtain ⟨rfl,rfl,rfl,rfl,rfl,rfl,rfl,rfl⟩:=h
      go_wp2_with (first
       |(go_at_call 115;refine (cS.calls g s p c1 c2 c3 w0 _ HE.out.st HE.out.bl pS.out).mono ?_;rintro e w4 ⟨rfl,hi,hb,hk⟩;have uf:=ah.mk (HE.out.call hi hb hk);have Fe:=uf.out.ca;clear hi hb hk)
       |(go_at_call 67;refine (dm.calls k g _ _ c2 c3 _ [] true l2 l3 l4 w0 w _ uf.out qu.out).mono ?_;rintro e w5 ⟨rfl,v5,h5⟩;have lH:=ah.mk h5;have Mp:=lH.out.ca;clear h5)
       |(go_at_call 56;refine (bf.calls g l2 l3 58 false u2 u3 w0 _ lH.out.st lH.out.bl uu.out).mono ?_;rintro e w6 ⟨rfl,hi,hb,hk⟩;have n9:=ah.mk (lH.out.call hi hb hk);have Vl:=n9.out.ca;clear hi hb hk;have Dl:=aa n9.out.hc 0;have Dm:=aa n9.out.hc 1;have Dn:=aa n9.out.hc 2;have Dp:=aa n9.out.hc 3;have Dq:=aa n9.out.hc 4;have Dr:w6.cell? ⟨w.heap.size + 1,0,none⟩=some (Value.bool false):=(af n9.out.hc 0).trans rfl;have Ds:w6.cell? ⟨w.heap.size + 1,1,none⟩=some (Value.slice none 0 0):=(af n9.out.hc 1).trans rfl;have Dt:w6.cell? ⟨w.heap.size + 1,2,none⟩=some (Value.string ⟨#[]⟩):=(af n9.out.hc 2).trans rfl;have Du:w6.cell? ⟨w.heap.size + 1,3,none⟩=some (Value.string ⟨#[]⟩):=(af n9.out.hc 3).trans rfl;have Dv:w6.cell? ⟨w.heap.size + 1,4,none⟩=some (Value.bool false):=(af n9.out.hc 4).trans rfl))
      have H9:=qc (W:=w6) (.bool false) (.slice none 0 0) (.string ⟨#[]⟩) (.string ⟨#[]⟩) (.bool false) n9.out.st n9.out.bl n9.out.kp n9.out.sz (Nat.le_succ _) n9.out.hc rfl
      refine bodyPost_ret (cU rfl _ _ (w.heap.size + 1) 32 #[.bool false,.slice none 0 0,.string ⟨#[]⟩,.string ⟨#[]⟩,.bool false] (0,0) _ rfl H9.1 Tryz.underlying32 rfl av) rfl ?_
      exact ⟨_,rfl,Kd.eX _ _ _ _ _,H9.2.1,H9.2.2.1,H9.2.2.2.1⟩
     |true=>
      rw [if_pos rfl] at h
      unfold cT.f3 at h
      obtain ⟨⟨m1,m2,m3,m4,m5,m6⟩,Ab,h⟩:=Option.bind_eq_some_iff.mp h
      dsimp only at Ab h
      simp only [Option.some.injEq,Prod.mk.injEq] at h
      obtain ⟨rfl,rfl,rfl,rfl,rfl,rfl,rfl,rfl⟩:=h
      have U9:=ah.mk Ab
      clear Ab
      go_wp2_with (first
       |(go_at_call 115;refine (cS.calls g s p c1 c2 c3 w0 _ HE.out.st HE.out.bl pS.out).mono ?_;rintro e w4 ⟨rfl,hi,hb,hk⟩;have uf:=ah.mk (HE.out.call hi hb hk);have Fe:=uf.out.ca;clear hi hb hk)
       |(go_at_call 67;refine (dm.calls k g _ _ c2 c3 _ [] true l2 l3 l4 w0 w _ uf.out qu.out).mono ?_;rintro e w5 ⟨rfl,v5,h5⟩;have lH:=ah.mk h5;have Mp:=lH.out.ca;clear h5)
       |(go_at_call 56;refine (bf.calls g l2 l3 58 true u2 u3 w0 _ lH.out.st lH.out.bl uu.out).mono ?_;rintro e w6 ⟨rfl,hi,hb,hk⟩;have n9:=ah.mk (lH.out.call hi hb hk);have Vl:=n9.out.ca;clear hi hb hk)
       |(go_at_call 71;refine (cv.calls k g u2 u3 m1 m2 m3 m4 m5 m6 w0 _ n9.out.st n9.out.bl HG.out U9.out).mono ?_;rintro e w9 ⟨rfl,hi,hb,hk⟩;have gJ:=ah.mk (n9.out.call hi hb hk);obtain ⟨A9,c9,e9⟩:=Kd.fI gJ.out.hr;subst e9;have Va:=gJ.out.fb 0;have Vb:=gJ.out.fb 1;have Vc:=gJ.out.fb 2;have Vd:=gJ.out.fb 3;have Ve:=gJ.out.fb 4;have Vf:w9.cell? ⟨w3.heap.size,0,none⟩=some (Value.bool false):=(af gJ.out.hb 0).trans rfl;have Vg:w9.cell? ⟨w3.heap.size,1,none⟩=some (Value.slice A9 l4.length c9):=(af gJ.out.hb 1).trans rfl;have Vh:w9.cell? ⟨w3.heap.size,2,none⟩=some (Value.string ⟨#[]⟩):=(af gJ.out.hb 2).trans rfl;have Vi:w9.cell? ⟨w3.heap.size,3,none⟩=some (Value.string ⟨#[]⟩):=(af gJ.out.hb 3).trans rfl;have Vj:w9.cell? ⟨w3.heap.size,4,none⟩=some (Value.bool false):=(af gJ.out.hb 4).trans rfl;have Dl:=aa gJ.out.hc 0;have Dm:=aa gJ.out.hc 1;have Dn:=aa gJ.out.hc 2;have Dp:=aa gJ.out.hc 3;have Dq:=aa gJ.out.hc 4;have Dr:w9.cell? ⟨w.heap.size + 1,0,none⟩=some (Value.bool false):=(af gJ.out.hc 0).trans rfl;have Ds:w9.cell? ⟨w.heap.size + 1,1,none⟩=some (Value.slice none 0 0):=(af gJ.out.hc 1).trans rfl;have Dt:w9.cell? ⟨w.heap.size + 1,2,none⟩=some (Value.string ⟨#[]⟩):=(af gJ.out.hc 2).trans rfl;have Du:w9.cell? ⟨w.heap.size + 1,3,none⟩=some (Value.string ⟨#[]⟩):=(af gJ.out.hc 3).trans rfl;have Dv:w9.cell? ⟨w.heap.size + 1,4,none⟩=some (Value.bool false):=(af gJ.out.hc 4).trans rfl;have hnb:w.heap.size + 1≠w3.heap.size:=Nat.ne_of_lt gJ.out.gb;have Vk:w3.heap.size≠w.heap.size + 1:=(Nat.ne_of_lt gJ.out.gb).symm;clear hi hb hk))
      have H8:=gJ.out.box (.string m1) (.string m2) (.bool m3) rfl
      have H9:=qc (.bool false) (.slice A9 l4.length c9) (.string m1) (.string m2) (.bool m3) H8.2.1 H8.2.2.1 H8.2.2.2.1 gJ.out.sz (Nat.le_succ _) H8.2.2.2.2.2 rfl
      refine bodyPost_ret (cU rfl _ _ (w.heap.size + 1) 32 #[.bool false,.slice A9 l4.length c9,.string m1,.string m2,.bool m3] (0,0) _ rfl H9.1 Tryz.underlying32 rfl av) rfl ?_
      exact ⟨_,rfl,H9.2.2.2.2 _ _ H8.2.2.2.2.1,H9.2.1,H9.2.2.1,H9.2.2.2.1⟩
  |true=>
   cases h62:(bt s (p + 10) == 62) with
   |false=>
    have HA:=ah.mk (show pz s p=false by unfold pz;rw [HX.out,hq,h62];simp)
    go_region_held3 (fun w'=>w'.cell? ⟨w.heap.size,0,none⟩=some (.pointer (some ⟨g,0,none⟩))∧w'.cell? ⟨g,0,none⟩=some (.string s)∧w'.cell? ⟨g,1,none⟩=some (.int .i64 p)∧ah (oO w0 w w' g s p)) (first|exact ⟨hca,hc0,hc1,ah.mk (HF.out.below (bn (Below.refl _ _)))⟩|(refine ⟨?_,?_,?_,?_⟩<;>assumption))
     (first|(go_at_call 81;obtain ⟨_,_,_,hF⟩:=‹_∧_∧_∧ah (oO w0 w _ g s p)›;refine (HC.out _).mono ?_;rintro e w3 ⟨rfl,hb⟩;have hF3:=oO.below hF.out hb;have zP:=ah.mk hF3;clear hF hF3;have air:w3.cell? ⟨w.heap.size,0,none⟩=some (.pointer (some ⟨g,0,none⟩)):=(af zP.out.ha 0).trans rfl;have ais:w3.cell? ⟨g,0,none⟩=some (.string s):=(af zP.out.st.1 0).trans rfl;have ait:w3.cell? ⟨g,1,none⟩=some (.int .i64 p):=(af zP.out.st.1 1).trans rfl;clear hb))
    have H2:=ah.mk (show cT.f2 k s p=some (r1,r2,r3,r4,r5,r6,r7,r8) from (if_neg (by rw [HA.out];decide)).symm.trans HH.out)
    clear HA HH
    have HE:=ah.mk zP.out.held
    have adA:=HE.out.ca
    have h:=H2.out
    clear H2
    unfold cT.f2 at h
    obtain ⟨⟨c1,c2,c3⟩,A1,h⟩:=Option.bind_eq_some_iff.mp h
    dsimp only at A1 h
    have pS:=ah.mk A1
    clear A1
    cases h64:(c1 == 64) with
    |false=>
     rw [if_neg xB] at h
     unfold cT.f3 at h
     obtain ⟨⟨m1,m2,m3,m4,m5,m6⟩,Ab,h⟩:=Option.bind_eq_some_iff.mp h
     dsimp only at Ab h
     simp only [Option.some.injEq,Prod.mk.injEq] at h
     obtain ⟨rfl,rfl,rfl,rfl,rfl,rfl,rfl,rfl⟩:=h
     have U9:=ah.mk Ab
     clear Ab
     go_wp2_with (first
      |(go_at_call 115;refine (cS.calls g s p c1 c2 c3 w0 _ HE.out.st HE.out.bl pS.out).mono ?_;rintro e w4 ⟨rfl,hi,hb,hk⟩;have uf:=ah.mk (HE.out.call hi hb hk);have Fe:=uf.out.ca;clear hi hb hk)
      |(go_at_call 71;refine (cv.calls k g c2 c3 m1 m2 m3 m4 m5 m6 w0 _ uf.out.st uf.out.bl HG.out U9.out).mono ?_;rintro e w9 ⟨rfl,hi,hb,hk⟩;have gJ:=ah.mk (uf.out.call hi hb hk);have Va:=gJ.out.fb 0;have Vb:=gJ.out.fb 1;have Vc:=gJ.out.fb 2;have Vd:=gJ.out.fb 3;have Ve:=gJ.out.fb 4;have Vf:w9.cell? ⟨w3.heap.size,0,none⟩=some (Value.bool false):=(af gJ.out.hb 0).trans rfl;have Vg:w9.cell? ⟨w3.heap.size,1,none⟩=some (Value.slice none 0 0):=(af gJ.out.hb 1).trans rfl;have Vh:w9.cell? ⟨w3.heap.size,2,none⟩=some (Value.string ⟨#[]⟩):=(af gJ.out.hb 2).trans rfl;have Vi:w9.cell? ⟨w3.heap.size,3,none⟩=some (Value.string ⟨#[]⟩):=(af gJ.out.hb 3).trans rfl;have Vj:w9.cell? ⟨w3.heap.size,4,none⟩=some (Value.bool false):=(af gJ.out.hb 4).trans rfl;have Dl:=aa gJ.out.hc 0;have Dm:=aa gJ.out.hc 1;have Dn:=aa gJ.out.hc 2;have Dp:=aa gJ.out.hc 3;have Dq:=aa gJ.out.hc 4;have Dr:w9.cell? ⟨w.heap.size + 1,0,none⟩=some (Value.bool false):=(af gJ.out.hc 0).trans rfl;have Ds:w9.cell? ⟨w.heap.size + 1,1,none⟩=some (Value.slice none 0 0):=(af gJ.out.hc 1).trans rfl;have Dt:w9.cell? ⟨w.heap.size + 1,2,none⟩=some (Value.string ⟨#[]⟩):=(af gJ.out.hc 2).trans rfl;have Du:w9.cell? ⟨w.heap.size + 1,3,none⟩=some (Value.string ⟨#[]⟩):=(af gJ.out.hc 3).trans rfl;have Dv:w9.cell? ⟨w.heap.size + 1,4,none⟩=some (Value.bool false):=(af gJ.out.hc 4).trans rfl;have hnb:w.heap.size + 1≠w3.heap.size:=Nat.ne_of_lt gJ.out.gb;have Vk:w3.heap.size≠w.heap.size + 1:=(Nat.ne_of_lt gJ.out.gb).symm;clear hi hb hk))
     have H8:=gJ.out.box (.string m1) (.string m2) (.bool m3) rfl
     have H9:=qc (.bool false) (.slice none 0 0) (.string m1) (.string m2) (.bool m3) H8.2.1 H8.2.2.1 H8.2.2.2.1 gJ.out.sz (Nat.le_succ _) H8.2.2.2.2.2 rfl
     refine bodyPost_ret (cU rfl _ _ (w.heap.size + 1) 32 #[.bool false,.slice none 0 0,.string m1,.string m2,.bool m3] (0,0) _ rfl H9.1 Tryz.underlying32 rfl av) rfl ?_
     exact ⟨_,rfl,H9.2.2.2.2 _ _ H8.2.2.2.2.1,H9.2.1,H9.2.2.1,H9.2.2.2.1⟩
    |true=>
     rw [if_pos xB] at h
     obtain ⟨⟨l1,l2,l3,l4⟩,A2,h⟩:=Option.bind_eq_some_iff.mp h
     dsimp only at A2 h
     have qu:=ah.mk A2
     clear A2
     cases l1 with
     |false=>
      rw [if_neg bG] at h
      simp only [Option.some.injEq,Prod.mk.injEq] at h
      obtain ⟨rfl,rfl,rfl,rfl,rfl,rfl,rfl,rfl⟩:=h
      go_wp2_with (first
       |(go_at_call 115;refine (cS.calls g s p c1 c2 c3 w0 _ HE.out.st HE.out.bl pS.out).mono ?_;rintro e w4 ⟨rfl,hi,hb,hk⟩;have uf:=ah.mk (HE.out.call hi hb hk);have Fe:=uf.out.ca;clear hi hb hk)
       |(go_at_call 67;refine (dm.calls k g _ _ c2 c3 _ [] false l2 l3 l4 w0 w _ uf.out qu.out).mono ?_;rintro e w5 ⟨rfl,v5,h5⟩;have lH:=ah.mk h5;have Mp:=lH.out.ca;clear h5;have Dl:=aa lH.out.hc 0;have Dm:=aa lH.out.hc 1;have Dn:=aa lH.out.hc 2;have Dp:=aa lH.out.hc 3;have Dq:=aa lH.out.hc 4;have Dr:w5.cell? ⟨w.heap.size + 1,0,none⟩=some (Value.bool false):=(af lH.out.hc 0).trans rfl;have Ds:w5.cell? ⟨w.heap.size + 1,1,none⟩=some (Value.slice none 0 0):=(af lH.out.hc 1).trans rfl;have Dt:w5.cell? ⟨w.heap.size + 1,2,none⟩=some (Value.string ⟨#[]⟩):=(af lH.out.hc 2).trans rfl;have Du:w5.cell? ⟨w.heap.size + 1,3,none⟩=some (Value.string ⟨#[]⟩):=(af lH.out.hc 3).trans rfl;have Dv:w5.cell? ⟨w.heap.size + 1,4,none⟩=some (Value.bool false):=(af lH.out.hc 4).trans rfl))
      have H9:=qc (W:=w5) (.bool false) (.slice none 0 0) (.string ⟨#[]⟩) (.string ⟨#[]⟩) (.bool false) lH.out.st lH.out.bl lH.out.kp lH.out.sz (Nat.le_succ _) lH.out.hc rfl
      refine bodyPost_ret (cU rfl _ _ (w.heap.size + 1) 32 #[.bool false,.slice none 0 0,.string ⟨#[]⟩,.string ⟨#[]⟩,.bool false] (0,0) _ rfl H9.1 Tryz.underlying32 rfl av) rfl ?_
      exact ⟨_,rfl,Kd.eX _ _ _ _ _,H9.2.1,H9.2.2.1,H9.2.2.2.1⟩
     |true=>
      rw [if_pos rfl] at h
      obtain ⟨⟨u1,u2,u3⟩,A3,h⟩:=Option.bind_eq_some_iff.mp h
      dsimp only at A3 h
      have uu:=ah.mk A3
      clear A3
      cases u1 with
      |false=>
       rw [if_neg bG] at h
       simp only [Option.some.injEq,Prod.mk.injEq] at h
       obtain ⟨rfl,rfl,rfl,rfl,rfl,rfl,rfl,rfl⟩:=h
       go_wp2_with (first
        |(go_at_call 115;refine (cS.calls g s p c1 c2 c3 w0 _ HE.out.st HE.out.bl pS.out).mono ?_;rintro e w4 ⟨rfl,hi,hb,hk⟩;have uf:=ah.mk (HE.out.call hi hb hk);have Fe:=uf.out.ca;clear hi hb hk)
        |(go_at_call 67;refine (dm.calls k g _ _ c2 c3 _ [] true l2 l3 l4 w0 w _ uf.out qu.out).mono ?_;rintro e w5 ⟨rfl,v5,h5⟩;have lH:=ah.mk h5;have Mp:=lH.out.ca;clear h5)
        |(go_at_call 56;refine (bf.calls g l2 l3 58 false u2 u3 w0 _ lH.out.st lH.out.bl uu.out).mono ?_;rintro e w6 ⟨rfl,hi,hb,hk⟩;have n9:=ah.mk (lH.out.call hi hb hk);have Vl:=n9.out.ca;clear hi hb hk;have Dl:=aa n9.out.hc 0;have Dm:=aa n9.out.hc 1;have Dn:=aa n9.out.hc 2;have Dp:=aa n9.out.hc 3;have Dq:=aa n9.out.hc 4;have Dr:w6.cell? ⟨w.heap.size + 1,0,none⟩=some (Value.bool false):=(af n9.out.hc 0).trans rfl;have Ds:w6.cell? ⟨w.heap.size + 1,1,none⟩=some (Value.slice none 0 0):=(af n9.out.hc 1).trans rfl;have Dt:w6.cell? ⟨w.heap.size + 1,2,none⟩=some (Value.string ⟨#[]⟩):=(af n9.out.hc 2).trans rfl;have Du:w6.cell? ⟨w.heap.size + 1,3,none⟩=some (Value.string ⟨#[]⟩):=(af n9.out.hc 3).trans rfl;have Dv:w6.cell? ⟨w.heap.size + 1,4,none⟩=some (Value.bool false):=(af n9.out.hc 4).trans rfl))
       have H9:=qc (W:=w6) (.bool false) (.slice none 0 0) (.string ⟨#[]⟩) (.string ⟨#[]⟩) (.bool false) n9.out.st n9.out.bl n9.out.kp n9.out.sz (Nat.le_succ _) n9.out.hc rfl
       refine bodyPost_ret (cU rfl _ _ (w.heap.size + 1) 32 #[.bool false,.slice none 0 0,.string ⟨#[]⟩,.string ⟨#[]⟩,.bool false] (0,0) _ rfl H9.1 Tryz.underlying32 rfl av) rfl ?_
       exact ⟨_,rfl,Kd.eX _ _ _ _ _,H9.2.1,H9.2.2.1,H9.2.2.2.1⟩
      |true=>
       rw [if_pos rfl] at h
       unfold cT.f3 at h
       obtain ⟨⟨m1,m2,m3,m4,m5,m6⟩,Ab,h⟩:=Option.bind_eq_some_iff.mp h
       dsimp only at Ab h
       simp only [Option.some.injEq,Prod.mk.injEq] at h
       obtain ⟨rfl,rfl,rfl,rfl,rfl,rfl,rfl,rfl⟩:=h
       have U9:=ah.mk Ab
       clear Ab
       go_wp2_with (first
        |(go_at_call 115;refine (cS.calls g s p c1 c2 c3 w0 _ HE.out.st HE.out.bl pS.out).mono ?_;rintro e w4 ⟨rfl,hi,hb,hk⟩;have uf:=ah.mk (HE.out.call hi hb hk);have Fe:=uf.out.ca;clear hi hb hk)
        |(go_at_call 67;refine (dm.calls k g _ _ c2 c3 _ [] true l2 l3 l4 w0 w _ uf.out qu.out).mono ?_;rintro e w5 ⟨rfl,v5,h5⟩;have lH:=ah.mk h5;have Mp:=lH.out.ca;clear h5)
        |(go_at_call 56;refine (bf.calls g l2 l3 58 true u2 u3 w0 _ lH.out.st lH.out.bl uu.out).mono ?_;rintro e w6 ⟨rfl,hi,hb,hk⟩;have n9:=ah.mk (lH.out.call hi hb hk);have Vl:=n9.out.ca;clear hi hb hk)
        |(go_at_call 71;refine (cv.calls k g u2 u3 m1 m2 m3 m4 m5 m6 w0 _ n9.out.st n9.out.bl HG.out U9.out).mono ?_;rintro e w9 ⟨rfl,hi,hb,hk⟩;have gJ:=ah.mk (n9.out.call hi hb hk);obtain ⟨A9,c9,e9⟩:=Kd.fI gJ.out.hr;subst e9;have Va:=gJ.out.fb 0;have Vb:=gJ.out.fb 1;have Vc:=gJ.out.fb 2;have Vd:=gJ.out.fb 3;have Ve:=gJ.out.fb 4;have Vf:w9.cell? ⟨w3.heap.size,0,none⟩=some (Value.bool false):=(af gJ.out.hb 0).trans rfl;have Vg:w9.cell? ⟨w3.heap.size,1,none⟩=some (Value.slice A9 l4.length c9):=(af gJ.out.hb 1).trans rfl;have Vh:w9.cell? ⟨w3.heap.size,2,none⟩=some (Value.string ⟨#[]⟩):=(af gJ.out.hb 2).trans rfl;have Vi:w9.cell? ⟨w3.heap.size,3,none⟩=some (Value.string ⟨#[]⟩):=(af gJ.out.hb 3).trans rfl;have Vj:w9.cell? ⟨w3.heap.size,4,none⟩=some (Value.bool false):=(af gJ.out.hb 4).trans rfl;have Dl:=aa gJ.out.hc 0;have Dm:=aa gJ.out.hc 1;have Dn:=aa gJ.out.hc 2;have Dp:=aa gJ.out.hc 3;have Dq:=aa gJ.out.hc 4;have Dr:w9.cell? ⟨w.heap.size + 1,0,none⟩=some (Value.bool false):=(af gJ.out.hc 0).trans rfl;have Ds:w9.cell? ⟨w.heap.size + 1,1,none⟩=some (Value.slice none 0 0):=(af gJ.out.hc 1).trans rfl;have Dt:w9.cell? ⟨w.heap.size + 1,2,none⟩=some (Value.string ⟨#[]⟩):=(af gJ.out.hc 2).trans rfl;have Du:w9.cell? ⟨w.heap.size + 1,3,none⟩=some (Value.string ⟨#[]⟩):=(af gJ.out.hc 3).trans rfl;have Dv:w9.cell? ⟨w.heap.size + 1,4,none⟩=some (Value.bool false):=(af gJ.out.hc 4).trans rfl;have hnb:w.heap.size + 1≠w3.heap.size:=Nat.ne_of_lt gJ.out.gb;have Vk:w3.heap.size≠w.heap.size + 1:=(Nat.ne_of_lt gJ.out.gb).symm;clear hi hb hk))
       have H8:=gJ.out.box (.string m1) (.string m2) (.bool m3) rfl
       have H9:=qc (.bool false) (.slice A9 l4.length c9) (.string m1) (.string m2) (.bool m3) H8.2.1 H8.2.2.1 H8.2.2.2.1 gJ.out.sz (Nat.le_succ _) H8.2.2.2.2.2 rfl
       refine bodyPost_ret (cU rfl _ _ (w.heap.size + 1) 32 #[.bool false,.slice A9 l4.length c9,.string m1,.string m2,.bool m3] (0,0) _ rfl H9.1 Tryz.underlying32 rfl av) rfl ?_
       exact ⟨_,rfl,H9.2.2.2.2 _ _ H8.2.2.2.2.1,H9.2.1,H9.2.2.1,H9.2.2.2.1⟩
   |true=>
    have HA:=ah.mk (show pz s p=true by unfold pz;rw [HX.out,hq,h62,decide_eq_true hr];rfl)
    go_region_held3 (fun w'=>w'.cell? ⟨w.heap.size,0,none⟩=some (.pointer (some ⟨g,0,none⟩))∧w'.cell? ⟨g,0,none⟩=some (.string s)∧w'.cell? ⟨g,1,none⟩=some (.int .i64 p)∧ah (oO w0 w w' g s p)) (first|exact ⟨hca,hc0,hc1,ah.mk (HF.out.below (bn (Below.refl _ _)))⟩|(refine ⟨?_,?_,?_,?_⟩<;>assumption))
     (first|(go_at_call 81;obtain ⟨_,_,_,hF⟩:=‹_∧_∧_∧ah (oO w0 w _ g s p)›;refine (HC.out _).mono ?_;rintro e w3 ⟨rfl,hb⟩;have hF3:=oO.below hF.out hb;have zP:=ah.mk hF3;clear hF hF3;have air:w3.cell? ⟨w.heap.size,0,none⟩=some (.pointer (some ⟨g,0,none⟩)):=(af zP.out.ha 0).trans rfl;have ais:w3.cell? ⟨g,0,none⟩=some (.string s):=(af zP.out.st.1 0).trans rfl;have ait:w3.cell? ⟨g,1,none⟩=some (.int .i64 p):=(af zP.out.st.1 1).trans rfl;clear hb))
    have H2:=ah.mk ((if_pos HA.out).symm.trans HH.out)
    have h:=H2.out
    simp only [Option.some.injEq,Prod.mk.injEq] at h
    obtain ⟨rfl,rfl,rfl,rfl,rfl,rfl,rfl,rfl⟩:=h
    clear H2 HH
    have hk1:w3.frozen? ⟨g,1,none⟩=false:=aa zP.out.st.1 1
    have Dl:=aa zP.out.hc 0
    have Dm:=aa zP.out.hc 1
    have Dn:=aa zP.out.hc 2
    have Dp:=aa zP.out.hc 3
    have Dq:=aa zP.out.hc 4
    have Dr:w3.cell? ⟨w.heap.size + 1,0,none⟩=some (Value.bool false):=(af zP.out.hc 0).trans rfl
    have Ds:w3.cell? ⟨w.heap.size + 1,1,none⟩=some (Value.slice none 0 0):=(af zP.out.hc 1).trans rfl
    have Dt:w3.cell? ⟨w.heap.size + 1,2,none⟩=some (Value.string ⟨#[]⟩):=(af zP.out.hc 2).trans rfl
    have Du:w3.cell? ⟨w.heap.size + 1,3,none⟩=some (Value.string ⟨#[]⟩):=(af zP.out.hc 3).trans rfl
    have Dv:w3.cell? ⟨w.heap.size + 1,4,none⟩=some (Value.bool false):=(af zP.out.hc 4).trans rfl
    have hng:g≠w.heap.size + 1:=ay.pU zP.out.st zP.out.hc bG
    have alW:=hng.symm
    go_wp2
    have H0:=zP.out.set (p + 10)
    have H9:=qc (.bool false) (.slice none 0 0) (.string kO) (.string ⟨#[]⟩) (.bool false) H0.st H0.bl H0.kp H0.sz (Nat.le_succ _) H0.hc rfl
    refine bodyPost_ret (cU rfl _ _ (w.heap.size + 1) 32 #[.bool false,.slice none 0 0,.string kO,.string ⟨#[]⟩,.bool false] (0,0) _ rfl H9.1 Tryz.underlying32 rfl av) rfl ?_
    exact ⟨_,rfl,Kd.eX _ _ _ _ _,H9.2.1,H9.2.2.1,H9.2.2.2.1⟩
end Go.Proofs.YtokpnfljjjjikaaGreatDoor.nK
