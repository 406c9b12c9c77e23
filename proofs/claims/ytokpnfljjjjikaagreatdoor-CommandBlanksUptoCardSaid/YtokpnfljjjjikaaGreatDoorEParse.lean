import Derived.Test.YtokpnfljjjjikaaGreatDoorEPathed
namespace Go.Proofs.YtokpnfljjjjikaaGreatDoor.nK
open Go.RowKit Go.Proofs.aj.bQ Go.Proofs.aj.fR Go.Proofs.aj.cM
set_option linter.unusedSimpArgs false
abbrev Bi:=Int×ByteArray×Bool×List ByteArray×ByteArray×ByteArray×Bool×List gw×Int
def ak.z (e:Int):Option Bi:=some (0,⟨#[]⟩,false,[],⟨#[]⟩,⟨#[]⟩,false,[],e)
def ak.w (v:Int) (a:ByteArray):Option Bi:=some (v,a,false,[],⟨#[]⟩,⟨#[]⟩,false,[],0)
def ak.p (v:Int) (p:Bool×Bool×List ByteArray×ByteArray×ByteArray×Bool×List gw):Option Bi:=some (v,⟨#[]⟩,p.2.1,p.2.2.1,p.2.2.2.1,p.2.2.2.2.1,p.2.2.2.2.2.1,p.2.2.2.2.2.2,0)
def ak.Gh (k:Nat) (rest:ByteArray):Option Bi:=(gi.f rest).bind fun a=>(eD.f k rest).bind fun d=>if d=true then ak.w 1 a else ak.z 161
def ak.Ff (k:Nat) (rest:ByteArray):Option Bi:=(gi.f rest).bind fun a=>(eD.f k rest).bind fun d=>if d=true then ak.w 2 a else (fO.f k rest).bind fun l=>if l=true then ak.w 2 a else ak.z 161
def ak.Fg (k:Nat) (rest:ByteArray):Option Bi:=(dU.f k rest ⟨#[70,82,79,77,58]⟩).bind fun p=>if p.1=true then (if p.2.1=true then ak.p 3 p else if p.2.2.2.2.1.toList.isEmpty=true then ak.z 161 else ak.p 3 p) else ak.z 161
def ak.Fh (k:Nat) (rest:ByteArray):Option Bi:=(dU.f k rest ⟨#[84,79,58]⟩).bind fun p=>if p.1=true then (if p.2.1=true then ak.z 161 else ak.p 4 p) else ak.z 161
def ak.free (v:Int) (rest:ByteArray):Option Bi:=(fP.f rest).bind fun b=>if b=true then ak.w v rest else ak.z 161
def ak.v (k:Nat) (v:Int) (rest:ByteArray) (more:Bool):Option Bi:=
 if v=0 then ak.z 160 else if v=1 then ak.Gh k rest else if v=2 then ak.Ff k rest else if v=3 then ak.Fg k rest else if v=4 then ak.Fh k rest
 else if v=7∨v=8 then ak.free v rest else if v=9∨v=10 then (if more=true then ak.free v rest else ak.w v ⟨#[]⟩)
 else (if more=true then ak.z 161 else ak.w v ⟨#[]⟩)
def ak.f (k:Nat) (s:ByteArray):Option Bi:=
 if (510:Int) < (s.size:Int) then ak.z 3 else
 (strings_Cut.f s ⟨#[32]⟩).bind fun t=>(cu.f t.1).bind fun g=>(bV.f g).bind fun v=>ak.v k v t.2.1 t.2.2
theorem ak.aa0:∀ k v r m,cH (ak.v k v r m) (ak.v (k + 1) v r m):=by
 intro k v r m
 unfold ak.v ak.Gh ak.Ff ak.Fg ak.Fh
 repeat' first
  |with_reducible exact eD.mono _ _
  |with_reducible exact fO.mono _ _
  |with_reducible exact dU.mono _ _ _
  |with_reducible exact cH.refl _
  |with_reducible refine cH.ite ?_ ?_
  |with_reducible refine cH.bind ?_ (fun _ =>?_)
theorem ak.mono:∀ s k,cH (ak.f k s) (ak.f (k + 1) s):=by
 intro s k
 unfold ak.f
 exact cH.ite (cH.refl _) (cH.bind (cH.refl _) fun _ =>cH.bind (cH.refl _) fun _ =>cH.bind (cH.refl _) fun _ =>ak.aa0 _ _ _ _)
theorem GR (s:ByteArray):∀ (l:List ByteArray) (i:Nat),SL s l i=0∨(0 < SL s l i∧(i:Int)≤SL s l i∧SL s l i < (i:Int) + (l.length:Int))
 | [],_ => .inl rfl
 |x :: l,i=>by
  unfold SL
  split
  ·right;simp;omega
  ·rcases GR s l (i + 1) with h|h
   ·exact .inl h
   ·right;simp;omega
theorem Fi {s:ByteArray} {v:Int} (h:bV.f s=some v):v=0∨v=1∨v=2∨v=3∨v=4∨v=5∨v=6∨v=7∨v=8∨v=9∨v=10∨v=11:=by
 have h1:=Option.some.inj h
 have h2:=GR s kF 0
 rw [h1,show kF.length=12 from rfl] at h2
 omega
structure PS (w W:World) (gc:Nat) (v:Int) (a:ByteArray) (n:Bool) (vr:Value) (l d:ByteArray) (t:Bool) (vp:Value):Prop where
 bl:Below w.heap.size w W
 hr:W.heap[w.heap.size]? =some (.cells #[.int .u8 0,.string ⟨#[]⟩,.bool false,.slice none 0 0,.string ⟨#[]⟩,.string ⟨#[]⟩,.bool false,.slice none 0 0] 35 (0,0))
 hc:W.heap[gc]? =some (.cells (Bh v a n vr l d t vp) 35 (0,0))
 ge:w.heap.size < gc
section
variable {w W W1:World} {gc:Nat} {v:Int} {a:ByteArray} {n:Bool} {vr:Value} {l d:ByteArray} {t:Bool} {vp:Value}
theorem PS.init (h1:Below w.heap.size w W) (h2:W.heap[w.heap.size]? =some (.cells #[.int .u8 0,.string ⟨#[]⟩,.bool false,.slice none 0 0,.string ⟨#[]⟩,.string ⟨#[]⟩,.bool false,.slice none 0 0] 35 (0,0))) (v:Int):PS w (W.alloc (.cells #[.int .u8 v,.string ⟨#[]⟩,.bool false,.slice none 0 0,.string ⟨#[]⟩,.string ⟨#[]⟩,.bool false,.slice none 0 0] 35)) W.heap.size v ⟨#[]⟩ false (.slice none 0 0) ⟨#[]⟩ ⟨#[]⟩ false (.slice none 0 0):=
 ⟨aG h1 _,bB h2 _,heap_alloc_new W _,kf h2⟩
theorem PS.below (H:PS w W gc v a n vr l d t vp) (hb:Below W.heap.size W W1):PS w W1 gc v a n vr l d t vp:=
 ⟨bR H.bl H.bl.size hb,(hb.block _ (kf H.hr)).trans H.hr,(hb.block _ (kf H.hc)).trans H.hc,H.ge⟩
theorem PS.arg (H:PS w W gc v a n vr l d t vp) (a1:ByteArray):PS w (W.setCell ⟨gc,1,none⟩ (.string a1)) gc v a1 n vr l d t vp:=
 ⟨bh H.bl (Nat.le_of_lt H.ge),iM H.hr (Nat.ne_of_lt H.ge) _,cZ (cs:=#[.int .u8 v,.string a,.bool n,vr,.string l,.string d,.bool t,vp]) H.hc 1 _ rfl,H.ge⟩
theorem PS.jf (H:PS w W gc v a n vr l d t vp):W.cell? ⟨w.heap.size,0,none⟩=some (.int .u8 0)∧W.cell? ⟨w.heap.size,1,none⟩=some (.string ⟨#[]⟩)∧W.cell? ⟨w.heap.size,2,none⟩=some (.bool false)∧W.cell? ⟨w.heap.size,3,none⟩=some (.slice none 0 0)∧W.cell? ⟨w.heap.size,4,none⟩=some (.string ⟨#[]⟩)∧W.cell? ⟨w.heap.size,5,none⟩=some (.string ⟨#[]⟩)∧W.cell? ⟨w.heap.size,6,none⟩=some (.bool false)∧W.cell? ⟨w.heap.size,7,none⟩=some (.slice none 0 0)∧W.frozen? ⟨w.heap.size,0,none⟩=false∧W.frozen? ⟨w.heap.size,1,none⟩=false∧W.frozen? ⟨w.heap.size,2,none⟩=false∧W.frozen? ⟨w.heap.size,3,none⟩=false∧W.frozen? ⟨w.heap.size,4,none⟩=false∧W.frozen? ⟨w.heap.size,5,none⟩=false∧W.frozen? ⟨w.heap.size,6,none⟩=false∧W.frozen? ⟨w.heap.size,7,none⟩=false:=
 ⟨(af H.hr 0).trans rfl,(af H.hr 1).trans rfl,(af H.hr 2).trans rfl,(af H.hr 3).trans rfl,(af H.hr 4).trans rfl,(af H.hr 5).trans rfl,(af H.hr 6).trans rfl,(af H.hr 7).trans rfl,aa H.hr 0,aa H.hr 1,aa H.hr 2,aa H.hr 3,aa H.hr 4,aa H.hr 5,aa H.hr 6,aa H.hr 7⟩
theorem PS.facts (H:PS w W gc v a n vr l d t vp):W.cell? ⟨w.heap.size,0,none⟩=some (.int .u8 0)∧W.cell? ⟨w.heap.size,1,none⟩=some (.string ⟨#[]⟩)∧W.cell? ⟨w.heap.size,2,none⟩=some (.bool false)∧W.cell? ⟨w.heap.size,3,none⟩=some (.slice none 0 0)∧W.cell? ⟨w.heap.size,4,none⟩=some (.string ⟨#[]⟩)∧W.cell? ⟨w.heap.size,5,none⟩=some (.string ⟨#[]⟩)∧W.cell? ⟨w.heap.size,6,none⟩=some (.bool false)∧W.cell? ⟨w.heap.size,7,none⟩=some (.slice none 0 0)∧W.frozen? ⟨w.heap.size,0,none⟩=false∧W.frozen? ⟨w.heap.size,1,none⟩=false∧W.frozen? ⟨w.heap.size,2,none⟩=false∧W.frozen? ⟨w.heap.size,3,none⟩=false∧W.frozen? ⟨w.heap.size,4,none⟩=false∧W.frozen? ⟨w.heap.size,5,none⟩=false∧W.frozen? ⟨w.heap.size,6,none⟩=false∧W.frozen? ⟨w.heap.size,7,none⟩=false∧W.cell? ⟨gc,0,none⟩=some (.int .u8 v)∧W.cell? ⟨gc,1,none⟩=some (.string a)∧W.cell? ⟨gc,2,none⟩=some (.bool n)∧W.cell? ⟨gc,3,none⟩=some (vr)∧W.cell? ⟨gc,4,none⟩=some (.string l)∧W.cell? ⟨gc,5,none⟩=some (.string d)∧W.cell? ⟨gc,6,none⟩=some (.bool t)∧W.cell? ⟨gc,7,none⟩=some (vp)∧W.frozen? ⟨gc,1,none⟩=false:=
 ⟨(af H.hr 0).trans rfl,(af H.hr 1).trans rfl,(af H.hr 2).trans rfl,(af H.hr 3).trans rfl,(af H.hr 4).trans rfl,(af H.hr 5).trans rfl,(af H.hr 6).trans rfl,(af H.hr 7).trans rfl,aa H.hr 0,aa H.hr 1,aa H.hr 2,aa H.hr 3,aa H.hr 4,aa H.hr 5,aa H.hr 6,aa H.hr 7,(af H.hc 0).trans rfl,(af H.hc 1).trans rfl,(af H.hc 2).trans rfl,(af H.hc 3).trans rfl,(af H.hc 4).trans rfl,(af H.hc 5).trans rfl,(af H.hc 6).trans rfl,(af H.hc 7).trans rfl,aa H.hc 1⟩
theorem PS.done (H:PS w W gc v a n vr l d t vp) (x0 x1 x2 x3 x4 x5 x6 x7:Value) (hW:W1=(((((((W.setCell ⟨w.heap.size,0,none⟩ x0).setCell ⟨w.heap.size,1,none⟩ x1).setCell ⟨w.heap.size,2,none⟩ x2).setCell ⟨w.heap.size,3,none⟩ x3).setCell ⟨w.heap.size,4,none⟩ x4).setCell ⟨w.heap.size,5,none⟩ x5).setCell ⟨w.heap.size,6,none⟩ x6).setCell ⟨w.heap.size,7,none⟩ x7):
 W1.heap[w.heap.size]? =some (.cells #[x0,x1,x2,x3,x4,x5,x6,x7] 35 (0,0))∧Below w.heap.size w W1∧
 (∀ (b:Nat) (v:Value) (xs:List ByteArray),Kd.R Kd.string 9 W b (fun _ =>True) v xs→Kd.R Kd.string 9 W1 b (fun _ =>True) v xs)∧
 (∀ (b:Nat) (v:Value) (xs:List gw),Kd.R zN 58 W b (fun _ =>True) v xs→Kd.R zN 58 W1 b (fun _ =>True) v xs):=by
 subst hW
 have hg:=Nat.le_refl w.heap.size
 refine ⟨?_,?_,?_,?_⟩
 ·refine cZ (cs:=#[x0,x1,x2,x3,x4,x5,x6,.slice none 0 0]) ?_ 7 _ rfl
  refine cZ (cs:=#[x0,x1,x2,x3,x4,x5,.bool false,.slice none 0 0]) ?_ 6 _ rfl
  refine cZ (cs:=#[x0,x1,x2,x3,x4,.string ⟨#[]⟩,.bool false,.slice none 0 0]) ?_ 5 _ rfl
  refine cZ (cs:=#[x0,x1,x2,x3,.string ⟨#[]⟩,.string ⟨#[]⟩,.bool false,.slice none 0 0]) ?_ 4 _ rfl
  refine cZ (cs:=#[x0,x1,x2,.slice none 0 0,.string ⟨#[]⟩,.string ⟨#[]⟩,.bool false,.slice none 0 0]) ?_ 3 _ rfl
  refine cZ (cs:=#[x0,x1,.bool false,.slice none 0 0,.string ⟨#[]⟩,.string ⟨#[]⟩,.bool false,.slice none 0 0]) ?_ 2 _ rfl
  refine cZ (cs:=#[x0,.string ⟨#[]⟩,.bool false,.slice none 0 0,.string ⟨#[]⟩,.string ⟨#[]⟩,.bool false,.slice none 0 0]) ?_ 1 _ rfl
  exact cZ H.hr 0 _ rfl
 ·exact bh (bh (bh (bh (bh (bh (bh (bh H.bl hg) hg) hg) hg) hg) hg) hg) hg
 ·intro b v xs h
  have h1:=Kd.nk h H.hr bG
  exact Kd.gL (Kd.eu (Kd.eu (Kd.eu (Kd.eu (Kd.eu (Kd.eu (Kd.eu (Kd.eu h1 (fun _ h=>h.2) _) (fun _ h=>h.2) _) (fun _ h=>h.2) _) (fun _ h=>h.2) _) (fun _ h=>h.2) _) (fun _ h=>h.2) _) (fun _ h=>h.2) _) (fun _ h=>h.2) _) (fun _ _ =>trivial)
 ·intro b v xs h
  have h1:=Kd.nk h H.hr bG
  exact Kd.gL (Kd.eu (Kd.eu (Kd.eu (Kd.eu (Kd.eu (Kd.eu (Kd.eu (Kd.eu h1 (fun _ h=>h.2) _) (fun _ h=>h.2) _) (fun _ h=>h.2) _) (fun _ h=>h.2) _) (fun _ h=>h.2) _) (fun _ h=>h.2) _) (fun _ h=>h.2) _) (fun _ h=>h.2) _) (fun _ _ =>trivial)
end
theorem cC {w w2:World} {n:Nat} (hb:Below ((w.alloc (.cells #[.int .u8 0,.string ⟨#[]⟩,.bool false,.slice none 0 0,.string ⟨#[]⟩,.string ⟨#[]⟩,.bool false,.slice none 0 0] 35)).drewN n).heap.size ((w.alloc (.cells #[.int .u8 0,.string ⟨#[]⟩,.bool false,.slice none 0 0,.string ⟨#[]⟩,.string ⟨#[]⟩,.bool false,.slice none 0 0] 35)).drewN n) w2):Below w.heap.size w w2∧w2.heap[w.heap.size]? =some (.cells #[.int .u8 0,.string ⟨#[]⟩,.bool false,.slice none 0 0,.string ⟨#[]⟩,.string ⟨#[]⟩,.bool false,.slice none 0 0] 35):=
 have h1:=aM (aG (Below.refl w.heap.size w) (.cells #[.int .u8 0,.string ⟨#[]⟩,.bool false,.slice none 0 0,.string ⟨#[]⟩,.string ⟨#[]⟩,.bool false,.slice none 0 0] 35)) n
 ⟨bR h1 h1.size hb,aX (bF (heap_alloc_new w (.cells #[.int .u8 0,.string ⟨#[]⟩,.bool false,.slice none 0 0,.string ⟨#[]⟩,.string ⟨#[]⟩,.bool false,.slice none 0 0] 35)) n) hb⟩
set_option maxRecDepth 100000 in
set_option maxHeartbeats 8000000 in
theorem ak.calls (k:Nat) (a0:ByteArray) (r1:Int) (r2:ByteArray) (r3:Bool) (r4:List ByteArray) (r5 r6:ByteArray) (r7:Bool) (r8:List gw) (r9:Int) (w:World) (hG:aQ w) (h:ak.f k a0=some (r1,r2,r3,r4,r5,r6,r7,r8,r9)):
 Calls Tryz.prog 35 #[.string a0] w fun e w'=>∃ Rz v2_:Value,e= .returned (.tuple #[.agg #[.int .u8 r1,.string r2,.bool r3,Rz,.string r5,.string r6,.bool r7,v2_],.int .i64 r9])∧Kd.R Kd.string 9 w' w.heap.size (fun _ =>True) Rz r4∧Kd.R zN 58 w' w.heap.size (fun _ =>True) v2_ r8∧Below w.heap.size w w':=by
 unfold ak.f at h
 have HG:=Lib.hid hG
 clear hG
 have hu:=Tryz.underlying35
 by_cases hlen:(510:Int) < (a0.size:Int)
 ·rw [if_pos hlen] at h
  simp only [ak.z,Option.some.injEq,Prod.mk.injEq] at h
  obtain ⟨rfl,rfl,rfl,rfl,rfl,rfl,rfl,rfl,rfl⟩:=h
  have e1:=decide_eq_true hlen
  go_enter Tryz.func35,Tryz.ntmps35
  go_wp2
  refine bodyPost_ret (cU rfl _ _ w.heap.size 35 #[.int .u8 0,.string ⟨#[]⟩,.bool false,.slice none 0 0,.string ⟨#[]⟩,.string ⟨#[]⟩,.bool false,.slice none 0 0] (0,0) _ rfl (heap_alloc_new w _) Tryz.underlying35 rfl av) rfl ?_
  exact ⟨_,_,rfl,Kd.eX _ _ _ _ _,Kd.eX _ _ _ _ _,aG (Below.refl _ _) _⟩
 rw [if_neg hlen] at h
 have e1:=decide_eq_false hlen
 clear hlen
 obtain ⟨⟨t1,t2,t3⟩,A1,h⟩:=Option.bind_eq_some_iff.mp h
 obtain ⟨g,A2,h⟩:=Option.bind_eq_some_iff.mp h
 obtain ⟨v,A3,h⟩:=Option.bind_eq_some_iff.mp h
 dsimp only at A2 h
 have pS:=Lib.hid A1
 have qu:=Lib.hid A2
 have uu:=Lib.hid A3
 clear A1 A2
 have hvr:=Fi A3
 clear A3
 rcases hvr with rfl|rfl|rfl|rfl|rfl|rfl|rfl|rfl|rfl|rfl|rfl|rfl
 ·replace h:ak.z 160=_ :=(show ak.v k 0 t2 t3=ak.z 160 from by unfold ak.v;simp).symm.trans h
  simp only [ak.z,ak.w,ak.p,Option.some.injEq,Prod.mk.injEq] at h
  obtain ⟨rfl,rfl,rfl,rfl,rfl,rfl,rfl,rfl,rfl⟩:=h
  go_enter Tryz.func35,Tryz.ntmps35
  go_wp2_with (first
   |(go_at_call 91;refine (strings_Cut.calls a0 ⟨#[32]⟩ t1 t2 t3 _ (HG.out.below (aG (Below.refl _ _) _)) pS.out).mono ?_;rintro e w1 ⟨rfl,n,rfl⟩)
   |(go_at_call 93;refine (cu.calls t1 g _ qu.out).mono ?_;rintro e w2 ⟨rfl,hb⟩;have iE:=Lib.hid (cC hb).1;have pQ:=Lib.hid (cC hb).2;clear hb)
   |(go_at_call 92;refine (bV.calls g 0 _ (HG.out.below iE.out) uu.out).mono ?_;rintro e w3 ⟨rfl,hb⟩;have iz:=Lib.hid (PS.init (bR iE.out iE.out.size hb) (aX pQ.out hb) 0);obtain ⟨jt,ju,jv,jw,jx,jy,jz,jA,jB,jC,jD,jE,jF,jG,jH,jI⟩:=iz.out.jf;clear hb))
  obtain ⟨q1,q2,q3,q4⟩:=PS.done (W1:=_) iz.out (.int .u8 0) (.string ⟨#[]⟩) (.bool false) (.slice none 0 0) (.string ⟨#[]⟩) (.string ⟨#[]⟩) (.bool false) (.slice none 0 0) rfl
  refine bodyPost_ret (cU rfl _ _ w.heap.size 35 #[(.int .u8 0),(.string ⟨#[]⟩),(.bool false),(.slice none 0 0),(.string ⟨#[]⟩),(.string ⟨#[]⟩),(.bool false),(.slice none 0 0)] (0,0) _ rfl q1 Tryz.underlying35 rfl av) rfl ?_
  exact ⟨_,_,rfl,Kd.eX _ _ _ _ _,Kd.eX _ _ _ _ _,q2⟩
 ·replace h:ak.Gh k t2=_ :=(show ak.v k 1 t2 t3=ak.Gh k t2 from by unfold ak.v;simp).symm.trans h
  unfold ak.Gh at h
  obtain ⟨a,B1,h⟩:=Option.bind_eq_some_iff.mp h
  try dsimp only at h
  have xe:=Lib.hid B1
  clear B1
  obtain ⟨d,B2,h⟩:=Option.bind_eq_some_iff.mp h
  try dsimp only at h
  have HB6:=Lib.hid B2
  clear B2
  cases d with
  |true=>
   simp only [if_true] at h
   simp only [ak.z,ak.w,ak.p,Option.some.injEq,Prod.mk.injEq] at h
   obtain ⟨rfl,rfl,rfl,rfl,rfl,rfl,rfl,rfl,rfl⟩:=h
   go_enter Tryz.func35,Tryz.ntmps35
   go_wp2_with (first
    |(go_at_call 91;refine (strings_Cut.calls a0 ⟨#[32]⟩ t1 t2 t3 _ (HG.out.below (aG (Below.refl _ _) _)) pS.out).mono ?_;rintro e w1 ⟨rfl,n,rfl⟩)
    |(go_at_call 93;refine (cu.calls t1 g _ qu.out).mono ?_;rintro e w2 ⟨rfl,hb⟩;have iE:=Lib.hid (cC hb).1;have pQ:=Lib.hid (cC hb).2;clear hb)
    |(go_at_call 92;refine (bV.calls g 1 _ (HG.out.below iE.out) uu.out).mono ?_;rintro e w3 ⟨rfl,hb⟩;have iz:=Lib.hid (PS.init (bR iE.out iE.out.size hb) (aX pQ.out hb) 1);obtain ⟨jt,ju,jv,jw,jx,jy,jz,jA,jB,jC,jD,jE,jF,jG,jH,jI⟩:=iz.out.jf;clear hb)
    |(go_at_call 94;refine (gi.calls t2 a _ xe.out).mono ?_;rintro e w5 ⟨rfl,hb⟩;have nQ:=Lib.hid ((iz.out).below hb);obtain ⟨lR,lS,lT,lU,lV,lW,lX,lY,lZ,l5,l6,l7,l8,l9,mg,mh,mj,mo,mq,mz,mA,mB,mC,mD,mE⟩:=nQ.out.facts;clear hb)
    |(go_at_call 25;refine (eD.calls k t2 true _ (HG.out.below (nQ.out.arg a).bl) HB6.out).mono ?_;rintro e w6 ⟨rfl,hb⟩;have NA:=Lib.hid ((nQ.out.arg a).below hb);obtain ⟨Kk,Kl,Km,Kn,Ko,Kp,Kq,Kr,Ks,Kt,Ku,Kv,Kw,Ky,Kz,KA,KB,KD,KE,KF,KG,KH,KJ,KL,KM⟩:=NA.out.facts;clear hb))
   obtain ⟨q1,q2,q3,q4⟩:=PS.done (W1:=_) NA.out (.int .u8 1) (.string a) (.bool false) (.slice none 0 0) (.string ⟨#[]⟩) (.string ⟨#[]⟩) (.bool false) (.slice none 0 0) rfl
   refine bodyPost_ret (cU rfl _ _ w.heap.size 35 #[(.int .u8 1),(.string a),(.bool false),(.slice none 0 0),(.string ⟨#[]⟩),(.string ⟨#[]⟩),(.bool false),(.slice none 0 0)] (0,0) _ rfl q1 Tryz.underlying35 rfl av) rfl ?_
   exact ⟨_,_,rfl,Kd.eX _ _ _ _ _,Kd.eX _ _ _ _ _,q2⟩
  |false=>
   simp only [Bool.false_eq_true,if_false] at h
   simp only [ak.z,ak.w,ak.p,Option.some.injEq,Prod.mk.injEq] at h
   obtain ⟨rfl,rfl,rfl,rfl,rfl,rfl,rfl,rfl,rfl⟩:=h
   go_enter Tryz.func35,Tryz.ntmps35
   go_wp2_with (first
    |(go_at_call 91;refine (strings_Cut.calls a0 ⟨#[32]⟩ t1 t2 t3 _ (HG.out.below (aG (Below.refl _ _) _)) pS.out).mono ?_;rintro e w1 ⟨rfl,n,rfl⟩)
    |(go_at_call 93;refine (cu.calls t1 g _ qu.out).mono ?_;rintro e w2 ⟨rfl,hb⟩;have iE:=Lib.hid (cC hb).1;have pQ:=Lib.hid (cC hb).2;clear hb)
    |(go_at_call 92;refine (bV.calls g 1 _ (HG.out.below iE.out) uu.out).mono ?_;rintro e w3 ⟨rfl,hb⟩;have iz:=Lib.hid (PS.init (bR iE.out iE.out.size hb) (aX pQ.out hb) 1);obtain ⟨jt,ju,jv,jw,jx,jy,jz,jA,jB,jC,jD,jE,jF,jG,jH,jI⟩:=iz.out.jf;clear hb)
    |(go_at_call 94;refine (gi.calls t2 a _ xe.out).mono ?_;rintro e w5 ⟨rfl,hb⟩;have nQ:=Lib.hid ((iz.out).below hb);obtain ⟨lR,lS,lT,lU,lV,lW,lX,lY,lZ,l5,l6,l7,l8,l9,mg,mh,mj,mo,mq,mz,mA,mB,mC,mD,mE⟩:=nQ.out.facts;clear hb)
    |(go_at_call 25;refine (eD.calls k t2 false _ (HG.out.below (nQ.out.arg a).bl) HB6.out).mono ?_;rintro e w6 ⟨rfl,hb⟩;have NA:=Lib.hid ((nQ.out.arg a).below hb);obtain ⟨Kk,Kl,Km,Kn,Ko,Kp,Kq,Kr,Ks,Kt,Ku,Kv,Kw,Ky,Kz,KA,KB,KD,KE,KF,KG,KH,KJ,KL,KM⟩:=NA.out.facts;clear hb))
   obtain ⟨q1,q2,q3,q4⟩:=PS.done (W1:=_) NA.out (.int .u8 0) (.string ⟨#[]⟩) (.bool false) (.slice none 0 0) (.string ⟨#[]⟩) (.string ⟨#[]⟩) (.bool false) (.slice none 0 0) rfl
   refine bodyPost_ret (cU rfl _ _ w.heap.size 35 #[(.int .u8 0),(.string ⟨#[]⟩),(.bool false),(.slice none 0 0),(.string ⟨#[]⟩),(.string ⟨#[]⟩),(.bool false),(.slice none 0 0)] (0,0) _ rfl q1 Tryz.underlying35 rfl av) rfl ?_
   exact ⟨_,_,rfl,Kd.eX _ _ _ _ _,Kd.eX _ _ _ _ _,q2⟩
 ·replace h:ak.Ff k t2=_ :=(show ak.v k 2 t2 t3=ak.Ff k t2 from by unfold ak.v;simp).symm.trans h
  unfold ak.Ff at h
  obtain ⟨a,B1,h⟩:=Option.bind_eq_some_iff.mp h
  try dsimp only at h
  have xe:=Lib.hid B1
  clear B1
  obtain ⟨d,B2,h⟩:=Option.bind_eq_some_iff.mp h
  try dsimp only at h
  have HB6:=Lib.hid B2
  clear B2
  cases d with
  |true=>
   simp only [if_true] at h
   simp only [ak.z,ak.w,ak.p,Option.some.injEq,Prod.mk.injEq] at h
   obtain ⟨rfl,rfl,rfl,rfl,rfl,rfl,rfl,rfl,rfl⟩:=h
   go_enter Tryz.func35,Tryz.ntmps35
   go_wp2_with (first
    |(go_at_call 91;refine (strings_Cut.calls a0 ⟨#[32]⟩ t1 t2 t3 _ (HG.out.below (aG (Below.refl _ _) _)) pS.out).mono ?_;rintro e w1 ⟨rfl,n,rfl⟩)
    |(go_at_call 93;refine (cu.calls t1 g _ qu.out).mono ?_;rintro e w2 ⟨rfl,hb⟩;have iE:=Lib.hid (cC hb).1;have pQ:=Lib.hid (cC hb).2;clear hb)
    |(go_at_call 92;refine (bV.calls g 2 _ (HG.out.below iE.out) uu.out).mono ?_;rintro e w3 ⟨rfl,hb⟩;have iz:=Lib.hid (PS.init (bR iE.out iE.out.size hb) (aX pQ.out hb) 2);obtain ⟨jt,ju,jv,jw,jx,jy,jz,jA,jB,jC,jD,jE,jF,jG,jH,jI⟩:=iz.out.jf;clear hb)
    |(go_at_call 94;refine (gi.calls t2 a _ xe.out).mono ?_;rintro e w5 ⟨rfl,hb⟩;have nQ:=Lib.hid ((iz.out).below hb);obtain ⟨lR,lS,lT,lU,lV,lW,lX,lY,lZ,l5,l6,l7,l8,l9,mg,mh,mj,mo,mq,mz,mA,mB,mC,mD,mE⟩:=nQ.out.facts;clear hb)
    |(go_at_call 25;refine (eD.calls k t2 true _ (HG.out.below (nQ.out.arg a).bl) HB6.out).mono ?_;rintro e w6 ⟨rfl,hb⟩;have NA:=Lib.hid ((nQ.out.arg a).below hb);obtain ⟨Kk,Kl,Km,Kn,Ko,Kp,Kq,Kr,Ks,Kt,Ku,Kv,Kw,Ky,Kz,KA,KB,KD,KE,KF,KG,KH,KJ,KL,KM⟩:=NA.out.facts;clear hb))
   obtain ⟨q1,q2,q3,q4⟩:=PS.done (W1:=_) NA.out (.int .u8 2) (.string a) (.bool false) (.slice none 0 0) (.string ⟨#[]⟩) (.string ⟨#[]⟩) (.bool false) (.slice none 0 0) rfl
   refine bodyPost_ret (cU rfl _ _ w.heap.size 35 #[(.int .u8 2),(.string a),(.bool false),(.slice none 0 0),(.string ⟨#[]⟩),(.string ⟨#[]⟩),(.bool false),(.slice none 0 0)] (0,0) _ rfl q1 Tryz.underlying35 rfl av) rfl ?_
   exact ⟨_,_,rfl,Kd.eX _ _ _ _ _,Kd.eX _ _ _ _ _,q2⟩
  |false=>
   simp only [Bool.false_eq_true,if_false] at h
   obtain ⟨l,B3,h⟩:=Option.bind_eq_some_iff.mp h
   try dsimp only at h
   have HB7:=Lib.hid B3
   clear B3
   cases l with
   |true=>
    simp only [if_true] at h
    simp only [ak.z,ak.w,ak.p,Option.some.injEq,Prod.mk.injEq] at h
    obtain ⟨rfl,rfl,rfl,rfl,rfl,rfl,rfl,rfl,rfl⟩:=h
    go_enter Tryz.func35,Tryz.ntmps35
    go_wp2_with (first
     |(go_at_call 91;refine (strings_Cut.calls a0 ⟨#[32]⟩ t1 t2 t3 _ (HG.out.below (aG (Below.refl _ _) _)) pS.out).mono ?_;rintro e w1 ⟨rfl,n,rfl⟩)
     |(go_at_call 93;refine (cu.calls t1 g _ qu.out).mono ?_;rintro e w2 ⟨rfl,hb⟩;have iE:=Lib.hid (cC hb).1;have pQ:=Lib.hid (cC hb).2;clear hb)
     |(go_at_call 92;refine (bV.calls g 2 _ (HG.out.below iE.out) uu.out).mono ?_;rintro e w3 ⟨rfl,hb⟩;have iz:=Lib.hid (PS.init (bR iE.out iE.out.size hb) (aX pQ.out hb) 2);obtain ⟨jt,ju,jv,jw,jx,jy,jz,jA,jB,jC,jD,jE,jF,jG,jH,jI⟩:=iz.out.jf;clear hb)
     |(go_at_call 94;refine (gi.calls t2 a _ xe.out).mono ?_;rintro e w5 ⟨rfl,hb⟩;have nQ:=Lib.hid ((iz.out).below hb);obtain ⟨lR,lS,lT,lU,lV,lW,lX,lY,lZ,l5,l6,l7,l8,l9,mg,mh,mj,mo,mq,mz,mA,mB,mC,mD,mE⟩:=nQ.out.facts;clear hb)
     |(go_at_call 25;refine (eD.calls k t2 false _ (HG.out.below (nQ.out.arg a).bl) HB6.out).mono ?_;rintro e w6 ⟨rfl,hb⟩;have NA:=Lib.hid ((nQ.out.arg a).below hb);obtain ⟨Kk,Kl,Km,Kn,Ko,Kp,Kq,Kr,Ks,Kt,Ku,Kv,Kw,Ky,Kz,KA,KB,KD,KE,KF,KG,KH,KJ,KL,KM⟩:=NA.out.facts;clear hb)
     |(go_at_call 95;refine (fO.calls k t2 true _ (HG.out.below (NA.out).bl) HB7.out).mono ?_;rintro e w7 ⟨rfl,hb⟩;have HP7:=Lib.hid ((NA.out).below hb);obtain ⟨aa1,aa2,aa3,aa4,aa5,aa6,aa7,aa8,aa9,aba,abb,abc,abd,abe,abf,abg,abh,abj,abk,abl,abm,abn,abo,abp,abq⟩:=HP7.out.facts;clear hb))
    obtain ⟨q1,q2,q3,q4⟩:=PS.done (W1:=_) HP7.out (.int .u8 2) (.string a) (.bool false) (.slice none 0 0) (.string ⟨#[]⟩) (.string ⟨#[]⟩) (.bool false) (.slice none 0 0) rfl
    refine bodyPost_ret (cU rfl _ _ w.heap.size 35 #[(.int .u8 2),(.string a),(.bool false),(.slice none 0 0),(.string ⟨#[]⟩),(.string ⟨#[]⟩),(.bool false),(.slice none 0 0)] (0,0) _ rfl q1 Tryz.underlying35 rfl av) rfl ?_
    exact ⟨_,_,rfl,Kd.eX _ _ _ _ _,Kd.eX _ _ _ _ _,q2⟩
   |false=>
    simp only [Bool.false_eq_true,if_false] at h
    simp only [ak.z,ak.w,ak.p,Option.some.injEq,Prod.mk.injEq] at h
    obtain ⟨rfl,rfl,rfl,rfl,rfl,rfl,rfl,rfl,rfl⟩:=h
    go_enter Tryz.func35,Tryz.ntmps35
    go_wp2_with (first
     |(go_at_call 91;refine (strings_Cut.calls a0 ⟨#[32]⟩ t1 t2 t3 _ (HG.out.below (aG (Below.refl _ _) _)) pS.out).mono ?_;rintro e w1 ⟨rfl,n,rfl⟩)
     |(go_at_call 93;refine (cu.calls t1 g _ qu.out).mono ?_;rintro e w2 ⟨rfl,hb⟩;have iE:=Lib.hid (cC hb).1;have pQ:=Lib.hid (cC hb).2;clear hb)
     |(go_at_call 92;refine (bV.calls g 2 _ (HG.out.below iE.out) uu.out).mono ?_;rintro e w3 ⟨rfl,hb⟩;have iz:=Lib.hid (PS.init (bR iE.out iE.out.size hb) (aX pQ.out hb) 2);obtain ⟨jt,ju,jv,jw,jx,jy,jz,jA,jB,jC,jD,jE,jF,jG,jH,jI⟩:=iz.out.jf;clear hb)
     |(go_at_call 94;refine (gi.calls t2 a _ xe.out).mono ?_;rintro e w5 ⟨rfl,hb⟩;have nQ:=Lib.hid ((iz.out).below hb);obtain ⟨lR,lS,lT,lU,lV,lW,lX,lY,lZ,l5,l6,l7,l8,l9,mg,mh,mj,mo,mq,mz,mA,mB,mC,mD,mE⟩:=nQ.out.facts;clear hb)
     |(go_at_call 25;refine (eD.calls k t2 false _ (HG.out.below (nQ.out.arg a).bl) HB6.out).mono ?_;rintro e w6 ⟨rfl,hb⟩;have NA:=Lib.hid ((nQ.out.arg a).below hb);obtain ⟨Kk,Kl,Km,Kn,Ko,Kp,Kq,Kr,Ks,Kt,Ku,Kv,Kw,Ky,Kz,KA,KB,KD,KE,KF,KG,KH,KJ,KL,KM⟩:=NA.out.facts;clear hb)
     |(go_at_call 95;refine (fO.calls k t2 false _ (HG.out.below (NA.out).bl) HB7.out).mono ?_;rintro e w7 ⟨rfl,hb⟩;have HP7:=Lib.hid ((NA.out).below hb);obtain ⟨aa1,aa2,aa3,aa4,aa5,aa6,aa7,aa8,aa9,aba,abb,abc,abd,abe,abf,abg,abh,abj,abk,abl,abm,abn,abo,abp,abq⟩:=HP7.out.facts;clear hb))
    obtain ⟨q1,q2,q3,q4⟩:=PS.done (W1:=_) HP7.out (.int .u8 0) (.string ⟨#[]⟩) (.bool false) (.slice none 0 0) (.string ⟨#[]⟩) (.string ⟨#[]⟩) (.bool false) (.slice none 0 0) rfl
    refine bodyPost_ret (cU rfl _ _ w.heap.size 35 #[(.int .u8 0),(.string ⟨#[]⟩),(.bool false),(.slice none 0 0),(.string ⟨#[]⟩),(.string ⟨#[]⟩),(.bool false),(.slice none 0 0)] (0,0) _ rfl q1 Tryz.underlying35 rfl av) rfl ?_
    exact ⟨_,_,rfl,Kd.eX _ _ _ _ _,Kd.eX _ _ _ _ _,q2⟩
 ·replace h:ak.Fg k t2=_ :=(show ak.v k 3 t2 t3=ak.Fg k t2 from by unfold ak.v;simp).symm.trans h
  unfold ak.Fg at h
  obtain ⟨⟨p0,p1,p2,p3,p4,p5,p6⟩,B1,h⟩:=Option.bind_eq_some_iff.mp h
  try dsimp only at h
  have xe:=Lib.hid B1
  clear B1
  cases p0 with
  |false=>
   simp only [Bool.false_eq_true,if_false] at h
   simp only [ak.z,ak.w,ak.p,Option.some.injEq,Prod.mk.injEq] at h
   obtain ⟨rfl,rfl,rfl,rfl,rfl,rfl,rfl,rfl,rfl⟩:=h
   go_enter Tryz.func35,Tryz.ntmps35
   go_wp2_with (first
    |(go_at_call 91;refine (strings_Cut.calls a0 ⟨#[32]⟩ t1 t2 t3 _ (HG.out.below (aG (Below.refl _ _) _)) pS.out).mono ?_;rintro e w1 ⟨rfl,n,rfl⟩)
    |(go_at_call 93;refine (cu.calls t1 g _ qu.out).mono ?_;rintro e w2 ⟨rfl,hb⟩;have iE:=Lib.hid (cC hb).1;have pQ:=Lib.hid (cC hb).2;clear hb)
    |(go_at_call 92;refine (bV.calls g 3 _ (HG.out.below iE.out) uu.out).mono ?_;rintro e w3 ⟨rfl,hb⟩;have iz:=Lib.hid (PS.init (bR iE.out iE.out.size hb) (aX pQ.out hb) 3);obtain ⟨jt,ju,jv,jw,jx,jy,jz,jA,jB,jC,jD,jE,jF,jG,jH,jI⟩:=iz.out.jf;clear hb)
    |(go_at_call 96;refine (dU.calls k w3.heap.size t2 ⟨#[70,82,79,77,58]⟩ 3 ⟨#[]⟩ false p1 p2 p3 p4 p5 p6 w _ iz.out.hc (Nat.le_of_lt iz.out.ge) iz.out.bl HG.out xe.out).mono ?_;rintro e w5 ⟨v1,v2,rfl,hq,ud,yX,hb,hk⟩;obtain ⟨V1,c1,rfl⟩:=Kd.fI ud;obtain ⟨V2,c2,rfl⟩:=Kd.fI yX;have Vt:=Lib.hid ud;have TX:=Lib.hid yX;have nQ:=Lib.hid (PS.mk hb (br.blk hk iz.out.hr (Nat.ne_of_lt iz.out.ge) aV) hq iz.out.ge);obtain ⟨lR,lS,lT,lU,lV,lW,lX,lY,lZ,l5,l6,l7,l8,l9,mg,mh,mj,mo,mq,mz,mA,mB,mC,mD,mE⟩:=nQ.out.facts;clear hq ud yX hb hk))
   obtain ⟨q1,q2,q3,q4⟩:=PS.done (W1:=_) nQ.out (.int .u8 0) (.string ⟨#[]⟩) (.bool false) (.slice none 0 0) (.string ⟨#[]⟩) (.string ⟨#[]⟩) (.bool false) (.slice none 0 0) rfl
   refine bodyPost_ret (cU rfl _ _ w.heap.size 35 #[(.int .u8 0),(.string ⟨#[]⟩),(.bool false),(.slice none 0 0),(.string ⟨#[]⟩),(.string ⟨#[]⟩),(.bool false),(.slice none 0 0)] (0,0) _ rfl q1 Tryz.underlying35 rfl av) rfl ?_
   exact ⟨_,_,rfl,Kd.eX _ _ _ _ _,Kd.eX _ _ _ _ _,q2⟩
  |true=>
   simp only [if_true] at h
   cases p1 with
   |true=>
    simp only [if_true] at h
    simp only [ak.z,ak.w,ak.p,Option.some.injEq,Prod.mk.injEq] at h
    obtain ⟨rfl,rfl,rfl,rfl,rfl,rfl,rfl,rfl,rfl⟩:=h
    go_enter Tryz.func35,Tryz.ntmps35
    go_wp2_with (first
     |(go_at_call 91;refine (strings_Cut.calls a0 ⟨#[32]⟩ t1 t2 t3 _ (HG.out.below (aG (Below.refl _ _) _)) pS.out).mono ?_;rintro e w1 ⟨rfl,n,rfl⟩)
     |(go_at_call 93;refine (cu.calls t1 g _ qu.out).mono ?_;rintro e w2 ⟨rfl,hb⟩;have iE:=Lib.hid (cC hb).1;have pQ:=Lib.hid (cC hb).2;clear hb)
     |(go_at_call 92;refine (bV.calls g 3 _ (HG.out.below iE.out) uu.out).mono ?_;rintro e w3 ⟨rfl,hb⟩;have iz:=Lib.hid (PS.init (bR iE.out iE.out.size hb) (aX pQ.out hb) 3);obtain ⟨jt,ju,jv,jw,jx,jy,jz,jA,jB,jC,jD,jE,jF,jG,jH,jI⟩:=iz.out.jf;clear hb)
     |(go_at_call 96;refine (dU.calls k w3.heap.size t2 ⟨#[70,82,79,77,58]⟩ 3 ⟨#[]⟩ true true p2 p3 p4 p5 p6 w _ iz.out.hc (Nat.le_of_lt iz.out.ge) iz.out.bl HG.out xe.out).mono ?_;rintro e w5 ⟨v1,v2,rfl,hq,ud,yX,hb,hk⟩;obtain ⟨V1,c1,rfl⟩:=Kd.fI ud;obtain ⟨V2,c2,rfl⟩:=Kd.fI yX;have Vt:=Lib.hid ud;have TX:=Lib.hid yX;have nQ:=Lib.hid (PS.mk hb (br.blk hk iz.out.hr (Nat.ne_of_lt iz.out.ge) aV) hq iz.out.ge);obtain ⟨lR,lS,lT,lU,lV,lW,lX,lY,lZ,l5,l6,l7,l8,l9,mg,mh,mj,mo,mq,mz,mA,mB,mC,mD,mE⟩:=nQ.out.facts;clear hq ud yX hb hk))
    obtain ⟨q1,q2,q3,q4⟩:=PS.done (W1:=_) nQ.out (.int .u8 3) (.string ⟨#[]⟩) (.bool true) (.slice V1 p2.length c1) (.string p3) (.string p4) (.bool p5) (.slice V2 p6.length c2) rfl
    refine bodyPost_ret (cU rfl _ _ w.heap.size 35 #[(.int .u8 3),(.string ⟨#[]⟩),(.bool true),(.slice V1 p2.length c1),(.string p3),(.string p4),(.bool p5),(.slice V2 p6.length c2)] (0,0) _ rfl q1 Tryz.underlying35 rfl av) rfl ?_
    exact ⟨_,_,rfl,q3 _ _ _ Vt.out,q4 _ _ _ TX.out,q2⟩
   |false=>
    simp only [Bool.false_eq_true,if_false] at h
    cases hd:p4.toList.isEmpty with
    |true=>
     rw [hd] at h
     simp only [if_true] at h
     simp only [ak.z,ak.w,ak.p,Option.some.injEq,Prod.mk.injEq] at h
     obtain ⟨rfl,rfl,rfl,rfl,rfl,rfl,rfl,rfl,rfl⟩:=h
     go_enter Tryz.func35,Tryz.ntmps35
     go_wp2_with (first
      |(go_at_call 91;refine (strings_Cut.calls a0 ⟨#[32]⟩ t1 t2 t3 _ (HG.out.below (aG (Below.refl _ _) _)) pS.out).mono ?_;rintro e w1 ⟨rfl,n,rfl⟩)
      |(go_at_call 93;refine (cu.calls t1 g _ qu.out).mono ?_;rintro e w2 ⟨rfl,hb⟩;have iE:=Lib.hid (cC hb).1;have pQ:=Lib.hid (cC hb).2;clear hb)
      |(go_at_call 92;refine (bV.calls g 3 _ (HG.out.below iE.out) uu.out).mono ?_;rintro e w3 ⟨rfl,hb⟩;have iz:=Lib.hid (PS.init (bR iE.out iE.out.size hb) (aX pQ.out hb) 3);obtain ⟨jt,ju,jv,jw,jx,jy,jz,jA,jB,jC,jD,jE,jF,jG,jH,jI⟩:=iz.out.jf;clear hb)
      |(go_at_call 96;refine (dU.calls k w3.heap.size t2 ⟨#[70,82,79,77,58]⟩ 3 ⟨#[]⟩ true false p2 p3 p4 p5 p6 w _ iz.out.hc (Nat.le_of_lt iz.out.ge) iz.out.bl HG.out xe.out).mono ?_;rintro e w5 ⟨v1,v2,rfl,hq,ud,yX,hb,hk⟩;obtain ⟨V1,c1,rfl⟩:=Kd.fI ud;obtain ⟨V2,c2,rfl⟩:=Kd.fI yX;have Vt:=Lib.hid ud;have TX:=Lib.hid yX;have nQ:=Lib.hid (PS.mk hb (br.blk hk iz.out.hr (Nat.ne_of_lt iz.out.ge) aV) hq iz.out.ge);obtain ⟨lR,lS,lT,lU,lV,lW,lX,lY,lZ,l5,l6,l7,l8,l9,mg,mh,mj,mo,mq,mz,mA,mB,mC,mD,mE⟩:=nQ.out.facts;clear hq ud yX hb hk))
     obtain ⟨q1,q2,q3,q4⟩:=PS.done (W1:=_) nQ.out (.int .u8 0) (.string ⟨#[]⟩) (.bool false) (.slice none 0 0) (.string ⟨#[]⟩) (.string ⟨#[]⟩) (.bool false) (.slice none 0 0) rfl
     refine bodyPost_ret (cU rfl _ _ w.heap.size 35 #[(.int .u8 0),(.string ⟨#[]⟩),(.bool false),(.slice none 0 0),(.string ⟨#[]⟩),(.string ⟨#[]⟩),(.bool false),(.slice none 0 0)] (0,0) _ rfl q1 Tryz.underlying35 rfl av) rfl ?_
     exact ⟨_,_,rfl,Kd.eX _ _ _ _ _,Kd.eX _ _ _ _ _,q2⟩
    |false=>
     rw [hd] at h
     simp only [Bool.false_eq_true,if_false] at h
     simp only [ak.z,ak.w,ak.p,Option.some.injEq,Prod.mk.injEq] at h
     obtain ⟨rfl,rfl,rfl,rfl,rfl,rfl,rfl,rfl,rfl⟩:=h
     go_enter Tryz.func35,Tryz.ntmps35
     go_wp2_with (first
      |(go_at_call 91;refine (strings_Cut.calls a0 ⟨#[32]⟩ t1 t2 t3 _ (HG.out.below (aG (Below.refl _ _) _)) pS.out).mono ?_;rintro e w1 ⟨rfl,n,rfl⟩)
      |(go_at_call 93;refine (cu.calls t1 g _ qu.out).mono ?_;rintro e w2 ⟨rfl,hb⟩;have iE:=Lib.hid (cC hb).1;have pQ:=Lib.hid (cC hb).2;clear hb)
      |(go_at_call 92;refine (bV.calls g 3 _ (HG.out.below iE.out) uu.out).mono ?_;rintro e w3 ⟨rfl,hb⟩;have iz:=Lib.hid (PS.init (bR iE.out iE.out.size hb) (aX pQ.out hb) 3);obtain ⟨jt,ju,jv,jw,jx,jy,jz,jA,jB,jC,jD,jE,jF,jG,jH,jI⟩:=iz.out.jf;clear hb)
      |(go_at_call 96;refine (dU.calls k w3.heap.size t2 ⟨#[70,82,79,77,58]⟩ 3 ⟨#[]⟩ true false p2 p3 p4 p5 p6 w _ iz.out.hc (Nat.le_of_lt iz.out.ge) iz.out.bl HG.out xe.out).mono ?_;rintro e w5 ⟨v1,v2,rfl,hq,ud,yX,hb,hk⟩;obtain ⟨V1,c1,rfl⟩:=Kd.fI ud;obtain ⟨V2,c2,rfl⟩:=Kd.fI yX;have Vt:=Lib.hid ud;have TX:=Lib.hid yX;have nQ:=Lib.hid (PS.mk hb (br.blk hk iz.out.hr (Nat.ne_of_lt iz.out.ge) aV) hq iz.out.ge);obtain ⟨lR,lS,lT,lU,lV,lW,lX,lY,lZ,l5,l6,l7,l8,l9,mg,mh,mj,mo,mq,mz,mA,mB,mC,mD,mE⟩:=nQ.out.facts;clear hq ud yX hb hk))
     obtain ⟨q1,q2,q3,q4⟩:=PS.done (W1:=_) nQ.out (.int .u8 3) (.string ⟨#[]⟩) (.bool false) (.slice V1 p2.length c1) (.string p3) (.string p4) (.bool p5) (.slice V2 p6.length c2) rfl
     refine bodyPost_ret (cU rfl _ _ w.heap.size 35 #[(.int .u8 3),(.string ⟨#[]⟩),(.bool false),(.slice V1 p2.length c1),(.string p3),(.string p4),(.bool p5),(.slice V2 p6.length c2)] (0,0) _ rfl q1 Tryz.underlying35 rfl av) rfl ?_
     exact ⟨_,_,rfl,q3 _ _ _ Vt.out,q4 _ _ _ TX.out,q2⟩
 ·replace h:ak.Fh k t2=_ :=(show ak.v k 4 t2 t3=ak.Fh k t2 from by unfold ak.v;simp).symm.trans h
  unfold ak.Fh at h
  obtain ⟨⟨p0,p1,p2,p3,p4,p5,p6⟩,B1,h⟩:=Option.bind_eq_some_iff.mp h
  try dsimp only at h
  have xe:=Lib.hid B1
  clear B1
  cases p0 with
  |false=>
   simp only [Bool.false_eq_true,if_false] at h
   simp only [ak.z,ak.w,ak.p,Option.some.injEq,Prod.mk.injEq] at h
   obtain ⟨rfl,rfl,rfl,rfl,rfl,rfl,rfl,rfl,rfl⟩:=h
   go_enter Tryz.func35,Tryz.ntmps35
   go_wp2_with (first
    |(go_at_call 91;refine (strings_Cut.calls a0 ⟨#[32]⟩ t1 t2 t3 _ (HG.out.below (aG (Below.refl _ _) _)) pS.out).mono ?_;rintro e w1 ⟨rfl,n,rfl⟩)
    |(go_at_call 93;refine (cu.calls t1 g _ qu.out).mono ?_;rintro e w2 ⟨rfl,hb⟩;have iE:=Lib.hid (cC hb).1;have pQ:=Lib.hid (cC hb).2;clear hb)
    |(go_at_call 92;refine (bV.calls g 4 _ (HG.out.below iE.out) uu.out).mono ?_;rintro e w3 ⟨rfl,hb⟩;have iz:=Lib.hid (PS.init (bR iE.out iE.out.size hb) (aX pQ.out hb) 4);obtain ⟨jt,ju,jv,jw,jx,jy,jz,jA,jB,jC,jD,jE,jF,jG,jH,jI⟩:=iz.out.jf;clear hb)
    |(go_at_call 96;refine (dU.calls k w3.heap.size t2 ⟨#[84,79,58]⟩ 4 ⟨#[]⟩ false p1 p2 p3 p4 p5 p6 w _ iz.out.hc (Nat.le_of_lt iz.out.ge) iz.out.bl HG.out xe.out).mono ?_;rintro e w5 ⟨v1,v2,rfl,hq,ud,yX,hb,hk⟩;obtain ⟨V1,c1,rfl⟩:=Kd.fI ud;obtain ⟨V2,c2,rfl⟩:=Kd.fI yX;have Vt:=Lib.hid ud;have TX:=Lib.hid yX;have nQ:=Lib.hid (PS.mk hb (br.blk hk iz.out.hr (Nat.ne_of_lt iz.out.ge) aV) hq iz.out.ge);obtain ⟨lR,lS,lT,lU,lV,lW,lX,lY,lZ,l5,l6,l7,l8,l9,mg,mh,mj,mo,mq,mz,mA,mB,mC,mD,mE⟩:=nQ.out.facts;clear hq ud yX hb hk))
   obtain ⟨q1,q2,q3,q4⟩:=PS.done (W1:=_) nQ.out (.int .u8 0) (.string ⟨#[]⟩) (.bool false) (.slice none 0 0) (.string ⟨#[]⟩) (.string ⟨#[]⟩) (.bool false) (.slice none 0 0) rfl
   refine bodyPost_ret (cU rfl _ _ w.heap.size 35 #[(.int .u8 0),(.string ⟨#[]⟩),(.bool false),(.slice none 0 0),(.string ⟨#[]⟩),(.string ⟨#[]⟩),(.bool false),(.slice none 0 0)] (0,0) _ rfl q1 Tryz.underlying35 rfl av) rfl ?_
   exact ⟨_,_,rfl,Kd.eX _ _ _ _ _,Kd.eX _ _ _ _ _,q2⟩
  |true=>
   simp only [if_true] at h
   cases p1 with
   |true=>
    simp only [if_true] at h
    simp only [ak.z,ak.w,ak.p,Option.some.injEq,Prod.mk.injEq] at h
    obtain ⟨rfl,rfl,rfl,rfl,rfl,rfl,rfl,rfl,rfl⟩:=h
    go_enter Tryz.func35,Tryz.ntmps35
    go_wp2_with (first
     |(go_at_call 91;refine (strings_Cut.calls a0 ⟨#[32]⟩ t1 t2 t3 _ (HG.out.below (aG (Below.refl _ _) _)) pS.out).mono ?_;rintro e w1 ⟨rfl,n,rfl⟩)
     |(go_at_call 93;refine (cu.calls t1 g _ qu.out).mono ?_;rintro e w2 ⟨rfl,hb⟩;have iE:=Lib.hid (cC hb).1;have pQ:=Lib.hid (cC hb).2;clear hb)
     |(go_at_call 92;refine (bV.calls g 4 _ (HG.out.below iE.out) uu.out).mono ?_;rintro e w3 ⟨rfl,hb⟩;have iz:=Lib.hid (PS.init (bR iE.out iE.out.size hb) (aX pQ.out hb) 4);obtain ⟨jt,ju,jv,jw,jx,jy,jz,jA,jB,jC,jD,jE,jF,jG,jH,jI⟩:=iz.out.jf;clear hb)
     |(go_at_call 96;refine (dU.calls k w3.heap.size t2 ⟨#[84,79,58]⟩ 4 ⟨#[]⟩ true true p2 p3 p4 p5 p6 w _ iz.out.hc (Nat.le_of_lt iz.out.ge) iz.out.bl HG.out xe.out).mono ?_;rintro e w5 ⟨v1,v2,rfl,hq,ud,yX,hb,hk⟩;obtain ⟨V1,c1,rfl⟩:=Kd.fI ud;obtain ⟨V2,c2,rfl⟩:=Kd.fI yX;have Vt:=Lib.hid ud;have TX:=Lib.hid yX;have nQ:=Lib.hid (PS.mk hb (br.blk hk iz.out.hr (Nat.ne_of_lt iz.out.ge) aV) hq iz.out.ge);obtain ⟨lR,lS,lT,lU,lV,lW,lX,lY,lZ,l5,l6,l7,l8,l9,mg,mh,mj,mo,mq,mz,mA,mB,mC,mD,mE⟩:=nQ.out.facts;clear hq ud yX hb hk))
    obtain ⟨q1,q2,q3,q4⟩:=PS.done (W1:=_) nQ.out (.int .u8 0) (.string ⟨#[]⟩) (.bool false) (.slice none 0 0) (.string ⟨#[]⟩) (.string ⟨#[]⟩) (.bool false) (.slice none 0 0) rfl
    refine bodyPost_ret (cU rfl _ _ w.heap.size 35 #[(.int .u8 0),(.string ⟨#[]⟩),(.bool false),(.slice none 0 0),(.string ⟨#[]⟩),(.string ⟨#[]⟩),(.bool false),(.slice none 0 0)] (0,0) _ rfl q1 Tryz.underlying35 rfl av) rfl ?_
    exact ⟨_,_,rfl,Kd.eX _ _ _ _ _,Kd.eX _ _ _ _ _,q2⟩
   |false=>
    simp only [Bool.false_eq_true,if_false] at h
    simp only [ak.z,ak.w,ak.p,Option.some.injEq,Prod.mk.injEq] at h
    obtain ⟨rfl,rfl,rfl,rfl,rfl,rfl,rfl,rfl,rfl⟩:=h
    go_enter Tryz.func35,Tryz.ntmps35
    go_wp2_with (first
     |(go_at_call 91;refine (strings_Cut.calls a0 ⟨#[32]⟩ t1 t2 t3 _ (HG.out.below (aG (Below.refl _ _) _)) pS.out).mono ?_;rintro e w1 ⟨rfl,n,rfl⟩)
     |(go_at_call 93;refine (cu.calls t1 g _ qu.out).mono ?_;rintro e w2 ⟨rfl,hb⟩;have iE:=Lib.hid (cC hb).1;have pQ:=Lib.hid (cC hb).2;clear hb)
     |(go_at_call 92;refine (bV.calls g 4 _ (HG.out.below iE.out) uu.out).mono ?_;rintro e w3 ⟨rfl,hb⟩;have iz:=Lib.hid (PS.init (bR iE.out iE.out.size hb) (aX pQ.out hb) 4);obtain ⟨jt,ju,jv,jw,jx,jy,jz,jA,jB,jC,jD,jE,jF,jG,jH,jI⟩:=iz.out.jf;clear hb)
     |(go_at_call 96;refine (dU.calls k w3.heap.size t2 ⟨#[84,79,58]⟩ 4 ⟨#[]⟩ true false p2 p3 p4 p5 p6 w _ iz.out.hc (Nat.le_of_lt iz.out.ge) iz.out.bl HG.out xe.out).mono ?_;rintro e w5 ⟨v1,v2,rfl,hq,ud,yX,hb,hk⟩;obtain ⟨V1,c1,rfl⟩:=Kd.fI ud;obtain ⟨V2,c2,rfl⟩:=Kd.fI yX;have Vt:=Lib.hid ud;have TX:=Lib.hid yX;have nQ:=Lib.hid (PS.mk hb (br.blk hk iz.out.hr (Nat.ne_of_lt iz.out.ge) aV) hq iz.out.ge);obtain ⟨lR,lS,lT,lU,lV,lW,lX,lY,lZ,l5,l6,l7,l8,l9,mg,mh,mj,mo,mq,mz,mA,mB,mC,mD,mE⟩:=nQ.out.facts;clear hq ud yX hb hk))
    obtain ⟨q1,q2,q3,q4⟩:=PS.done (W1:=_) nQ.out (.int .u8 4) (.string ⟨#[]⟩) (.bool false) (.slice V1 p2.length c1) (.string p3) (.string p4) (.bool p5) (.slice V2 p6.length c2) rfl
    refine bodyPost_ret (cU rfl _ _ w.heap.size 35 #[(.int .u8 4),(.string ⟨#[]⟩),(.bool false),(.slice V1 p2.length c1),(.string p3),(.string p4),(.bool p5),(.slice V2 p6.length c2)] (0,0) _ rfl q1 Tryz.underlying35 rfl av) rfl ?_
    exact ⟨_,_,rfl,q3 _ _ _ Vt.out,q4 _ _ _ TX.out,q2⟩
 ·replace h:(if t3=true then ak.z 161 else ak.w 5 ⟨#[]⟩)=_ :=(show ak.v k 5 t2 t3=_ from by unfold ak.v;simp).symm.trans h
  cases t3 with
  |true=>
   simp only [if_true] at h
   simp only [ak.z,ak.w,ak.p,Option.some.injEq,Prod.mk.injEq] at h
   obtain ⟨rfl,rfl,rfl,rfl,rfl,rfl,rfl,rfl,rfl⟩:=h
   go_enter Tryz.func35,Tryz.ntmps35
   go_wp2_with (first
    |(go_at_call 91;refine (strings_Cut.calls a0 ⟨#[32]⟩ t1 t2 true _ (HG.out.below (aG (Below.refl _ _) _)) pS.out).mono ?_;rintro e w1 ⟨rfl,n,rfl⟩)
    |(go_at_call 93;refine (cu.calls t1 g _ qu.out).mono ?_;rintro e w2 ⟨rfl,hb⟩;have iE:=Lib.hid (cC hb).1;have pQ:=Lib.hid (cC hb).2;clear hb)
    |(go_at_call 92;refine (bV.calls g 5 _ (HG.out.below iE.out) uu.out).mono ?_;rintro e w3 ⟨rfl,hb⟩;have iz:=Lib.hid (PS.init (bR iE.out iE.out.size hb) (aX pQ.out hb) 5);obtain ⟨jt,ju,jv,jw,jx,jy,jz,jA,jB,jC,jD,jE,jF,jG,jH,jI⟩:=iz.out.jf;clear hb))
   obtain ⟨q1,q2,q3,q4⟩:=PS.done (W1:=_) iz.out (.int .u8 0) (.string ⟨#[]⟩) (.bool false) (.slice none 0 0) (.string ⟨#[]⟩) (.string ⟨#[]⟩) (.bool false) (.slice none 0 0) rfl
   refine bodyPost_ret (cU rfl _ _ w.heap.size 35 #[(.int .u8 0),(.string ⟨#[]⟩),(.bool false),(.slice none 0 0),(.string ⟨#[]⟩),(.string ⟨#[]⟩),(.bool false),(.slice none 0 0)] (0,0) _ rfl q1 Tryz.underlying35 rfl av) rfl ?_
   exact ⟨_,_,rfl,Kd.eX _ _ _ _ _,Kd.eX _ _ _ _ _,q2⟩
  |false=>
   simp only [Bool.false_eq_true,if_false] at h
   simp only [ak.z,ak.w,ak.p,Option.some.injEq,Prod.mk.injEq] at h
   obtain ⟨rfl,rfl,rfl,rfl,rfl,rfl,rfl,rfl,rfl⟩:=h
   go_enter Tryz.func35,Tryz.ntmps35
   go_wp2_with (first
    |(go_at_call 91;refine (strings_Cut.calls a0 ⟨#[32]⟩ t1 t2 false _ (HG.out.below (aG (Below.refl _ _) _)) pS.out).mono ?_;rintro e w1 ⟨rfl,n,rfl⟩)
    |(go_at_call 93;refine (cu.calls t1 g _ qu.out).mono ?_;rintro e w2 ⟨rfl,hb⟩;have iE:=Lib.hid (cC hb).1;have pQ:=Lib.hid (cC hb).2;clear hb)
    |(go_at_call 92;refine (bV.calls g 5 _ (HG.out.below iE.out) uu.out).mono ?_;rintro e w3 ⟨rfl,hb⟩;have iz:=Lib.hid (PS.init (bR iE.out iE.out.size hb) (aX pQ.out hb) 5);obtain ⟨jt,ju,jv,jw,jx,jy,jz,jA,jB,jC,jD,jE,jF,jG,jH,jI⟩:=iz.out.jf;clear hb))
   obtain ⟨q1,q2,q3,q4⟩:=PS.done (W1:=_) iz.out (.int .u8 5) (.string ⟨#[]⟩) (.bool false) (.slice none 0 0) (.string ⟨#[]⟩) (.string ⟨#[]⟩) (.bool false) (.slice none 0 0) rfl
   refine bodyPost_ret (cU rfl _ _ w.heap.size 35 #[(.int .u8 5),(.string ⟨#[]⟩),(.bool false),(.slice none 0 0),(.string ⟨#[]⟩),(.string ⟨#[]⟩),(.bool false),(.slice none 0 0)] (0,0) _ rfl q1 Tryz.underlying35 rfl av) rfl ?_
   exact ⟨_,_,rfl,Kd.eX _ _ _ _ _,Kd.eX _ _ _ _ _,q2⟩
 ·replace h:(if t3=true then ak.z 161 else ak.w 6 ⟨#[]⟩)=_ :=(show ak.v k 6 t2 t3=_ from by unfold ak.v;simp).symm.trans h
  cases t3 with
  |true=>
   simp only [if_true] at h
   simp only [ak.z,ak.w,ak.p,Option.some.injEq,Prod.mk.injEq] at h
   obtain ⟨rfl,rfl,rfl,rfl,rfl,rfl,rfl,rfl,rfl⟩:=h
   go_enter Tryz.func35,Tryz.ntmps35
   go_wp2_with (first
    |(go_at_call 91;refine (strings_Cut.calls a0 ⟨#[32]⟩ t1 t2 true _ (HG.out.below (aG (Below.refl _ _) _)) pS.out).mono ?_;rintro e w1 ⟨rfl,n,rfl⟩)
    |(go_at_call 93;refine (cu.calls t1 g _ qu.out).mono ?_;rintro e w2 ⟨rfl,hb⟩;have iE:=Lib.hid (cC hb).1;have pQ:=Lib.hid (cC hb).2;clear hb)
    |(go_at_call 92;refine (bV.calls g 6 _ (HG.out.below iE.out) uu.out).mono ?_;rintro e w3 ⟨rfl,hb⟩;have iz:=Lib.hid (PS.init (bR iE.out iE.out.size hb) (aX pQ.out hb) 6);obtain ⟨jt,ju,jv,jw,jx,jy,jz,jA,jB,jC,jD,jE,jF,jG,jH,jI⟩:=iz.out.jf;clear hb))
   obtain ⟨q1,q2,q3,q4⟩:=PS.done (W1:=_) iz.out (.int .u8 0) (.string ⟨#[]⟩) (.bool false) (.slice none 0 0) (.string ⟨#[]⟩) (.string ⟨#[]⟩) (.bool false) (.slice none 0 0) rfl
   refine bodyPost_ret (cU rfl _ _ w.heap.size 35 #[(.int .u8 0),(.string ⟨#[]⟩),(.bool false),(.slice none 0 0),(.string ⟨#[]⟩),(.string ⟨#[]⟩),(.bool false),(.slice none 0 0)] (0,0) _ rfl q1 Tryz.underlying35 rfl av) rfl ?_
   exact ⟨_,_,rfl,Kd.eX _ _ _ _ _,Kd.eX _ _ _ _ _,q2⟩
  |false=>
   simp only [Bool.false_eq_true,if_false] at h
   simp only [ak.z,ak.w,ak.p,Option.some.injEq,Prod.mk.injEq] at h
   obtain ⟨rfl,rfl,rfl,rfl,rfl,rfl,rfl,rfl,rfl⟩:=h
   go_enter Tryz.func35,Tryz.ntmps35
   go_wp2_with (first
    |(go_at_call 91;refine (strings_Cut.calls a0 ⟨#[32]⟩ t1 t2 false _ (HG.out.below (aG (Below.refl _ _) _)) pS.out).mono ?_;rintro e w1 ⟨rfl,n,rfl⟩)
    |(go_at_call 93;refine (cu.calls t1 g _ qu.out).mono ?_;rintro e w2 ⟨rfl,hb⟩;have iE:=Lib.hid (cC hb).1;have pQ:=Lib.hid (cC hb).2;clear hb)
    |(go_at_call 92;refine (bV.calls g 6 _ (HG.out.below iE.out) uu.out).mono ?_;rintro e w3 ⟨rfl,hb⟩;have iz:=Lib.hid (PS.init (bR iE.out iE.out.size hb) (aX pQ.out hb) 6);obtain ⟨jt,ju,jv,jw,jx,jy,jz,jA,jB,jC,jD,jE,jF,jG,jH,jI⟩:=iz.out.jf;clear hb))
   obtain ⟨q1,q2,q3,q4⟩:=PS.done (W1:=_) iz.out (.int .u8 6) (.string ⟨#[]⟩) (.bool false) (.slice none 0 0) (.string ⟨#[]⟩) (.string ⟨#[]⟩) (.bool false) (.slice none 0 0) rfl
   refine bodyPost_ret (cU rfl _ _ w.heap.size 35 #[(.int .u8 6),(.string ⟨#[]⟩),(.bool false),(.slice none 0 0),(.string ⟨#[]⟩),(.string ⟨#[]⟩),(.bool false),(.slice none 0 0)] (0,0) _ rfl q1 Tryz.underlying35 rfl av) rfl ?_
   exact ⟨_,_,rfl,Kd.eX _ _ _ _ _,Kd.eX _ _ _ _ _,q2⟩
 ·replace h:ak.free 7 t2=_ :=(show ak.v k 7 t2 t3=_ from by unfold ak.v;simp).symm.trans h
  unfold ak.free at h
  obtain ⟨b,B1,h⟩:=Option.bind_eq_some_iff.mp h
  try dsimp only at h
  have xe:=Lib.hid B1
  clear B1
  cases b with
  |true=>
   simp only [if_true] at h
   simp only [ak.z,ak.w,ak.p,Option.some.injEq,Prod.mk.injEq] at h
   obtain ⟨rfl,rfl,rfl,rfl,rfl,rfl,rfl,rfl,rfl⟩:=h
   go_enter Tryz.func35,Tryz.ntmps35
   go_wp2_with (first
    |(go_at_call 91;refine (strings_Cut.calls a0 ⟨#[32]⟩ t1 t2 t3 _ (HG.out.below (aG (Below.refl _ _) _)) pS.out).mono ?_;rintro e w1 ⟨rfl,n,rfl⟩)
    |(go_at_call 93;refine (cu.calls t1 g _ qu.out).mono ?_;rintro e w2 ⟨rfl,hb⟩;have iE:=Lib.hid (cC hb).1;have pQ:=Lib.hid (cC hb).2;clear hb)
    |(go_at_call 92;refine (bV.calls g 7 _ (HG.out.below iE.out) uu.out).mono ?_;rintro e w3 ⟨rfl,hb⟩;have iz:=Lib.hid (PS.init (bR iE.out iE.out.size hb) (aX pQ.out hb) 7);obtain ⟨jt,ju,jv,jw,jx,jy,jz,jA,jB,jC,jD,jE,jF,jG,jH,jI⟩:=iz.out.jf;clear hb)
    |(go_at_call 97;refine (fP.calls t2 true _ xe.out).mono ?_;rintro e w5 ⟨rfl,hb⟩;have nQ:=Lib.hid ((iz.out).below hb);obtain ⟨lR,lS,lT,lU,lV,lW,lX,lY,lZ,l5,l6,l7,l8,l9,mg,mh,mj,mo,mq,mz,mA,mB,mC,mD,mE⟩:=nQ.out.facts;have OE:=Nat.ne_of_lt iz.out.ge;have OG:=Nat.ne_of_gt iz.out.ge;clear hb))
   obtain ⟨q1,q2,q3,q4⟩:=PS.done (W1:=_) (nQ.out.arg t2) (.int .u8 7) (.string t2) (.bool false) (.slice none 0 0) (.string ⟨#[]⟩) (.string ⟨#[]⟩) (.bool false) (.slice none 0 0) rfl
   refine bodyPost_ret (cU rfl _ _ w.heap.size 35 #[(.int .u8 7),(.string t2),(.bool false),(.slice none 0 0),(.string ⟨#[]⟩),(.string ⟨#[]⟩),(.bool false),(.slice none 0 0)] (0,0) _ rfl q1 Tryz.underlying35 rfl av) rfl ?_
   exact ⟨_,_,rfl,Kd.eX _ _ _ _ _,Kd.eX _ _ _ _ _,q2⟩
  |false=>
   simp only [Bool.false_eq_true,if_false] at h
   simp only [ak.z,ak.w,ak.p,Option.some.injEq,Prod.mk.injEq] at h
   obtain ⟨rfl,rfl,rfl,rfl,rfl,rfl,rfl,rfl,rfl⟩:=h
   go_enter Tryz.func35,Tryz.ntmps35
   go_wp2_with (first
    |(go_at_call 91;refine (strings_Cut.calls a0 ⟨#[32]⟩ t1 t2 t3 _ (HG.out.below (aG (Below.refl _ _) _)) pS.out).mono ?_;rintro e w1 ⟨rfl,n,rfl⟩)
    |(go_at_call 93;refine (cu.calls t1 g _ qu.out).mono ?_;rintro e w2 ⟨rfl,hb⟩;have iE:=Lib.hid (cC hb).1;have pQ:=Lib.hid (cC hb).2;clear hb)
    |(go_at_call 92;refine (bV.calls g 7 _ (HG.out.below iE.out) uu.out).mono ?_;rintro e w3 ⟨rfl,hb⟩;have iz:=Lib.hid (PS.init (bR iE.out iE.out.size hb) (aX pQ.out hb) 7);obtain ⟨jt,ju,jv,jw,jx,jy,jz,jA,jB,jC,jD,jE,jF,jG,jH,jI⟩:=iz.out.jf;clear hb)
    |(go_at_call 97;refine (fP.calls t2 false _ xe.out).mono ?_;rintro e w5 ⟨rfl,hb⟩;have nQ:=Lib.hid ((iz.out).below hb);obtain ⟨lR,lS,lT,lU,lV,lW,lX,lY,lZ,l5,l6,l7,l8,l9,mg,mh,mj,mo,mq,mz,mA,mB,mC,mD,mE⟩:=nQ.out.facts;have OE:=Nat.ne_of_lt iz.out.ge;have OG:=Nat.ne_of_gt iz.out.ge;clear hb))
   obtain ⟨q1,q2,q3,q4⟩:=PS.done (W1:=_) (nQ.out.arg t2) (.int .u8 0) (.string ⟨#[]⟩) (.bool false) (.slice none 0 0) (.string ⟨#[]⟩) (.string ⟨#[]⟩) (.bool false) (.slice none 0 0) rfl
   refine bodyPost_ret (cU rfl _ _ w.heap.size 35 #[(.int .u8 0),(.string ⟨#[]⟩),(.bool false),(.slice none 0 0),(.string ⟨#[]⟩),(.string ⟨#[]⟩),(.bool false),(.slice none 0 0)] (0,0) _ rfl q1 Tryz.underlying35 rfl av) rfl ?_
   exact ⟨_,_,rfl,Kd.eX _ _ _ _ _,Kd.eX _ _ _ _ _,q2⟩
 ·replace h:ak.free 8 t2=_ :=(show ak.v k 8 t2 t3=_ from by unfold ak.v;simp).symm.trans h
  unfold ak.free at h
  obtain ⟨b,B1,h⟩:=Option.bind_eq_some_iff.mp h
  try dsimp only at h
  have xe:=Lib.hid B1
  clear B1
  cases b with
  |true=>
   simp only [if_true] at h
   simp only [ak.z,ak.w,ak.p,Option.some.injEq,Prod.mk.injEq] at h
   obtain ⟨rfl,rfl,rfl,rfl,rfl,rfl,rfl,rfl,rfl⟩:=h
   go_enter Tryz.func35,Tryz.ntmps35
   go_wp2_with (first
    |(go_at_call 91;refine (strings_Cut.calls a0 ⟨#[32]⟩ t1 t2 t3 _ (HG.out.below (aG (Below.refl _ _) _)) pS.out).mono ?_;rintro e w1 ⟨rfl,n,rfl⟩)
    |(go_at_call 93;refine (cu.calls t1 g _ qu.out).mono ?_;rintro e w2 ⟨rfl,hb⟩;have iE:=Lib.hid (cC hb).1;have pQ:=Lib.hid (cC hb).2;clear hb)
    |(go_at_call 92;refine (bV.calls g 8 _ (HG.out.below iE.out) uu.out).mono ?_;rintro e w3 ⟨rfl,hb⟩;have iz:=Lib.hid (PS.init (bR iE.out iE.out.size hb) (aX pQ.out hb) 8);obtain ⟨jt,ju,jv,jw,jx,jy,jz,jA,jB,jC,jD,jE,jF,jG,jH,jI⟩:=iz.out.jf;clear hb)
    |(go_at_call 97;refine (fP.calls t2 true _ xe.out).mono ?_;rintro e w5 ⟨rfl,hb⟩;have nQ:=Lib.hid ((iz.out).below hb);obtain ⟨lR,lS,lT,lU,lV,lW,lX,lY,lZ,l5,l6,l7,l8,l9,mg,mh,mj,mo,mq,mz,mA,mB,mC,mD,mE⟩:=nQ.out.facts;have OE:=Nat.ne_of_lt iz.out.ge;have OG:=Nat.ne_of_gt iz.out.ge;clear hb))
   obtain ⟨q1,q2,q3,q4⟩:=PS.done (W1:=_) (nQ.out.arg t2) (.int .u8 8) (.string t2) (.bool false) (.slice none 0 0) (.string ⟨#[]⟩) (.string ⟨#[]⟩) (.bool false) (.slice none 0 0) rfl
   refine bodyPost_ret (cU rfl _ _ w.heap.size 35 #[(.int .u8 8),(.string t2),(.bool false),(.slice none 0 0),(.string ⟨#[]⟩),(.string ⟨#[]⟩),(.bool false),(.slice none 0 0)] (0,0) _ rfl q1 Tryz.underlying35 rfl av) rfl ?_
   exact ⟨_,_,rfl,Kd.eX _ _ _ _ _,Kd.eX _ _ _ _ _,q2⟩
  |false=>
   simp only [Bool.false_eq_true,if_false] at h
   simp only [ak.z,ak.w,ak.p,Option.some.injEq,Prod.mk.injEq] at h
   obtain ⟨rfl,rfl,rfl,rfl,rfl,rfl,rfl,rfl,rfl⟩:=h
   go_enter Tryz.func35,Tryz.ntmps35
   go_wp2_with (first
    |(go_at_call 91;refine (strings_Cut.calls a0 ⟨#[32]⟩ t1 t2 t3 _ (HG.out.below (aG (Below.refl _ _) _)) pS.out).mono ?_;rintro e w1 ⟨rfl,n,rfl⟩)
    |(go_at_call 93;refine (cu.calls t1 g _ qu.out).mono ?_;rintro e w2 ⟨rfl,hb⟩;have iE:=Lib.hid (cC hb).1;have pQ:=Lib.hid (cC hb).2;clear hb)
    |(go_at_call 92;refine (bV.calls g 8 _ (HG.out.below iE.out) uu.out).mono ?_;rintro e w3 ⟨rfl,hb⟩;have iz:=Lib.hid (PS.init (bR iE.out iE.out.size hb) (aX pQ.out hb) 8);obtain ⟨jt,ju,jv,jw,jx,jy,jz,jA,jB,jC,jD,jE,jF,jG,jH,jI⟩:=iz.out.jf;clear hb)
    |(go_at_call 97;refine (fP.calls t2 false _ xe.out).mono ?_;rintro e w5 ⟨rfl,hb⟩;have nQ:=Lib.hid ((iz.out).below hb);obtain ⟨lR,lS,lT,lU,lV,lW,lX,lY,lZ,l5,l6,l7,l8,l9,mg,mh,mj,mo,mq,mz,mA,mB,mC,mD,mE⟩:=nQ.out.facts;have OE:=Nat.ne_of_lt iz.out.ge;have OG:=Nat.ne_of_gt iz.out.ge;clear hb))
   obtain ⟨q1,q2,q3,q4⟩:=PS.done (W1:=_) (nQ.out.arg t2) (.int .u8 0) (.string ⟨#[]⟩) (.bool false) (.slice none 0 0) (.string ⟨#[]⟩) (.string ⟨#[]⟩) (.bool false) (.slice none 0 0) rfl
   refine bodyPost_ret (cU rfl _ _ w.heap.size 35 #[(.int .u8 0),(.string ⟨#[]⟩),(.bool false),(.slice none 0 0),(.string ⟨#[]⟩),(.string ⟨#[]⟩),(.bool false),(.slice none 0 0)] (0,0) _ rfl q1 Tryz.underlying35 rfl av) rfl ?_
   exact ⟨_,_,rfl,Kd.eX _ _ _ _ _,Kd.eX _ _ _ _ _,q2⟩
 ·replace h:(if t3=true then ak.free 9 t2 else ak.w 9 ⟨#[]⟩)=_ :=(show ak.v k 9 t2 t3=_ from by unfold ak.v;simp).symm.trans h
  cases t3 with
  |true=>
   simp only [if_true] at h
   unfold ak.free at h
   obtain ⟨b,B1,h⟩:=Option.bind_eq_some_iff.mp h
   try dsimp only at h
   have xe:=Lib.hid B1
   clear B1
   cases b with
   |true=>
    simp only [if_true] at h
    simp only [ak.z,ak.w,ak.p,Option.some.injEq,Prod.mk.injEq] at h
    obtain ⟨rfl,rfl,rfl,rfl,rfl,rfl,rfl,rfl,rfl⟩:=h
    go_enter Tryz.func35,Tryz.ntmps35
    go_wp2_with (first
     |(go_at_call 91;refine (strings_Cut.calls a0 ⟨#[32]⟩ t1 t2 true _ (HG.out.below (aG (Below.refl _ _) _)) pS.out).mono ?_;rintro e w1 ⟨rfl,n,rfl⟩)
     |(go_at_call 93;refine (cu.calls t1 g _ qu.out).mono ?_;rintro e w2 ⟨rfl,hb⟩;have iE:=Lib.hid (cC hb).1;have pQ:=Lib.hid (cC hb).2;clear hb)
     |(go_at_call 92;refine (bV.calls g 9 _ (HG.out.below iE.out) uu.out).mono ?_;rintro e w3 ⟨rfl,hb⟩;have iz:=Lib.hid (PS.init (bR iE.out iE.out.size hb) (aX pQ.out hb) 9);obtain ⟨jt,ju,jv,jw,jx,jy,jz,jA,jB,jC,jD,jE,jF,jG,jH,jI⟩:=iz.out.jf;clear hb)
     |(go_at_call 97;refine (fP.calls t2 true _ xe.out).mono ?_;rintro e w5 ⟨rfl,hb⟩;have nQ:=Lib.hid ((iz.out).below hb);obtain ⟨lR,lS,lT,lU,lV,lW,lX,lY,lZ,l5,l6,l7,l8,l9,mg,mh,mj,mo,mq,mz,mA,mB,mC,mD,mE⟩:=nQ.out.facts;have OE:=Nat.ne_of_lt iz.out.ge;have OG:=Nat.ne_of_gt iz.out.ge;clear hb))
    obtain ⟨q1,q2,q3,q4⟩:=PS.done (W1:=_) (nQ.out.arg t2) (.int .u8 9) (.string t2) (.bool false) (.slice none 0 0) (.string ⟨#[]⟩) (.string ⟨#[]⟩) (.bool false) (.slice none 0 0) rfl
    refine bodyPost_ret (cU rfl _ _ w.heap.size 35 #[(.int .u8 9),(.string t2),(.bool false),(.slice none 0 0),(.string ⟨#[]⟩),(.string ⟨#[]⟩),(.bool false),(.slice none 0 0)] (0,0) _ rfl q1 Tryz.underlying35 rfl av) rfl ?_
    exact ⟨_,_,rfl,Kd.eX _ _ _ _ _,Kd.eX _ _ _ _ _,q2⟩
   |false=>
    simp only [Bool.false_eq_true,if_false] at h
    simp only [ak.z,ak.w,ak.p,Option.some.injEq,Prod.mk.injEq] at h
    obtain ⟨rfl,rfl,rfl,rfl,rfl,rfl,rfl,rfl,rfl⟩:=h
    go_enter Tryz.func35,Tryz.ntmps35
    go_wp2_with (first
     |(go_at_call 91;refine (strings_Cut.calls a0 ⟨#[32]⟩ t1 t2 true _ (HG.out.below (aG (Below.refl _ _) _)) pS.out).mono ?_;rintro e w1 ⟨rfl,n,rfl⟩)
     |(go_at_call 93;refine (cu.calls t1 g _ qu.out).mono ?_;rintro e w2 ⟨rfl,hb⟩;have iE:=Lib.hid (cC hb).1;have pQ:=Lib.hid (cC hb).2;clear hb)
     |(go_at_call 92;refine (bV.calls g 9 _ (HG.out.below iE.out) uu.out).mono ?_;rintro e w3 ⟨rfl,hb⟩;have iz:=Lib.hid (PS.init (bR iE.out iE.out.size hb) (aX pQ.out hb) 9);obtain ⟨jt,ju,jv,jw,jx,jy,jz,jA,jB,jC,jD,jE,jF,jG,jH,jI⟩:=iz.out.jf;clear hb)
     |(go_at_call 97;refine (fP.calls t2 false _ xe.out).mono ?_;rintro e w5 ⟨rfl,hb⟩;have nQ:=Lib.hid ((iz.out).below hb);obtain ⟨lR,lS,lT,lU,lV,lW,lX,lY,lZ,l5,l6,l7,l8,l9,mg,mh,mj,mo,mq,mz,mA,mB,mC,mD,mE⟩:=nQ.out.facts;have OE:=Nat.ne_of_lt iz.out.ge;have OG:=Nat.ne_of_gt iz.out.ge;clear hb))
    obtain ⟨q1,q2,q3,q4⟩:=PS.done (W1:=_) (nQ.out.arg t2) (.int .u8 0) (.string ⟨#[]⟩) (.bool false) (.slice none 0 0) (.string ⟨#[]⟩) (.string ⟨#[]⟩) (.bool false) (.slice none 0 0) rfl
    refine bodyPost_ret (cU rfl _ _ w.heap.size 35 #[(.int .u8 0),(.string ⟨#[]⟩),(.bool false),(.slice none 0 0),(.string ⟨#[]⟩),(.string ⟨#[]⟩),(.bool false),(.slice none 0 0)] (0,0) _ rfl q1 Tryz.underlying35 rfl av) rfl ?_
    exact ⟨_,_,rfl,Kd.eX _ _ _ _ _,Kd.eX _ _ _ _ _,q2⟩
  |false=>
   simp only [Bool.false_eq_true,if_false] at h
   simp only [ak.z,ak.w,ak.p,Option.some.injEq,Prod.mk.injEq] at h
   obtain ⟨rfl,rfl,rfl,rfl,rfl,rfl,rfl,rfl,rfl⟩:=h
   go_enter Tryz.func35,Tryz.ntmps35
   go_wp2_with (first
    |(go_at_call 91;refine (strings_Cut.calls a0 ⟨#[32]⟩ t1 t2 false _ (HG.out.below (aG (Below.refl _ _) _)) pS.out).mono ?_;rintro e w1 ⟨rfl,n,rfl⟩)
    |(go_at_call 93;refine (cu.calls t1 g _ qu.out).mono ?_;rintro e w2 ⟨rfl,hb⟩;have iE:=Lib.hid (cC hb).1;have pQ:=Lib.hid (cC hb).2;clear hb)
    |(go_at_call 92;refine (bV.calls g 9 _ (HG.out.below iE.out) uu.out).mono ?_;rintro e w3 ⟨rfl,hb⟩;have iz:=Lib.hid (PS.init (bR iE.out iE.out.size hb) (aX pQ.out hb) 9);obtain ⟨jt,ju,jv,jw,jx,jy,jz,jA,jB,jC,jD,jE,jF,jG,jH,jI⟩:=iz.out.jf;clear hb))
   obtain ⟨q1,q2,q3,q4⟩:=PS.done (W1:=_) iz.out (.int .u8 9) (.string ⟨#[]⟩) (.bool false) (.slice none 0 0) (.string ⟨#[]⟩) (.string ⟨#[]⟩) (.bool false) (.slice none 0 0) rfl
   refine bodyPost_ret (cU rfl _ _ w.heap.size 35 #[(.int .u8 9),(.string ⟨#[]⟩),(.bool false),(.slice none 0 0),(.string ⟨#[]⟩),(.string ⟨#[]⟩),(.bool false),(.slice none 0 0)] (0,0) _ rfl q1 Tryz.underlying35 rfl av) rfl ?_
   exact ⟨_,_,rfl,Kd.eX _ _ _ _ _,Kd.eX _ _ _ _ _,q2⟩
 ·replace h:(if t3=true then ak.free 10 t2 else ak.w 10 ⟨#[]⟩)=_ :=(show ak.v k 10 t2 t3=_ from by unfold ak.v;simp).symm.trans h
  cases t3 with
  |true=>
   simp only [if_true] at h
   unfold ak.free at h
   obtain ⟨b,B1,h⟩:=Option.bind_eq_some_iff.mp h
   try dsimp only at h
   have xe:=Lib.hid B1
   clear B1
   cases b with
   |true=>
    simp only [if_true] at h
    simp only [ak.z,ak.w,ak.p,Option.some.injEq,Prod.mk.injEq] at h
    obtain ⟨rfl,rfl,rfl,rfl,rfl,rfl,rfl,rfl,rfl⟩:=h
    go_enter Tryz.func35,Tryz.ntmps35
    go_wp2_with (first
     |(go_at_call 91;refine (strings_Cut.calls a0 ⟨#[32]⟩ t1 t2 true _ (HG.out.below (aG (Below.refl _ _) _)) pS.out).mono ?_;rintro e w1 ⟨rfl,n,rfl⟩)
     |(go_at_call 93;refine (cu.calls t1 g _ qu.out).mono ?_;rintro e w2 ⟨rfl,hb⟩;have iE:=Lib.hid (cC hb).1;have pQ:=Lib.hid (cC hb).2;clear hb)
     |(go_at_call 92;refine (bV.calls g 10 _ (HG.out.below iE.out) uu.out).mono ?_;rintro e w3 ⟨rfl,hb⟩;have iz:=Lib.hid (PS.init (bR iE.out iE.out.size hb) (aX pQ.out hb) 10);obtain ⟨jt,ju,jv,jw,jx,jy,jz,jA,jB,jC,jD,jE,jF,jG,jH,jI⟩:=iz.out.jf;clear hb)
     |(go_at_call 97;refine (fP.calls t2 true _ xe.out).mono ?_;rintro e w5 ⟨rfl,hb⟩;have nQ:=Lib.hid ((iz.out).below hb);obtain ⟨lR,lS,lT,lU,lV,lW,lX,lY,lZ,l5,l6,l7,l8,l9,mg,mh,mj,mo,mq,mz,mA,mB,mC,mD,mE⟩:=nQ.out.facts;have OE:=Nat.ne_of_lt iz.out.ge;have OG:=Nat.ne_of_gt iz.out.ge;clear hb))
    obtain ⟨q1,q2,q3,q4⟩:=PS.done (W1:=_) (nQ.out.arg t2) (.int .u8 10) (.string t2) (.bool false) (.slice none 0 0) (.string ⟨#[]⟩) (.string ⟨#[]⟩) (.bool false) (.slice none 0 0) rfl
    refine bodyPost_ret (cU rfl _ _ w.heap.size 35 #[(.int .u8 10),(.string t2),(.bool false),(.slice none 0 0),(.string ⟨#[]⟩),(.string ⟨#[]⟩),(.bool false),(.slice none 0 0)] (0,0) _ rfl q1 Tryz.underlying35 rfl av) rfl ?_
    exact ⟨_,_,rfl,Kd.eX _ _ _ _ _,Kd.eX _ _ _ _ _,q2⟩
   |false=>
    simp only [Bool.false_eq_true,if_false] at h
    simp only [ak.z,ak.w,ak.p,Option.some.injEq,Prod.mk.injEq] at h
    obtain ⟨rfl,rfl,rfl,rfl,rfl,rfl,rfl,rfl,rfl⟩:=h
    go_enter Tryz.func35,Tryz.ntmps35
    go_wp2_with (first
     |(go_at_call 91;refine (strings_Cut.calls a0 ⟨#[32]⟩ t1 t2 true _ (HG.out.below (aG (Below.refl _ _) _)) pS.out).mono ?_;rintro e w1 ⟨rfl,n,rfl⟩)
     |(go_at_call 93;refine (cu.calls t1 g _ qu.out).mono ?_;rintro e w2 ⟨rfl,hb⟩;have iE:=Lib.hid (cC hb).1;have pQ:=Lib.hid (cC hb).2;clear hb)
     |(go_at_call 92;refine (bV.calls g 10 _ (HG.out.below iE.out) uu.out).mono ?_;rintro e w3 ⟨rfl,hb⟩;have iz:=Lib.hid (PS.init (bR iE.out iE.out.size hb) (aX pQ.out hb) 10);obtain ⟨jt,ju,jv,jw,jx,jy,jz,jA,jB,jC,jD,jE,jF,jG,jH,jI⟩:=iz.out.jf;clear hb)
     |(go_at_call 97;refine (fP.calls t2 false _ xe.out).mono ?_;rintro e w5 ⟨rfl,hb⟩;have nQ:=Lib.hid ((iz.out).below hb);obtain ⟨lR,lS,lT,lU,lV,lW,lX,lY,lZ,l5,l6,l7,l8,l9,mg,mh,mj,mo,mq,mz,mA,mB,mC,mD,mE⟩:=nQ.out.facts;have OE:=Nat.ne_of_lt iz.out.ge;have OG:=Nat.ne_of_gt iz.out.ge;clear hb))
    obtain ⟨q1,q2,q3,q4⟩:=PS.done (W1:=_) (nQ.out.arg t2) (.int .u8 0) (.string ⟨#[]⟩) (.bool false) (.slice none 0 0) (.string ⟨#[]⟩) (.string ⟨#[]⟩) (.bool false) (.slice none 0 0) rfl
    refine bodyPost_ret (cU rfl _ _ w.heap.size 35 #[(.int .u8 0),(.string ⟨#[]⟩),(.bool false),(.slice none 0 0),(.string ⟨#[]⟩),(.string ⟨#[]⟩),(.bool false),(.slice none 0 0)] (0,0) _ rfl q1 Tryz.underlying35 rfl av) rfl ?_
    exact ⟨_,_,rfl,Kd.eX _ _ _ _ _,Kd.eX _ _ _ _ _,q2⟩
  |false=>
   simp only [Bool.false_eq_true,if_false] at h
   simp only [ak.z,ak.w,ak.p,Option.some.injEq,Prod.mk.injEq] at h
   obtain ⟨rfl,rfl,rfl,rfl,rfl,rfl,rfl,rfl,rfl⟩:=h
   go_enter Tryz.func35,Tryz.ntmps35
   go_wp2_with (first
    |(go_at_call 91;refine (strings_Cut.calls a0 ⟨#[32]⟩ t1 t2 false _ (HG.out.below (aG (Below.refl _ _) _)) pS.out).mono ?_;rintro e w1 ⟨rfl,n,rfl⟩)
    |(go_at_call 93;refine (cu.calls t1 g _ qu.out).mono ?_;rintro e w2 ⟨rfl,hb⟩;have iE:=Lib.hid (cC hb).1;have pQ:=Lib.hid (cC hb).2;clear hb)
    |(go_at_call 92;refine (bV.calls g 10 _ (HG.out.below iE.out) uu.out).mono ?_;rintro e w3 ⟨rfl,hb⟩;have iz:=Lib.hid (PS.init (bR iE.out iE.out.size hb) (aX pQ.out hb) 10);obtain ⟨jt,ju,jv,jw,jx,jy,jz,jA,jB,jC,jD,jE,jF,jG,jH,jI⟩:=iz.out.jf;clear hb))
   obtain ⟨q1,q2,q3,q4⟩:=PS.done (W1:=_) iz.out (.int .u8 10) (.string ⟨#[]⟩) (.bool false) (.slice none 0 0) (.string ⟨#[]⟩) (.string ⟨#[]⟩) (.bool false) (.slice none 0 0) rfl
   refine bodyPost_ret (cU rfl _ _ w.heap.size 35 #[(.int .u8 10),(.string ⟨#[]⟩),(.bool false),(.slice none 0 0),(.string ⟨#[]⟩),(.string ⟨#[]⟩),(.bool false),(.slice none 0 0)] (0,0) _ rfl q1 Tryz.underlying35 rfl av) rfl ?_
   exact ⟨_,_,rfl,Kd.eX _ _ _ _ _,Kd.eX _ _ _ _ _,q2⟩
 ·replace h:(if t3=true then ak.z 161 else ak.w 11 ⟨#[]⟩)=_ :=(show ak.v k 11 t2 t3=_ from by unfold ak.v;simp).symm.trans h
  cases t3 with
  |true=>
   simp only [if_true] at h
   simp only [ak.z,ak.w,ak.p,Option.some.injEq,Prod.mk.injEq] at h
   obtain ⟨rfl,rfl,rfl,rfl,rfl,rfl,rfl,rfl,rfl⟩:=h
   go_enter Tryz.func35,Tryz.ntmps35
   go_wp2_with (first
    |(go_at_call 91;refine (strings_Cut.calls a0 ⟨#[32]⟩ t1 t2 true _ (HG.out.below (aG (Below.refl _ _) _)) pS.out).mono ?_;rintro e w1 ⟨rfl,n,rfl⟩)
    |(go_at_call 93;refine (cu.calls t1 g _ qu.out).mono ?_;rintro e w2 ⟨rfl,hb⟩;have iE:=Lib.hid (cC hb).1;have pQ:=Lib.hid (cC hb).2;clear hb)
    |(go_at_call 92;refine (bV.calls g 11 _ (HG.out.below iE.out) uu.out).mono ?_;rintro e w3 ⟨rfl,hb⟩;have iz:=Lib.hid (PS.init (bR iE.out iE.out.size hb) (aX pQ.out hb) 11);obtain ⟨jt,ju,jv,jw,jx,jy,jz,jA,jB,jC,jD,jE,jF,jG,jH,jI⟩:=iz.out.jf;clear hb))
   obtain ⟨q1,q2,q3,q4⟩:=PS.done (W1:=_) iz.out (.int .u8 0) (.string ⟨#[]⟩) (.bool false) (.slice none 0 0) (.string ⟨#[]⟩) (.string ⟨#[]⟩) (.bool false) (.slice none 0 0) rfl
   refine bodyPost_ret (cU rfl _ _ w.heap.size 35 #[(.int .u8 0),(.string ⟨#[]⟩),(.bool false),(.slice none 0 0),(.string ⟨#[]⟩),(.string ⟨#[]⟩),(.bool false),(.slice none 0 0)] (0,0) _ rfl q1 Tryz.underlying35 rfl av) rfl ?_
   exact ⟨_,_,rfl,Kd.eX _ _ _ _ _,Kd.eX _ _ _ _ _,q2⟩
  |false=>
   simp only [Bool.false_eq_true,if_false] at h
   simp only [ak.z,ak.w,ak.p,Option.some.injEq,Prod.mk.injEq] at h
   obtain ⟨rfl,rfl,rfl,rfl,rfl,rfl,rfl,rfl,rfl⟩:=h
   go_enter Tryz.func35,Tryz.ntmps35
   go_wp2_with (first
    |(go_at_call 91;refine (strings_Cut.calls a0 ⟨#[32]⟩ t1 t2 false _ (HG.out.below (aG (Below.refl _ _) _)) pS.out).mono ?_;rintro e w1 ⟨rfl,n,rfl⟩)
    |(go_at_call 93;refine (cu.calls t1 g _ qu.out).mono ?_;rintro e w2 ⟨rfl,hb⟩;have iE:=Lib.hid (cC hb).1;have pQ:=Lib.hid (cC hb).2;clear hb)
    |(go_at_call 92;refine (bV.calls g 11 _ (HG.out.below iE.out) uu.out).mono ?_;rintro e w3 ⟨rfl,hb⟩;have iz:=Lib.hid (PS.init (bR iE.out iE.out.size hb) (aX pQ.out hb) 11);obtain ⟨jt,ju,jv,jw,jx,jy,jz,jA,jB,jC,jD,jE,jF,jG,jH,jI⟩:=iz.out.jf;clear hb))
   obtain ⟨q1,q2,q3,q4⟩:=PS.done (W1:=_) iz.out (.int .u8 11) (.string ⟨#[]⟩) (.bool false) (.slice none 0 0) (.string ⟨#[]⟩) (.string ⟨#[]⟩) (.bool false) (.slice none 0 0) rfl
   refine bodyPost_ret (cU rfl _ _ w.heap.size 35 #[(.int .u8 11),(.string ⟨#[]⟩),(.bool false),(.slice none 0 0),(.string ⟨#[]⟩),(.string ⟨#[]⟩),(.bool false),(.slice none 0 0)] (0,0) _ rfl q1 Tryz.underlying35 rfl av) rfl ?_
   exact ⟨_,_,rfl,Kd.eX _ _ _ _ _,Kd.eX _ _ _ _ _,q2⟩
end Go.Proofs.YtokpnfljjjjikaaGreatDoor.nK
