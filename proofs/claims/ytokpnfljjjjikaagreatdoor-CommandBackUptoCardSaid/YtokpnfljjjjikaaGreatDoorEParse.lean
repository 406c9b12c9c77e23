import Derived.Test.YtokpnfljjjjikaaGreatDoorZo
import Derived.Test.YtokpnfljjjjikaaGreatDoorEPathed
import Derived.Test.YtokpnfljjjjikaaGreatDoorQCbx4
namespace Go.Proofs.YtokpnfljjjjikaaGreatDoor.nX
open Go.RowKit Go.Proofs.aj.bW Go.Proofs.aj.fW Go.Proofs.aj.dz
set_option linter.unusedSimpArgs false
abbrev BQ:=Int×ByteArray×Bool×List ByteArray×ByteArray×ByteArray×Bool×List gP×Int
def ak.z (e:Int):Option BQ:=some (0,⟨#[]⟩,false,[],⟨#[]⟩,⟨#[]⟩,false,[],e)
def ak.w (v:Int) (a:ByteArray):Option BQ:=some (v,a,false,[],⟨#[]⟩,⟨#[]⟩,false,[],0)
def ak.p (v:Int) (p:Bool×Bool×List ByteArray×ByteArray×ByteArray×Bool×List gP):Option BQ:=some (v,⟨#[]⟩,p.2.1,p.2.2.1,p.2.2.2.1,p.2.2.2.2.1,p.2.2.2.2.2.1,p.2.2.2.2.2.2,0)
def ak.Mm (k:Nat) (rest:ByteArray):Option BQ:=(gU.f rest).bind fun a=>(fk.f k rest).bind fun d=>if d=true then ak.w 1 a else ak.z 161
def ak.J8 (k:Nat) (rest:ByteArray):Option BQ:=(gU.f rest).bind fun a=>(fk.f k rest).bind fun d=>if d=true then ak.w 2 a else (gD.f k rest).bind fun l=>if l=true then ak.w 2 a else ak.z 161
def ak.Gs (k:Nat) (rest:ByteArray):Option BQ:=(eJ.f k rest ⟨#[70,82,79,77,58]⟩).bind fun p=>if p.1=true then (if p.2.1=true then ak.p 3 p else if p.2.2.2.2.1.toList.isEmpty=true then ak.z 161 else ak.p 3 p) else ak.z 161
def ak.Gt (k:Nat) (rest:ByteArray):Option BQ:=(eJ.f k rest ⟨#[84,79,58]⟩).bind fun p=>if p.1=true then (if p.2.1=true then ak.z 161 else ak.p 4 p) else ak.z 161
def ak.free (v:Int) (rest:ByteArray):Option BQ:=(gY.f rest).bind fun b=>if b=true then ak.w v rest else ak.z 161
def ak.v (k:Nat) (v:Int) (rest:ByteArray) (more:Bool):Option BQ:=
 if v=0 then ak.z 160 else if v=1 then ak.Mm k rest else if v=2 then ak.J8 k rest else if v=3 then ak.Gs k rest else if v=4 then ak.Gt k rest
 else if v=7∨v=8 then ak.free v rest else if v=9∨v=10 then (if more=true then ak.free v rest else ak.w v ⟨#[]⟩)
 else (if more=true then ak.z 161 else ak.w v ⟨#[]⟩)
def ak.f (k:Nat) (s:ByteArray):Option BQ:=
 if (510:Int) < (s.size:Int) then ak.z 3 else
 (strings_Cut.f s ⟨#[32]⟩).bind fun t=>(cB.f t.1).bind fun g=>(cE.f g).bind fun v=>ak.v k v t.2.1 t.2.2
theorem ak.ab9:∀ k v r m,cR (ak.v k v r m) (ak.v (k + 1) v r m):=by
 intro k v r m
 unfold ak.v ak.Mm ak.J8 ak.Gs ak.Gt
 repeat' first
  |with_reducible exact fk.mono _ _
  |with_reducible exact gD.mono _ _
  |with_reducible exact eJ.mono _ _ _
  |with_reducible exact cR.refl _
  |with_reducible refine cR.ite ?_ ?_
  |with_reducible refine cR.bind ?_ (fun _ =>?_)
theorem ak.mono:∀ s k,cR (ak.f k s) (ak.f (k + 1) s):=by
 intro s k
 unfold ak.f
 exact cR.ite (cR.refl _) (cR.bind (cR.refl _) fun _ =>cR.bind (cR.refl _) fun _ =>cR.bind (cR.refl _) fun _ =>ak.ab9 _ _ _ _)
theorem GY (s:ByteArray):∀ (l:List ByteArray) (i:Nat),SS s l i=0∨(0 < SS s l i∧(i:Int)≤SS s l i∧SS s l i < (i:Int) + (l.length:Int))
 | [],_ => .inl rfl
 |x :: l,i=>by
  unfold SS
  split
  ·right;simp;omega
  ·rcases GY s l (i + 1) with h|h
   ·exact .inl h
   ·right;simp;omega
theorem Fq {s:ByteArray} {v:Int} (h:cE.f s=some v):v=0∨v=1∨v=2∨v=3∨v=4∨v=5∨v=6∨v=7∨v=8∨v=9∨v=10∨v=11:=by
 have h1:=Option.some.inj h
 have h2:=GY s kU 0
 rw [h1,show kU.length=12 from rfl] at h2
 omega
structure PS (w W:World) (gc:Nat) (v:Int) (a:ByteArray) (n:Bool) (vr:Value) (l d:ByteArray) (t:Bool) (vp:Value):Prop where
 bl:Below w.heap.size w W
 hr:W.heap[w.heap.size]? =some (.cells #[.int .u8 0,.string ⟨#[]⟩,.bool false,.slice none 0 0,.string ⟨#[]⟩,.string ⟨#[]⟩,.bool false,.slice none 0 0] 35 (0,0))
 hc:W.heap[gc]? =some (.cells (Bb v a n vr l d t vp) 35 (0,0))
 ge:w.heap.size < gc
section
variable {w W W1:World} {gc:Nat} {v:Int} {a:ByteArray} {n:Bool} {vr:Value} {l d:ByteArray} {t:Bool} {vp:Value}
theorem PS.init (h1:Below w.heap.size w W) (h2:W.heap[w.heap.size]? =some (.cells #[.int .u8 0,.string ⟨#[]⟩,.bool false,.slice none 0 0,.string ⟨#[]⟩,.string ⟨#[]⟩,.bool false,.slice none 0 0] 35 (0,0))) (v:Int):PS w (W.alloc (.cells #[.int .u8 v,.string ⟨#[]⟩,.bool false,.slice none 0 0,.string ⟨#[]⟩,.string ⟨#[]⟩,.bool false,.slice none 0 0] 35)) W.heap.size v ⟨#[]⟩ false (.slice none 0 0) ⟨#[]⟩ ⟨#[]⟩ false (.slice none 0 0):=
 ⟨az h1 _,aU h2 _,heap_alloc_new W _,jV h2⟩
theorem PS.below (H:PS w W gc v a n vr l d t vp) (hb:Below W.heap.size W W1):PS w W1 gc v a n vr l d t vp:=
 ⟨bq H.bl H.bl.size hb,(hb.block _ (jV H.hr)).trans H.hr,(hb.block _ (jV H.hc)).trans H.hc,H.ge⟩
theorem PS.arg (H:PS w W gc v a n vr l d t vp) (a1:ByteArray):PS w (W.setCell ⟨gc,1,none⟩ (.string a1)) gc v a1 n vr l d t vp:=
 ⟨bp H.bl (Nat.le_of_lt H.ge),gB H.hr (Nat.ne_of_lt H.ge) _,cv (cs:=#[.int .u8 v,.string a,.bool n,vr,.string l,.string d,.bool t,vp]) H.hc 1 _ rfl,H.ge⟩
theorem PS.jm (H:PS w W gc v a n vr l d t vp):W.cell? ⟨w.heap.size,0,none⟩=some (.int .u8 0)∧W.cell? ⟨w.heap.size,1,none⟩=some (.string ⟨#[]⟩)∧W.cell? ⟨w.heap.size,2,none⟩=some (.bool false)∧W.cell? ⟨w.heap.size,3,none⟩=some (.slice none 0 0)∧W.cell? ⟨w.heap.size,4,none⟩=some (.string ⟨#[]⟩)∧W.cell? ⟨w.heap.size,5,none⟩=some (.string ⟨#[]⟩)∧W.cell? ⟨w.heap.size,6,none⟩=some (.bool false)∧W.cell? ⟨w.heap.size,7,none⟩=some (.slice none 0 0)∧W.frozen? ⟨w.heap.size,0,none⟩=false∧W.frozen? ⟨w.heap.size,1,none⟩=false∧W.frozen? ⟨w.heap.size,2,none⟩=false∧W.frozen? ⟨w.heap.size,3,none⟩=false∧W.frozen? ⟨w.heap.size,4,none⟩=false∧W.frozen? ⟨w.heap.size,5,none⟩=false∧W.frozen? ⟨w.heap.size,6,none⟩=false∧W.frozen? ⟨w.heap.size,7,none⟩=false:=
 ⟨(af H.hr 0).trans rfl,(af H.hr 1).trans rfl,(af H.hr 2).trans rfl,(af H.hr 3).trans rfl,(af H.hr 4).trans rfl,(af H.hr 5).trans rfl,(af H.hr 6).trans rfl,(af H.hr 7).trans rfl,aa H.hr 0,aa H.hr 1,aa H.hr 2,aa H.hr 3,aa H.hr 4,aa H.hr 5,aa H.hr 6,aa H.hr 7⟩
theorem PS.facts (H:PS w W gc v a n vr l d t vp):W.cell? ⟨w.heap.size,0,none⟩=some (.int .u8 0)∧W.cell? ⟨w.heap.size,1,none⟩=some (.string ⟨#[]⟩)∧W.cell? ⟨w.heap.size,2,none⟩=some (.bool false)∧W.cell? ⟨w.heap.size,3,none⟩=some (.slice none 0 0)∧W.cell? ⟨w.heap.size,4,none⟩=some (.string ⟨#[]⟩)∧W.cell? ⟨w.heap.size,5,none⟩=some (.string ⟨#[]⟩)∧W.cell? ⟨w.heap.size,6,none⟩=some (.bool false)∧W.cell? ⟨w.heap.size,7,none⟩=some (.slice none 0 0)∧W.frozen? ⟨w.heap.size,0,none⟩=false∧W.frozen? ⟨w.heap.size,1,none⟩=false∧W.frozen? ⟨w.heap.size,2,none⟩=false∧W.frozen? ⟨w.heap.size,3,none⟩=false∧W.frozen? ⟨w.heap.size,4,none⟩=false∧W.frozen? ⟨w.heap.size,5,none⟩=false∧W.frozen? ⟨w.heap.size,6,none⟩=false∧W.frozen? ⟨w.heap.size,7,none⟩=false∧W.cell? ⟨gc,0,none⟩=some (.int .u8 v)∧W.cell? ⟨gc,1,none⟩=some (.string a)∧W.cell? ⟨gc,2,none⟩=some (.bool n)∧W.cell? ⟨gc,3,none⟩=some (vr)∧W.cell? ⟨gc,4,none⟩=some (.string l)∧W.cell? ⟨gc,5,none⟩=some (.string d)∧W.cell? ⟨gc,6,none⟩=some (.bool t)∧W.cell? ⟨gc,7,none⟩=some (vp)∧W.frozen? ⟨gc,1,none⟩=false:=
 ⟨(af H.hr 0).trans rfl,(af H.hr 1).trans rfl,(af H.hr 2).trans rfl,(af H.hr 3).trans rfl,(af H.hr 4).trans rfl,(af H.hr 5).trans rfl,(af H.hr 6).trans rfl,(af H.hr 7).trans rfl,aa H.hr 0,aa H.hr 1,aa H.hr 2,aa H.hr 3,aa H.hr 4,aa H.hr 5,aa H.hr 6,aa H.hr 7,(af H.hc 0).trans rfl,(af H.hc 1).trans rfl,(af H.hc 2).trans rfl,(af H.hc 3).trans rfl,(af H.hc 4).trans rfl,(af H.hc 5).trans rfl,(af H.hc 6).trans rfl,(af H.hc 7).trans rfl,aa H.hc 1⟩
theorem PS.done (H:PS w W gc v a n vr l d t vp) (x0 x1 x2 x3 x4 x5 x6 x7:Value) (hW:W1=(((((((W.setCell ⟨w.heap.size,0,none⟩ x0).setCell ⟨w.heap.size,1,none⟩ x1).setCell ⟨w.heap.size,2,none⟩ x2).setCell ⟨w.heap.size,3,none⟩ x3).setCell ⟨w.heap.size,4,none⟩ x4).setCell ⟨w.heap.size,5,none⟩ x5).setCell ⟨w.heap.size,6,none⟩ x6).setCell ⟨w.heap.size,7,none⟩ x7):
 W1.heap[w.heap.size]? =some (.cells #[x0,x1,x2,x3,x4,x5,x6,x7] 35 (0,0))∧Below w.heap.size w W1∧
 (∀ (b:Nat) (v:Value) (xs:List ByteArray),Kd.R Kd.string 9 W b (fun _ =>True) v xs→Kd.R Kd.string 9 W1 b (fun _ =>True) v xs)∧
 (∀ (b:Nat) (v:Value) (xs:List gP),Kd.R zF 58 W b (fun _ =>True) v xs→Kd.R zF 58 W1 b (fun _ =>True) v xs):=by
 subst hW
 have hg:=Nat.le_refl w.heap.size
 refine ⟨?_,?_,?_,?_⟩
 ·refine cv (cs:=#[x0,x1,x2,x3,x4,x5,x6,.slice none 0 0]) ?_ 7 _ rfl
  refine cv (cs:=#[x0,x1,x2,x3,x4,x5,.bool false,.slice none 0 0]) ?_ 6 _ rfl
  refine cv (cs:=#[x0,x1,x2,x3,x4,.string ⟨#[]⟩,.bool false,.slice none 0 0]) ?_ 5 _ rfl
  refine cv (cs:=#[x0,x1,x2,x3,.string ⟨#[]⟩,.string ⟨#[]⟩,.bool false,.slice none 0 0]) ?_ 4 _ rfl
  refine cv (cs:=#[x0,x1,x2,.slice none 0 0,.string ⟨#[]⟩,.string ⟨#[]⟩,.bool false,.slice none 0 0]) ?_ 3 _ rfl
  refine cv (cs:=#[x0,x1,.bool false,.slice none 0 0,.string ⟨#[]⟩,.string ⟨#[]⟩,.bool false,.slice none 0 0]) ?_ 2 _ rfl
  refine cv (cs:=#[x0,.string ⟨#[]⟩,.bool false,.slice none 0 0,.string ⟨#[]⟩,.string ⟨#[]⟩,.bool false,.slice none 0 0]) ?_ 1 _ rfl
  exact cv H.hr 0 _ rfl
 ·exact bp (bp (bp (bp (bp (bp (bp (bp H.bl hg) hg) hg) hg) hg) hg) hg) hg
 ·intro b v xs h
  have h1:=Kd.j4 h H.hr bR
  exact Kd.gi (Kd.cH (Kd.cH (Kd.cH (Kd.cH (Kd.cH (Kd.cH (Kd.cH (Kd.cH h1 (fun _ h=>h.2) _) (fun _ h=>h.2) _) (fun _ h=>h.2) _) (fun _ h=>h.2) _) (fun _ h=>h.2) _) (fun _ h=>h.2) _) (fun _ h=>h.2) _) (fun _ h=>h.2) _) (fun _ _ =>trivial)
 ·intro b v xs h
  have h1:=Kd.j4 h H.hr bR
  exact Kd.gi (Kd.cH (Kd.cH (Kd.cH (Kd.cH (Kd.cH (Kd.cH (Kd.cH (Kd.cH h1 (fun _ h=>h.2) _) (fun _ h=>h.2) _) (fun _ h=>h.2) _) (fun _ h=>h.2) _) (fun _ h=>h.2) _) (fun _ h=>h.2) _) (fun _ h=>h.2) _) (fun _ h=>h.2) _) (fun _ _ =>trivial)
end
set_option maxRecDepth 100000 in
set_option maxHeartbeats 8000000 in
theorem ak.calls (k:Nat) (a0:ByteArray) (r1:Int) (r2:ByteArray) (r3:Bool) (r4:List ByteArray) (r5 r6:ByteArray) (r7:Bool) (r8:List gP) (r9:Int) (w:World) (hG:aT w) (h:ak.f k a0=some (r1,r2,r3,r4,r5,r6,r7,r8,r9)):
 Calls Tryz.prog 35 #[.string a0] w fun e w'=>∃ Rs v2_:Value,e= .returned (.tuple #[.agg #[.int .u8 r1,.string r2,.bool r3,Rs,.string r5,.string r6,.bool r7,v2_],.int .i64 r9])∧Kd.R Kd.string 9 w' w.heap.size (fun _ =>True) Rs r4∧Kd.R zF 58 w' w.heap.size (fun _ =>True) v2_ r8∧Below w.heap.size w w':=by
 unfold ak.f at h
 have HG:=Lib.hid hG
 clear hG
 have hu:=Tryz.underlying35
 by_cases hlen:(510:Int) < (a0.size:Int)
 ·rw [if_pos hlen] at h
  simp only [ak.z,Option.some.injEq,Prod.mk.injEq] at h
  obtain ⟨rfl,rfl,rfl,rfl,rfl,rfl,rfl,rfl,rfl⟩:=h
  have e1:=decide_eq_true hlen
  go_enter Tryz.func35,Tryz.ntmps35
  go_wp2
  refine bodyPost_ret (dA rfl _ _ w.heap.size 35 #[.int .u8 0,.string ⟨#[]⟩,.bool false,.slice none 0 0,.string ⟨#[]⟩,.string ⟨#[]⟩,.bool false,.slice none 0 0] (0,0) _ rfl (heap_alloc_new w _) Tryz.underlying35 rfl au) rfl ?_
  exact ⟨_,_,rfl,Kd.fB _ _ _ _ _,Kd.fB _ _ _ _ _,az (Below.refl _ _) _⟩
 rw [if_neg hlen] at h
 have e1:=decide_eq_false hlen
 clear hlen
 obtain ⟨⟨t1,t2,t3⟩,A1,h⟩:=Option.bind_eq_some_iff.mp h
 obtain ⟨g,A2,h⟩:=Option.bind_eq_some_iff.mp h
 obtain ⟨v,A3,h⟩:=Option.bind_eq_some_iff.mp h
 dsimp only at A2 h
 have qd:=Lib.hid A1
 have qG:=Lib.hid A2
 have uv:=Lib.hid A3
 clear A1 A2
 have hvr:=Fq A3
 clear A3
 rcases hvr with rfl|rfl|rfl|rfl|rfl|rfl|rfl|rfl|rfl|rfl|rfl|rfl
 ·replace h:ak.z 160=_ :=(show ak.v k 0 t2 t3=ak.z 160 from by unfold ak.v;simp).symm.trans h
  simp only [ak.z,ak.w,ak.p,Option.some.injEq,Prod.mk.injEq] at h
  obtain ⟨rfl,rfl,rfl,rfl,rfl,rfl,rfl,rfl,rfl⟩:=h
  go_enter Tryz.func35,Tryz.ntmps35
  go_wp2_with (first
   |(go_at_call 91;refine (strings_Cut.calls a0 ⟨#[32]⟩ t1 t2 t3 _ (HG.out.below (az (Below.refl _ _) _)) qd.out).mono ?_;rintro e w1 ⟨rfl,n,rfl⟩)
   |(go_at_call 93;refine (cB.calls t1 g _ qG.out).mono ?_;rintro e w2 ⟨rfl,hb⟩;have h1:=aB (az (Below.refl w.heap.size w) (.cells #[.int .u8 0,.string ⟨#[]⟩,.bool false,.slice none 0 0,.string ⟨#[]⟩,.string ⟨#[]⟩,.bool false,.slice none 0 0] 35)) n;have iQ:=Lib.hid (bq h1 h1.size hb);have qb:=Lib.hid (aJ (aM (heap_alloc_new w (.cells #[.int .u8 0,.string ⟨#[]⟩,.bool false,.slice none 0 0,.string ⟨#[]⟩,.string ⟨#[]⟩,.bool false,.slice none 0 0] 35)) n) hb);clear hb h1)
   |(go_at_call 92;refine (cE.calls g 0 _ (HG.out.below iQ.out) uv.out).mono ?_;rintro e w3 ⟨rfl,hb⟩;have iN:=Lib.hid (PS.init (bq iQ.out iQ.out.size hb) (aJ qb.out hb) 0);obtain ⟨jA,jB,jC,jD,jE,jF,jG,jH,jI,jJ,jK,jL,jM,jN,jO,jP⟩:=iN.out.jm;clear hb))
  obtain ⟨q1,q2,q3,q4⟩:=PS.done (W1:=_) iN.out (.int .u8 0) (.string ⟨#[]⟩) (.bool false) (.slice none 0 0) (.string ⟨#[]⟩) (.string ⟨#[]⟩) (.bool false) (.slice none 0 0) rfl
  refine bodyPost_ret (dA rfl _ _ w.heap.size 35 #[(.int .u8 0),(.string ⟨#[]⟩),(.bool false),(.slice none 0 0),(.string ⟨#[]⟩),(.string ⟨#[]⟩),(.bool false),(.slice none 0 0)] (0,0) _ rfl q1 Tryz.underlying35 rfl au) rfl ?_
  exact ⟨_,_,rfl,Kd.fB _ _ _ _ _,Kd.fB _ _ _ _ _,q2⟩
 ·replace h:ak.Mm k t2=_ :=(show ak.v k 1 t2 t3=ak.Mm k t2 from by unfold ak.v;simp).symm.trans h
  unfold ak.Mm at h
  obtain ⟨a,B1,h⟩:=Option.bind_eq_some_iff.mp h
  try dsimp only at h
  have xh:=Lib.hid B1
  clear B1
  obtain ⟨d,B2,h⟩:=Option.bind_eq_some_iff.mp h
  try dsimp only at h
  have HB6:=Lib.hid B2
  clear B2
  cases d with
  |true=>
   simp only [if_true] at h
   simp only [ak.z,ak.w,ak.p,Option.some.injEq,Prod.mk.injEq] at h
   obtain ⟨rfl,rfl,rfl,rfl,rfl,rfl,rfl,rfl,rfl⟩:=h
   go_enter Tryz.func35,Tryz.ntmps35
   go_wp2_with (first
    |(go_at_call 91;refine (strings_Cut.calls a0 ⟨#[32]⟩ t1 t2 t3 _ (HG.out.below (az (Below.refl _ _) _)) qd.out).mono ?_;rintro e w1 ⟨rfl,n,rfl⟩)
    |(go_at_call 93;refine (cB.calls t1 g _ qG.out).mono ?_;rintro e w2 ⟨rfl,hb⟩;have h1:=aB (az (Below.refl w.heap.size w) (.cells #[.int .u8 0,.string ⟨#[]⟩,.bool false,.slice none 0 0,.string ⟨#[]⟩,.string ⟨#[]⟩,.bool false,.slice none 0 0] 35)) n;have iQ:=Lib.hid (bq h1 h1.size hb);have qb:=Lib.hid (aJ (aM (heap_alloc_new w (.cells #[.int .u8 0,.string ⟨#[]⟩,.bool false,.slice none 0 0,.string ⟨#[]⟩,.string ⟨#[]⟩,.bool false,.slice none 0 0] 35)) n) hb);clear hb h1)
    |(go_at_call 92;refine (cE.calls g 1 _ (HG.out.below iQ.out) uv.out).mono ?_;rintro e w3 ⟨rfl,hb⟩;have iN:=Lib.hid (PS.init (bq iQ.out iQ.out.size hb) (aJ qb.out hb) 1);obtain ⟨jA,jB,jC,jD,jE,jF,jG,jH,jI,jJ,jK,jL,jM,jN,jO,jP⟩:=iN.out.jm;clear hb)
    |(go_at_call 94;refine (gU.calls t2 a _ xh.out).mono ?_;rintro e w5 ⟨rfl,hb⟩;have nZ:=Lib.hid ((iN.out).below hb);obtain ⟨mh,mj,mo,mq,mz,mA,mB,mC,mD,mE,mF,mG,mH,mI,mJ,mK,mL,mM,mN,mO,mP,mQ,mR,mS,mU⟩:=nZ.out.facts;clear hb)
    |(go_at_call 25;refine (fk.calls k t2 true _ (HG.out.below (nZ.out.arg a).bl) HB6.out).mono ?_;rintro e w6 ⟨rfl,hb⟩;have NA:=Lib.hid ((nZ.out.arg a).below hb);obtain ⟨J9,Ka,Kb,Ke,Kf,Kg,Kh,Ki,Kj,Kk,Kl,Km,Kn,Ko,Kp,Kq,Kr,Ks,Kt,Ku,Kv,Kw,Ky,Kz,KA⟩:=NA.out.facts;clear hb))
   obtain ⟨q1,q2,q3,q4⟩:=PS.done (W1:=_) NA.out (.int .u8 1) (.string a) (.bool false) (.slice none 0 0) (.string ⟨#[]⟩) (.string ⟨#[]⟩) (.bool false) (.slice none 0 0) rfl
   refine bodyPost_ret (dA rfl _ _ w.heap.size 35 #[(.int .u8 1),(.string a),(.bool false),(.slice none 0 0),(.string ⟨#[]⟩),(.string ⟨#[]⟩),(.bool false),(.slice none 0 0)] (0,0) _ rfl q1 Tryz.underlying35 rfl au) rfl ?_
   exact ⟨_,_,rfl,Kd.fB _ _ _ _ _,Kd.fB _ _ _ _ _,q2⟩
  |false=>
   simp only [Bool.false_eq_true,if_false] at h
   simp only [ak.z,ak.w,ak.p,Option.some.injEq,Prod.mk.injEq] at h
   obtain ⟨rfl,rfl,rfl,rfl,rfl,rfl,rfl,rfl,rfl⟩:=h
   go_enter Tryz.func35,Tryz.ntmps35
   go_wp2_with (first
    |(go_at_call 91;refine (strings_Cut.calls a0 ⟨#[32]⟩ t1 t2 t3 _ (HG.out.below (az (Below.refl _ _) _)) qd.out).mono ?_;rintro e w1 ⟨rfl,n,rfl⟩)
    |(go_at_call 93;refine (cB.calls t1 g _ qG.out).mono ?_;rintro e w2 ⟨rfl,hb⟩;have h1:=aB (az (Below.refl w.heap.size w) (.cells #[.int .u8 0,.string ⟨#[]⟩,.bool false,.slice none 0 0,.string ⟨#[]⟩,.string ⟨#[]⟩,.bool false,.slice none 0 0] 35)) n;have iQ:=Lib.hid (bq h1 h1.size hb);have qb:=Lib.hid (aJ (aM (heap_alloc_new w (.cells #[.int .u8 0,.string ⟨#[]⟩,.bool false,.slice none 0 0,.string ⟨#[]⟩,.string ⟨#[]⟩,.bool false,.slice none 0 0] 35)) n) hb);clear hb h1)
    |(go_at_call 92;refine (cE.calls g 1 _ (HG.out.below iQ.out) uv.out).mono ?_;rintro e w3 ⟨rfl,hb⟩;have iN:=Lib.hid (PS.init (bq iQ.out iQ.out.size hb) (aJ qb.out hb) 1);obtain ⟨jA,jB,jC,jD,jE,jF,jG,jH,jI,jJ,jK,jL,jM,jN,jO,jP⟩:=iN.out.jm;clear hb)
    |(go_at_call 94;refine (gU.calls t2 a _ xh.out).mono ?_;rintro e w5 ⟨rfl,hb⟩;have nZ:=Lib.hid ((iN.out).below hb);obtain ⟨mh,mj,mo,mq,mz,mA,mB,mC,mD,mE,mF,mG,mH,mI,mJ,mK,mL,mM,mN,mO,mP,mQ,mR,mS,mU⟩:=nZ.out.facts;clear hb)
    |(go_at_call 25;refine (fk.calls k t2 false _ (HG.out.below (nZ.out.arg a).bl) HB6.out).mono ?_;rintro e w6 ⟨rfl,hb⟩;have NA:=Lib.hid ((nZ.out.arg a).below hb);obtain ⟨J9,Ka,Kb,Ke,Kf,Kg,Kh,Ki,Kj,Kk,Kl,Km,Kn,Ko,Kp,Kq,Kr,Ks,Kt,Ku,Kv,Kw,Ky,Kz,KA⟩:=NA.out.facts;clear hb))
   obtain ⟨q1,q2,q3,q4⟩:=PS.done (W1:=_) NA.out (.int .u8 0) (.string ⟨#[]⟩) (.bool false) (.slice none 0 0) (.string ⟨#[]⟩) (.string ⟨#[]⟩) (.bool false) (.slice none 0 0) rfl
   refine bodyPost_ret (dA rfl _ _ w.heap.size 35 #[(.int .u8 0),(.string ⟨#[]⟩),(.bool false),(.slice none 0 0),(.string ⟨#[]⟩),(.string ⟨#[]⟩),(.bool false),(.slice none 0 0)] (0,0) _ rfl q1 Tryz.underlying35 rfl au) rfl ?_
   exact ⟨_,_,rfl,Kd.fB _ _ _ _ _,Kd.fB _ _ _ _ _,q2⟩
 ·replace h:ak.J8 k t2=_ :=(show ak.v k 2 t2 t3=ak.J8 k t2 from by unfold ak.v;simp).symm.trans h
  unfold ak.J8 at h
  obtain ⟨a,B1,h⟩:=Option.bind_eq_some_iff.mp h
  try dsimp only at h
  have xh:=Lib.hid B1
  clear B1
  obtain ⟨d,B2,h⟩:=Option.bind_eq_some_iff.mp h
  try dsimp only at h
  have HB6:=Lib.hid B2
  clear B2
  cases d with
  |true=>
   simp only [if_true] at h
   simp only [ak.z,ak.w,ak.p,Option.some.injEq,Prod.mk.injEq] at h
   obtain ⟨rfl,rfl,rfl,rfl,rfl,rfl,rfl,rfl,rfl⟩:=h
   go_enter Tryz.func35,Tryz.ntmps35
   go_wp2_with (first
    |(go_at_call 91;refine (strings_Cut.calls a0 ⟨#[32]⟩ t1 t2 t3 _ (HG.out.below (az (Below.refl _ _) _)) qd.out).mono ?_;rintro e w1 ⟨rfl,n,rfl⟩)
    |(go_at_call 93;refine (cB.calls t1 g _ qG.out).mono ?_;rintro e w2 ⟨rfl,hb⟩;have h1:=aB (az (Below.refl w.heap.size w) (.cells #[.int .u8 0,.string ⟨#[]⟩,.bool false,.slice none 0 0,.string ⟨#[]⟩,.string ⟨#[]⟩,.bool false,.slice none 0 0] 35)) n;have iQ:=Lib.hid (bq h1 h1.size hb);have qb:=Lib.hid (aJ (aM (heap_alloc_new w (.cells #[.int .u8 0,.string ⟨#[]⟩,.bool false,.slice none 0 0,.string ⟨#[]⟩,.string ⟨#[]⟩,.bool false,.slice none 0 0] 35)) n) hb);clear hb h1)
    |(go_at_call 92;refine (cE.calls g 2 _ (HG.out.below iQ.out) uv.out).mono ?_;rintro e w3 ⟨rfl,hb⟩;have iN:=Lib.hid (PS.init (bq iQ.out iQ.out.size hb) (aJ qb.out hb) 2);obtain ⟨jA,jB,jC,jD,jE,jF,jG,jH,jI,jJ,jK,jL,jM,jN,jO,jP⟩:=iN.out.jm;clear hb)
    |(go_at_call 94;refine (gU.calls t2 a _ xh.out).mono ?_;rintro e w5 ⟨rfl,hb⟩;have nZ:=Lib.hid ((iN.out).below hb);obtain ⟨mh,mj,mo,mq,mz,mA,mB,mC,mD,mE,mF,mG,mH,mI,mJ,mK,mL,mM,mN,mO,mP,mQ,mR,mS,mU⟩:=nZ.out.facts;clear hb)
    |(go_at_call 25;refine (fk.calls k t2 true _ (HG.out.below (nZ.out.arg a).bl) HB6.out).mono ?_;rintro e w6 ⟨rfl,hb⟩;have NA:=Lib.hid ((nZ.out.arg a).below hb);obtain ⟨J9,Ka,Kb,Ke,Kf,Kg,Kh,Ki,Kj,Kk,Kl,Km,Kn,Ko,Kp,Kq,Kr,Ks,Kt,Ku,Kv,Kw,Ky,Kz,KA⟩:=NA.out.facts;clear hb))
   obtain ⟨q1,q2,q3,q4⟩:=PS.done (W1:=_) NA.out (.int .u8 2) (.string a) (.bool false) (.slice none 0 0) (.string ⟨#[]⟩) (.string ⟨#[]⟩) (.bool false) (.slice none 0 0) rfl
   refine bodyPost_ret (dA rfl _ _ w.heap.size 35 #[(.int .u8 2),(.string a),(.bool false),(.slice none 0 0),(.string ⟨#[]⟩),(.string ⟨#[]⟩),(.bool false),(.slice none 0 0)] (0,0) _ rfl q1 Tryz.underlying35 rfl au) rfl ?_
   exact ⟨_,_,rfl,Kd.fB _ _ _ _ _,Kd.fB _ _ _ _ _,q2⟩
  |false=>
   simp only [Bool.false_eq_true,if_false] at h
   obtain ⟨l,B3,h⟩:=Option.bind_eq_some_iff.mp h
   try dsimp only at h
   have HB7:=Lib.hid B3
   clear B3
   cases l with
   |true=>
    simp only [if_true] at h
    simp only [ak.z,ak.w,ak.p,Option.some.injEq,Prod.mk.injEq] at h
    obtain ⟨rfl,rfl,rfl,rfl,rfl,rfl,rfl,rfl,rfl⟩:=h
    go_enter Tryz.func35,Tryz.ntmps35
    go_wp2_with (first
     |(go_at_call 91;refine (strings_Cut.calls a0 ⟨#[32]⟩ t1 t2 t3 _ (HG.out.below (az (Below.refl _ _) _)) qd.out).mono ?_;rintro e w1 ⟨rfl,n,rfl⟩)
     |(go_at_call 93;refine (cB.calls t1 g _ qG.out).mono ?_;rintro e w2 ⟨rfl,hb⟩;have h1:=aB (az (Below.refl w.heap.size w) (.cells #[.int .u8 0,.string ⟨#[]⟩,.bool false,.slice none 0 0,.string ⟨#[]⟩,.string ⟨#[]⟩,.bool false,.slice none 0 0] 35)) n;have iQ:=Lib.hid (bq h1 h1.size hb);have qb:=Lib.hid (aJ (aM (heap_alloc_new w (.cells #[.int .u8 0,.string ⟨#[]⟩,.bool false,.slice none 0 0,.string ⟨#[]⟩,.string ⟨#[]⟩,.bool false,.slice none 0 0] 35)) n) hb);clear hb h1)
     |(go_at_call 92;refine (cE.calls g 2 _ (HG.out.below iQ.out) uv.out).mono ?_;rintro e w3 ⟨rfl,hb⟩;have iN:=Lib.hid (PS.init (bq iQ.out iQ.out.size hb) (aJ qb.out hb) 2);obtain ⟨jA,jB,jC,jD,jE,jF,jG,jH,jI,jJ,jK,jL,jM,jN,jO,jP⟩:=iN.out.jm;clear hb)
     |(go_at_call 94;refine (gU.calls t2 a _ xh.out).mono ?_;rintro e w5 ⟨rfl,hb⟩;have nZ:=Lib.hid ((iN.out).below hb);obtain ⟨mh,mj,mo,mq,mz,mA,mB,mC,mD,mE,mF,mG,mH,mI,mJ,mK,mL,mM,mN,mO,mP,mQ,mR,mS,mU⟩:=nZ.out.facts;clear hb)
     |(go_at_call 25;refine (fk.calls k t2 false _ (HG.out.below (nZ.out.arg a).bl) HB6.out).mono ?_;rintro e w6 ⟨rfl,hb⟩;have NA:=Lib.hid ((nZ.out.arg a).below hb);obtain ⟨J9,Ka,Kb,Ke,Kf,Kg,Kh,Ki,Kj,Kk,Kl,Km,Kn,Ko,Kp,Kq,Kr,Ks,Kt,Ku,Kv,Kw,Ky,Kz,KA⟩:=NA.out.facts;clear hb)
     |(go_at_call 95;refine (gD.calls k t2 true _ (HG.out.below (NA.out).bl) HB7.out).mono ?_;rintro e w7 ⟨rfl,hb⟩;have HP7:=Lib.hid ((NA.out).below hb);obtain ⟨acd,ace,acf,acg,ach,aci,acj,ack,acm,acn,aco,acp,acq,acr,acs,acu,acv,acw,acy,acz,acA,acB,acC,acD,acE⟩:=HP7.out.facts;clear hb))
    obtain ⟨q1,q2,q3,q4⟩:=PS.done (W1:=_) HP7.out (.int .u8 2) (.string a) (.bool false) (.slice none 0 0) (.string ⟨#[]⟩) (.string ⟨#[]⟩) (.bool false) (.slice none 0 0) rfl
    refine bodyPost_ret (dA rfl _ _ w.heap.size 35 #[(.int .u8 2),(.string a),(.bool false),(.slice none 0 0),(.string ⟨#[]⟩),(.string ⟨#[]⟩),(.bool false),(.slice none 0 0)] (0,0) _ rfl q1 Tryz.underlying35 rfl au) rfl ?_
    exact ⟨_,_,rfl,Kd.fB _ _ _ _ _,Kd.fB _ _ _ _ _,q2⟩
   |false=>
    simp only [Bool.false_eq_true,if_false] at h
    simp only [ak.z,ak.w,ak.p,Option.some.injEq,Prod.mk.injEq] at h
    obtain ⟨rfl,rfl,rfl,rfl,rfl,rfl,rfl,rfl,rfl⟩:=h
    go_enter Tryz.func35,Tryz.ntmps35
    go_wp2_with (first
     |(go_at_call 91;refine (strings_Cut.calls a0 ⟨#[32]⟩ t1 t2 t3 _ (HG.out.below (az (Below.refl _ _) _)) qd.out).mono ?_;rintro e w1 ⟨rfl,n,rfl⟩)
     |(go_at_call 93;refine (cB.calls t1 g _ qG.out).mono ?_;rintro e w2 ⟨rfl,hb⟩;have h1:=aB (az (Below.refl w.heap.size w) (.cells #[.int .u8 0,.string ⟨#[]⟩,.bool false,.slice none 0 0,.string ⟨#[]⟩,.string ⟨#[]⟩,.bool false,.slice none 0 0] 35)) n;have iQ:=Lib.hid (bq h1 h1.size hb);have qb:=Lib.hid (aJ (aM (heap_alloc_new w (.cells #[.int .u8 0,.string ⟨#[]⟩,.bool false,.slice none 0 0,.string ⟨#[]⟩,.string ⟨#[]⟩,.bool false,.slice none 0 0] 35)) n) hb);clear hb h1)
     |(go_at_call 92;refine (cE.calls g 2 _ (HG.out.below iQ.out) uv.out).mono ?_;rintro e w3 ⟨rfl,hb⟩;have iN:=Lib.hid (PS.init (bq iQ.out iQ.out.size hb) (aJ qb.out hb) 2);obtain ⟨jA,jB,jC,jD,jE,jF,jG,jH,jI,jJ,jK,jL,jM,jN,jO,jP⟩:=iN.out.jm;clear hb)
     |(go_at_call 94;refine (gU.calls t2 a _ xh.out).mono ?_;rintro e w5 ⟨rfl,hb⟩;have nZ:=Lib.hid ((iN.out).below hb);obtain ⟨mh,mj,mo,mq,mz,mA,mB,mC,mD,mE,mF,mG,mH,mI,mJ,mK,mL,mM,mN,mO,mP,mQ,mR,mS,mU⟩:=nZ.out.facts;clear hb)
     |(go_at_call 25;refine (fk.calls k t2 false _ (HG.out.below (nZ.out.arg a).bl) HB6.out).mono ?_;rintro e w6 ⟨rfl,hb⟩;have NA:=Lib.hid ((nZ.out.arg a).below hb);obtain ⟨J9,Ka,Kb,Ke,Kf,Kg,Kh,Ki,Kj,Kk,Kl,Km,Kn,Ko,Kp,Kq,Kr,Ks,Kt,Ku,Kv,Kw,Ky,Kz,KA⟩:=NA.out.facts;clear hb)
     |(go_at_call 95;refine (gD.calls k t2 false _ (HG.out.below (NA.out).bl) HB7.out).mono ?_;rintro e w7 ⟨rfl,hb⟩;have HP7:=Lib.hid ((NA.out).below hb);obtain ⟨acd,ace,acf,acg,ach,aci,acj,ack,acm,acn,aco,acp,acq,acr,acs,acu,acv,acw,acy,acz,acA,acB,acC,acD,acE⟩:=HP7.out.facts;clear hb))
    obtain ⟨q1,q2,q3,q4⟩:=PS.done (W1:=_) HP7.out (.int .u8 0) (.string ⟨#[]⟩) (.bool false) (.slice none 0 0) (.string ⟨#[]⟩) (.string ⟨#[]⟩) (.bool false) (.slice none 0 0) rfl
    refine bodyPost_ret (dA rfl _ _ w.heap.size 35 #[(.int .u8 0),(.string ⟨#[]⟩),(.bool false),(.slice none 0 0),(.string ⟨#[]⟩),(.string ⟨#[]⟩),(.bool false),(.slice none 0 0)] (0,0) _ rfl q1 Tryz.underlying35 rfl au) rfl ?_
    exact ⟨_,_,rfl,Kd.fB _ _ _ _ _,Kd.fB _ _ _ _ _,q2⟩
 ·replace h:ak.Gs k t2=_ :=(show ak.v k 3 t2 t3=ak.Gs k t2 from by unfold ak.v;simp).symm.trans h
  unfold ak.Gs at h
  obtain ⟨⟨p0,p1,p2,p3,p4,p5,p6⟩,B1,h⟩:=Option.bind_eq_some_iff.mp h
  try dsimp only at h
  have xh:=Lib.hid B1
  clear B1
  cases p0 with
  |false=>
   simp only [Bool.false_eq_true,if_false] at h
   simp only [ak.z,ak.w,ak.p,Option.some.injEq,Prod.mk.injEq] at h
   obtain ⟨rfl,rfl,rfl,rfl,rfl,rfl,rfl,rfl,rfl⟩:=h
   go_enter Tryz.func35,Tryz.ntmps35
   go_wp2_with (first
    |(go_at_call 91;refine (strings_Cut.calls a0 ⟨#[32]⟩ t1 t2 t3 _ (HG.out.below (az (Below.refl _ _) _)) qd.out).mono ?_;rintro e w1 ⟨rfl,n,rfl⟩)
    |(go_at_call 93;refine (cB.calls t1 g _ qG.out).mono ?_;rintro e w2 ⟨rfl,hb⟩;have h1:=aB (az (Below.refl w.heap.size w) (.cells #[.int .u8 0,.string ⟨#[]⟩,.bool false,.slice none 0 0,.string ⟨#[]⟩,.string ⟨#[]⟩,.bool false,.slice none 0 0] 35)) n;have iQ:=Lib.hid (bq h1 h1.size hb);have qb:=Lib.hid (aJ (aM (heap_alloc_new w (.cells #[.int .u8 0,.string ⟨#[]⟩,.bool false,.slice none 0 0,.string ⟨#[]⟩,.string ⟨#[]⟩,.bool false,.slice none 0 0] 35)) n) hb);clear hb h1)
    |(go_at_call 92;refine (cE.calls g 3 _ (HG.out.below iQ.out) uv.out).mono ?_;rintro e w3 ⟨rfl,hb⟩;have iN:=Lib.hid (PS.init (bq iQ.out iQ.out.size hb) (aJ qb.out hb) 3);obtain ⟨jA,jB,jC,jD,jE,jF,jG,jH,jI,jJ,jK,jL,jM,jN,jO,jP⟩:=iN.out.jm;clear hb)
    |(go_at_call 96;refine (eJ.calls k w3.heap.size t2 ⟨#[70,82,79,77,58]⟩ 3 ⟨#[]⟩ false p1 p2 p3 p4 p5 p6 w _ iN.out.hc (Nat.le_of_lt iN.out.ge) iN.out.bl HG.out xh.out).mono ?_;rintro e w5 ⟨v1,v2,rfl,hq,pG,yQ,hb,hk⟩;obtain ⟨V1,c1,rfl⟩:=Kd.eG pG;obtain ⟨V2,c2,rfl⟩:=Kd.eG yQ;have VI:=Lib.hid pG;have T6:=Lib.hid yQ;have nZ:=Lib.hid (PS.mk hb (bA.blk hk iN.out.hr (Nat.ne_of_lt iN.out.ge) bn) hq iN.out.ge);obtain ⟨mh,mj,mo,mq,mz,mA,mB,mC,mD,mE,mF,mG,mH,mI,mJ,mK,mL,mM,mN,mO,mP,mQ,mR,mS,mU⟩:=nZ.out.facts;clear hq pG yQ hb hk))
   obtain ⟨q1,q2,q3,q4⟩:=PS.done (W1:=_) nZ.out (.int .u8 0) (.string ⟨#[]⟩) (.bool false) (.slice none 0 0) (.string ⟨#[]⟩) (.string ⟨#[]⟩) (.bool false) (.slice none 0 0) rfl
   refine bodyPost_ret (dA rfl _ _ w.heap.size 35 #[(.int .u8 0),(.string ⟨#[]⟩),(.bool false),(.slice none 0 0),(.string ⟨#[]⟩),(.string ⟨#[]⟩),(.bool false),(.slice none 0 0)] (0,0) _ rfl q1 Tryz.underlying35 rfl au) rfl ?_
   exact ⟨_,_,rfl,Kd.fB _ _ _ _ _,Kd.fB _ _ _ _ _,q2⟩
  |true=>
   simp only [if_true] at h
   cases p1 with
   |true=>
    simp only [if_true] at h
    simp only [ak.z,ak.w,ak.p,Option.some.injEq,Prod.mk.injEq] at h
    obtain ⟨rfl,rfl,rfl,rfl,rfl,rfl,rfl,rfl,rfl⟩:=h
    go_enter Tryz.func35,Tryz.ntmps35
    go_wp2_with (first
     |(go_at_call 91;refine (strings_Cut.calls a0 ⟨#[32]⟩ t1 t2 t3 _ (HG.out.below (az (Below.refl _ _) _)) qd.out).mono ?_;rintro e w1 ⟨rfl,n,rfl⟩)
     |(go_at_call 93;refine (cB.calls t1 g _ qG.out).mono ?_;rintro e w2 ⟨rfl,hb⟩;have h1:=aB (az (Below.refl w.heap.size w) (.cells #[.int .u8 0,.string ⟨#[]⟩,.bool false,.slice none 0 0,.string ⟨#[]⟩,.string ⟨#[]⟩,.bool false,.slice none 0 0] 35)) n;have iQ:=Lib.hid (bq h1 h1.size hb);have qb:=Lib.hid (aJ (aM (heap_alloc_new w (.cells #[.int .u8 0,.string ⟨#[]⟩,.bool false,.slice none 0 0,.string ⟨#[]⟩,.string ⟨#[]⟩,.bool false,.slice none 0 0] 35)) n) hb);clear hb h1)
     |(go_at_call 92;refine (cE.calls g 3 _ (HG.out.below iQ.out) uv.out).mono ?_;rintro e w3 ⟨rfl,hb⟩;have iN:=Lib.hid (PS.init (bq iQ.out iQ.out.size hb) (aJ qb.out hb) 3);obtain ⟨jA,jB,jC,jD,jE,jF,jG,jH,jI,jJ,jK,jL,jM,jN,jO,jP⟩:=iN.out.jm;clear hb)
     |(go_at_call 96;refine (eJ.calls k w3.heap.size t2 ⟨#[70,82,79,77,58]⟩ 3 ⟨#[]⟩ true true p2 p3 p4 p5 p6 w _ iN.out.hc (Nat.le_of_lt iN.out.ge) iN.out.bl HG.out xh.out).mono ?_;rintro e w5 ⟨v1,v2,rfl,hq,pG,yQ,hb,hk⟩;obtain ⟨V1,c1,rfl⟩:=Kd.eG pG;obtain ⟨V2,c2,rfl⟩:=Kd.eG yQ;have VI:=Lib.hid pG;have T6:=Lib.hid yQ;have nZ:=Lib.hid (PS.mk hb (bA.blk hk iN.out.hr (Nat.ne_of_lt iN.out.ge) bn) hq iN.out.ge);obtain ⟨mh,mj,mo,mq,mz,mA,mB,mC,mD,mE,mF,mG,mH,mI,mJ,mK,mL,mM,mN,mO,mP,mQ,mR,mS,mU⟩:=nZ.out.facts;clear hq pG yQ hb hk))
    obtain ⟨q1,q2,q3,q4⟩:=PS.done (W1:=_) nZ.out (.int .u8 3) (.string ⟨#[]⟩) (.bool true) (.slice V1 p2.length c1) (.string p3) (.string p4) (.bool p5) (.slice V2 p6.length c2) rfl
    refine bodyPost_ret (dA rfl _ _ w.heap.size 35 #[(.int .u8 3),(.string ⟨#[]⟩),(.bool true),(.slice V1 p2.length c1),(.string p3),(.string p4),(.bool p5),(.slice V2 p6.length c2)] (0,0) _ rfl q1 Tryz.underlying35 rfl au) rfl ?_
    exact ⟨_,_,rfl,q3 _ _ _ VI.out,q4 _ _ _ T6.out,q2⟩
   |false=>
    simp only [Bool.false_eq_true,if_false] at h
    cases hd:p4.toList.isEmpty with
    |true=>
     rw [hd] at h
     simp only [if_true] at h
     simp only [ak.z,ak.w,ak.p,Option.some.injEq,Prod.mk.injEq] at h
     obtain ⟨rfl,rfl,rfl,rfl,rfl,rfl,rfl,rfl,rfl⟩:=h
     go_enter Tryz.func35,Tryz.ntmps35
     go_wp2_with (first
      |(go_at_call 91;refine (strings_Cut.calls a0 ⟨#[32]⟩ t1 t2 t3 _ (HG.out.below (az (Below.refl _ _) _)) qd.out).mono ?_;rintro e w1 ⟨rfl,n,rfl⟩)
      |(go_at_call 93;refine (cB.calls t1 g _ qG.out).mono ?_;rintro e w2 ⟨rfl,hb⟩;have h1:=aB (az (Below.refl w.heap.size w) (.cells #[.int .u8 0,.string ⟨#[]⟩,.bool false,.slice none 0 0,.string ⟨#[]⟩,.string ⟨#[]⟩,.bool false,.slice none 0 0] 35)) n;have iQ:=Lib.hid (bq h1 h1.size hb);have qb:=Lib.hid (aJ (aM (heap_alloc_new w (.cells #[.int .u8 0,.string ⟨#[]⟩,.bool false,.slice none 0 0,.string ⟨#[]⟩,.string ⟨#[]⟩,.bool false,.slice none 0 0] 35)) n) hb);clear hb h1)
      |(go_at_call 92;refine (cE.calls g 3 _ (HG.out.below iQ.out) uv.out).mono ?_;rintro e w3 ⟨rfl,hb⟩;have iN:=Lib.hid (PS.init (bq iQ.out iQ.out.size hb) (aJ qb.out hb) 3);obtain ⟨jA,jB,jC,jD,jE,jF,jG,jH,jI,jJ,jK,jL,jM,jN,jO,jP⟩:=iN.out.jm;clear hb)
      |(go_at_call 96;refine (eJ.calls k w3.heap.size t2 ⟨#[70,82,79,77,58]⟩ 3 ⟨#[]⟩ true false p2 p3 p4 p5 p6 w _ iN.out.hc (Nat.le_of_lt iN.out.ge) iN.out.bl HG.out xh.out).mono ?_;rintro e w5 ⟨v1,v2,rfl,hq,pG,yQ,hb,hk⟩;obtain ⟨V1,c1,rfl⟩:=Kd.eG pG;obtain ⟨V2,c2,rfl⟩:=Kd.eG yQ;have VI:=Lib.hid pG;have T6:=Lib.hid yQ;have nZ:=Lib.hid (PS.mk hb (bA.blk hk iN.out.hr (Nat.ne_of_lt iN.out.ge) bn) hq iN.out.ge);obtain ⟨mh,mj,mo,mq,mz,mA,mB,mC,mD,mE,mF,mG,mH,mI,mJ,mK,mL,mM,mN,mO,mP,mQ,mR,mS,mU⟩:=nZ.out.facts;clear hq pG yQ hb hk))
     obtain ⟨q1,q2,q3,q4⟩:=PS.done (W1:=_) nZ.out (.int .u8 0) (.string ⟨#[]⟩) (.bool false) (.slice none 0 0) (.string ⟨#[]⟩) (.string ⟨#[]⟩) (.bool false) (.slice none 0 0) rfl
     refine bodyPost_ret (dA rfl _ _ w.heap.size 35 #[(.int .u8 0),(.string ⟨#[]⟩),(.bool false),(.slice none 0 0),(.string ⟨#[]⟩),(.string ⟨#[]⟩),(.bool false),(.slice none 0 0)] (0,0) _ rfl q1 Tryz.underlying35 rfl au) rfl ?_
     exact ⟨_,_,rfl,Kd.fB _ _ _ _ _,Kd.fB _ _ _ _ _,q2⟩
    |false=>
     rw [hd] at h
     simp only [Bool.false_eq_true,if_false] at h
     simp only [ak.z,ak.w,ak.p,Option.some.injEq,Prod.mk.injEq] at h
     obtain ⟨rfl,rfl,rfl,rfl,rfl,rfl,rfl,rfl,rfl⟩:=h
     go_enter Tryz.func35,Tryz.ntmps35
     go_wp2_with (first
      |(go_at_call 91;refine (strings_Cut.calls a0 ⟨#[32]⟩ t1 t2 t3 _ (HG.out.below (az (Below.refl _ _) _)) qd.out).mono ?_;rintro e w1 ⟨rfl,n,rfl⟩)
      |(go_at_call 93;refine (cB.calls t1 g _ qG.out).mono ?_;rintro e w2 ⟨rfl,hb⟩;have h1:=aB (az (Below.refl w.heap.size w) (.cells #[.int .u8 0,.string ⟨#[]⟩,.bool false,.slice none 0 0,.string ⟨#[]⟩,.string ⟨#[]⟩,.bool false,.slice none 0 0] 35)) n;have iQ:=Lib.hid (bq h1 h1.size hb);have qb:=Lib.hid (aJ (aM (heap_alloc_new w (.cells #[.int .u8 0,.string ⟨#[]⟩,.bool false,.slice none 0 0,.string ⟨#[]⟩,.string ⟨#[]⟩,.bool false,.slice none 0 0] 35)) n) hb);clear hb h1)
      |(go_at_call 92;refine (cE.calls g 3 _ (HG.out.below iQ.out) uv.out).mono ?_;rintro e w3 ⟨rfl,hb⟩;have iN:=Lib.hid (PS.init (bq iQ.out iQ.out.size hb) (aJ qb.out hb) 3);obtain ⟨jA,jB,jC,jD,jE,jF,jG,jH,jI,jJ,jK,jL,jM,jN,jO,jP⟩:=iN.out.jm;clear hb)
      |(go_at_call 96;refine (eJ.calls k w3.heap.size t2 ⟨#[70,82,79,77,58]⟩ 3 ⟨#[]⟩ true false p2 p3 p4 p5 p6 w _ iN.out.hc (Nat.le_of_lt iN.out.ge) iN.out.bl HG.out xh.out).mono ?_;rintro e w5 ⟨v1,v2,rfl,hq,pG,yQ,hb,hk⟩;obtain ⟨V1,c1,rfl⟩:=Kd.eG pG;obtain ⟨V2,c2,rfl⟩:=Kd.eG yQ;have VI:=Lib.hid pG;have T6:=Lib.hid yQ;have nZ:=Lib.hid (PS.mk hb (bA.blk hk iN.out.hr (Nat.ne_of_lt iN.out.ge) bn) hq iN.out.ge);obtain ⟨mh,mj,mo,mq,mz,mA,mB,mC,mD,mE,mF,mG,mH,mI,mJ,mK,mL,mM,mN,mO,mP,mQ,mR,mS,mU⟩:=nZ.out.facts;clear hq pG yQ hb hk))
     obtain ⟨q1,q2,q3,q4⟩:=PS.done (W1:=_) nZ.out (.int .u8 3) (.string ⟨#[]⟩) (.bool false) (.slice V1 p2.length c1) (.string p3) (.string p4) (.bool p5) (.slice V2 p6.length c2) rfl
     refine bodyPost_ret (dA rfl _ _ w.heap.size 35 #[(.int .u8 3),(.string ⟨#[]⟩),(.bool false),(.slice V1 p2.length c1),(.string p3),(.string p4),(.bool p5),(.slice V2 p6.length c2)] (0,0) _ rfl q1 Tryz.underlying35 rfl au) rfl ?_
     exact ⟨_,_,rfl,q3 _ _ _ VI.out,q4 _ _ _ T6.out,q2⟩
 ·replace h:ak.Gt k t2=_ :=(show ak.v k 4 t2 t3=ak.Gt k t2 from by unfold ak.v;simp).symm.trans h
  unfold ak.Gt at h
  obtain ⟨⟨p0,p1,p2,p3,p4,p5,p6⟩,B1,h⟩:=Option.bind_eq_some_iff.mp h
  try dsimp only at h
  have xh:=Lib.hid B1
  clear B1
  cases p0 with
  |false=>
   simp only [Bool.false_eq_true,if_false] at h
   simp only [ak.z,ak.w,ak.p,Option.some.injEq,Prod.mk.injEq] at h
   obtain ⟨rfl,rfl,rfl,rfl,rfl,rfl,rfl,rfl,rfl⟩:=h
   go_enter Tryz.func35,Tryz.ntmps35
   go_wp2_with (first
    |(go_at_call 91;refine (strings_Cut.calls a0 ⟨#[32]⟩ t1 t2 t3 _ (HG.out.below (az (Below.refl _ _) _)) qd.out).mono ?_;rintro e w1 ⟨rfl,n,rfl⟩)
    |(go_at_call 93;refine (cB.calls t1 g _ qG.out).mono ?_;rintro e w2 ⟨rfl,hb⟩;have h1:=aB (az (Below.refl w.heap.size w) (.cells #[.int .u8 0,.string ⟨#[]⟩,.bool false,.slice none 0 0,.string ⟨#[]⟩,.string ⟨#[]⟩,.bool false,.slice none 0 0] 35)) n;have iQ:=Lib.hid (bq h1 h1.size hb);have qb:=Lib.hid (aJ (aM (heap_alloc_new w (.cells #[.int .u8 0,.string ⟨#[]⟩,.bool false,.slice none 0 0,.string ⟨#[]⟩,.string ⟨#[]⟩,.bool false,.slice none 0 0] 35)) n) hb);clear hb h1)
    |(go_at_call 92;refine (cE.calls g 4 _ (HG.out.below iQ.out) uv.out).mono ?_;rintro e w3 ⟨rfl,hb⟩;have iN:=Lib.hid (PS.init (bq iQ.out iQ.out.size hb) (aJ qb.out hb) 4);obtain ⟨jA,jB,jC,jD,jE,jF,jG,jH,jI,jJ,jK,jL,jM,jN,jO,jP⟩:=iN.out.jm;clear hb)
    |(go_at_call 96;refine (eJ.calls k w3.heap.size t2 ⟨#[84,79,58]⟩ 4 ⟨#[]⟩ false p1 p2 p3 p4 p5 p6 w _ iN.out.hc (Nat.le_of_lt iN.out.ge) iN.out.bl HG.out xh.out).mono ?_;rintro e w5 ⟨v1,v2,rfl,hq,pG,yQ,hb,hk⟩;obtain ⟨V1,c1,rfl⟩:=Kd.eG pG;obtain ⟨V2,c2,rfl⟩:=Kd.eG yQ;have VI:=Lib.hid pG;have T6:=Lib.hid yQ;have nZ:=Lib.hid (PS.mk hb (bA.blk hk iN.out.hr (Nat.ne_of_lt iN.out.ge) bn) hq iN.out.ge);obtain ⟨mh,mj,mo,mq,mz,mA,mB,mC,mD,mE,mF,mG,mH,mI,mJ,mK,mL,mM,mN,mO,mP,mQ,mR,mS,mU⟩:=nZ.out.facts;clear hq pG yQ hb hk))
   obtain ⟨q1,q2,q3,q4⟩:=PS.done (W1:=_) nZ.out (.int .u8 0) (.string ⟨#[]⟩) (.bool false) (.slice none 0 0) (.string ⟨#[]⟩) (.string ⟨#[]⟩) (.bool false) (.slice none 0 0) rfl
   refine bodyPost_ret (dA rfl _ _ w.heap.size 35 #[(.int .u8 0),(.string ⟨#[]⟩),(.bool false),(.slice none 0 0),(.string ⟨#[]⟩),(.string ⟨#[]⟩),(.bool false),(.slice none 0 0)] (0,0) _ rfl q1 Tryz.underlying35 rfl au) rfl ?_
   exact ⟨_,_,rfl,Kd.fB _ _ _ _ _,Kd.fB _ _ _ _ _,q2⟩
  |true=>
   simp only [if_true] at h
   cases p1 with
   |true=>
    simp only [if_true] at h
    simp only [ak.z,ak.w,ak.p,Option.some.injEq,Prod.mk.injEq] at h
    obtain ⟨rfl,rfl,rfl,rfl,rfl,rfl,rfl,rfl,rfl⟩:=h
    go_enter Tryz.func35,Tryz.ntmps35
    go_wp2_with (first
     |(go_at_call 91;refine (strings_Cut.calls a0 ⟨#[32]⟩ t1 t2 t3 _ (HG.out.below (az (Below.refl _ _) _)) qd.out).mono ?_;rintro e w1 ⟨rfl,n,rfl⟩)
     |(go_at_call 93;refine (cB.calls t1 g _ qG.out).mono ?_;rintro e w2 ⟨rfl,hb⟩;have h1:=aB (az (Below.refl w.heap.size w) (.cells #[.int .u8 0,.string ⟨#[]⟩,.bool false,.slice none 0 0,.string ⟨#[]⟩,.string ⟨#[]⟩,.bool false,.slice none 0 0] 35)) n;have iQ:=Lib.hid (bq h1 h1.size hb);have qb:=Lib.hid (aJ (aM (heap_alloc_new w (.cells #[.int .u8 0,.string ⟨#[]⟩,.bool false,.slice none 0 0,.string ⟨#[]⟩,.string ⟨#[]⟩,.bool false,.slice none 0 0] 35)) n) hb);clear hb h1)
     |(go_at_call 92;refine (cE.calls g 4 _ (HG.out.below iQ.out) uv.out).mono ?_;rintro e w3 ⟨rfl,hb⟩;have iN:=Lib.hid (PS.init (bq iQ.out iQ.out.size hb) (aJ qb.out hb) 4);obtain ⟨jA,jB,jC,jD,jE,jF,jG,jH,jI,jJ,jK,jL,jM,jN,jO,jP⟩:=iN.out.jm;clear hb)
     |(go_at_call 96;refine (eJ.calls k w3.heap.size t2 ⟨#[84,79,58]⟩ 4 ⟨#[]⟩ true true p2 p3 p4 p5 p6 w _ iN.out.hc (Nat.le_of_lt iN.out.ge) iN.out.bl HG.out xh.out).mono ?_;rintro e w5 ⟨v1,v2,rfl,hq,pG,yQ,hb,hk⟩;obtain ⟨V1,c1,rfl⟩:=Kd.eG pG;obtain ⟨V2,c2,rfl⟩:=Kd.eG yQ;have VI:=Lib.hid pG;have T6:=Lib.hid yQ;have nZ:=Lib.hid (PS.mk hb (bA.blk hk iN.out.hr (Nat.ne_of_lt iN.out.ge) bn) hq iN.out.ge);obtain ⟨mh,mj,mo,mq,mz,mA,mB,mC,mD,mE,mF,mG,mH,mI,mJ,mK,mL,mM,mN,mO,mP,mQ,mR,mS,mU⟩:=nZ.out.facts;clear hq pG yQ hb hk))
    obtain ⟨q1,q2,q3,q4⟩:=PS.done (W1:=_) nZ.out (.int .u8 0) (.string ⟨#[]⟩) (.bool false) (.slice none 0 0) (.string ⟨#[]⟩) (.string ⟨#[]⟩) (.bool false) (.slice none 0 0) rfl
    refine bodyPost_ret (dA rfl _ _ w.heap.size 35 #[(.int .u8 0),(.string ⟨#[]⟩),(.bool false),(.slice none 0 0),(.string ⟨#[]⟩),(.string ⟨#[]⟩),(.bool false),(.slice none 0 0)] (0,0) _ rfl q1 Tryz.underlying35 rfl au) rfl ?_
    exact ⟨_,_,rfl,Kd.fB _ _ _ _ _,Kd.fB _ _ _ _ _,q2⟩
   |false=>
    simp only [Bool.false_eq_true,if_false] at h
    simp only [ak.z,ak.w,ak.p,Option.some.injEq,Prod.mk.injEq] at h
    obtain ⟨rfl,rfl,rfl,rfl,rfl,rfl,rfl,rfl,rfl⟩:=h
    go_enter Tryz.func35,Tryz.ntmps35
    go_wp2_with (first
     |(go_at_call 91;refine (strings_Cut.calls a0 ⟨#[32]⟩ t1 t2 t3 _ (HG.out.below (az (Below.refl _ _) _)) qd.out).mono ?_;rintro e w1 ⟨rfl,n,rfl⟩)
     |(go_at_call 93;refine (cB.calls t1 g _ qG.out).mono ?_;rintro e w2 ⟨rfl,hb⟩;have h1:=aB (az (Below.refl w.heap.size w) (.cells #[.int .u8 0,.string ⟨#[]⟩,.bool false,.slice none 0 0,.string ⟨#[]⟩,.string ⟨#[]⟩,.bool false,.slice none 0 0] 35)) n;have iQ:=Lib.hid (bq h1 h1.size hb);have qb:=Lib.hid (aJ (aM (heap_alloc_new w (.cells #[.int .u8 0,.string ⟨#[]⟩,.bool false,.slice none 0 0,.string ⟨#[]⟩,.string ⟨#[]⟩,.bool false,.slice none 0 0] 35)) n) hb);clear hb h1)
     |(go_at_call 92;refine (cE.calls g 4 _ (HG.out.below iQ.out) uv.out).mono ?_;rintro e w3 ⟨rfl,hb⟩;have iN:=Lib.hid (PS.init (bq iQ.out iQ.out.size hb) (aJ qb.out hb) 4);obtain ⟨jA,jB,jC,jD,jE,jF,jG,jH,jI,jJ,jK,jL,jM,jN,jO,jP⟩:=iN.out.jm;clear hb)
     |(go_at_call 96;refine (eJ.calls k w3.heap.size t2 ⟨#[84,79,58]⟩ 4 ⟨#[]⟩ true false p2 p3 p4 p5 p6 w _ iN.out.hc (Nat.le_of_lt iN.out.ge) iN.out.bl HG.out xh.out).mono ?_;rintro e w5 ⟨v1,v2,rfl,hq,pG,yQ,hb,hk⟩;obtain ⟨V1,c1,rfl⟩:=Kd.eG pG;obtain ⟨V2,c2,rfl⟩:=Kd.eG yQ;have VI:=Lib.hid pG;have T6:=Lib.hid yQ;have nZ:=Lib.hid (PS.mk hb (bA.blk hk iN.out.hr (Nat.ne_of_lt iN.out.ge) bn) hq iN.out.ge);obtain ⟨mh,mj,mo,mq,mz,mA,mB,mC,mD,mE,mF,mG,mH,mI,mJ,mK,mL,mM,mN,mO,mP,mQ,mR,mS,mU⟩:=nZ.out.facts;clear hq pG yQ hb hk))
    obtain ⟨q1,q2,q3,q4⟩:=PS.done (W1:=_) nZ.out (.int .u8 4) (.string ⟨#[]⟩) (.bool false) (.slice V1 p2.length c1) (.string p3) (.string p4) (.bool p5) (.slice V2 p6.length c2) rfl
    refine bodyPost_ret (dA rfl _ _ w.heap.size 35 #[(.int .u8 4),(.string ⟨#[]⟩),(.bool false),(.slice V1 p2.length c1),(.string p3),(.string p4),(.bool p5),(.slice V2 p6.length c2)] (0,0) _ rfl q1 Tryz.underlying35 rfl au) rfl ?_
    exact ⟨_,_,rfl,q3 _ _ _ VI.out,q4 _ _ _ T6.out,q2⟩
 ·replace h:(if t3=true then ak.z 161 else ak.w 5 ⟨#[]⟩)=_ :=(show ak.v k 5 t2 t3=_ from by unfold ak.v;simp).symm.trans h
  cases t3 with
  |true=>
   simp only [if_true] at h
   simp only [ak.z,ak.w,ak.p,Option.some.injEq,Prod.mk.injEq] at h
   obtain ⟨rfl,rfl,rfl,rfl,rfl,rfl,rfl,rfl,rfl⟩:=h
   go_enter Tryz.func35,Tryz.ntmps35
   go_wp2_with (first
    |(go_at_call 91;refine (strings_Cut.calls a0 ⟨#[32]⟩ t1 t2 true _ (HG.out.below (az (Below.refl _ _) _)) qd.out).mono ?_;rintro e w1 ⟨rfl,n,rfl⟩)
    |(go_at_call 93;refine (cB.calls t1 g _ qG.out).mono ?_;rintro e w2 ⟨rfl,hb⟩;have h1:=aB (az (Below.refl w.heap.size w) (.cells #[.int .u8 0,.string ⟨#[]⟩,.bool false,.slice none 0 0,.string ⟨#[]⟩,.string ⟨#[]⟩,.bool false,.slice none 0 0] 35)) n;have iQ:=Lib.hid (bq h1 h1.size hb);have qb:=Lib.hid (aJ (aM (heap_alloc_new w (.cells #[.int .u8 0,.string ⟨#[]⟩,.bool false,.slice none 0 0,.string ⟨#[]⟩,.string ⟨#[]⟩,.bool false,.slice none 0 0] 35)) n) hb);clear hb h1)
    |(go_at_call 92;refine (cE.calls g 5 _ (HG.out.below iQ.out) uv.out).mono ?_;rintro e w3 ⟨rfl,hb⟩;have iN:=Lib.hid (PS.init (bq iQ.out iQ.out.size hb) (aJ qb.out hb) 5);obtain ⟨jA,jB,jC,jD,jE,jF,jG,jH,jI,jJ,jK,jL,jM,jN,jO,jP⟩:=iN.out.jm;clear hb))
   obtain ⟨q1,q2,q3,q4⟩:=PS.done (W1:=_) iN.out (.int .u8 0) (.string ⟨#[]⟩) (.bool false) (.slice none 0 0) (.string ⟨#[]⟩) (.string ⟨#[]⟩) (.bool false) (.slice none 0 0) rfl
   refine bodyPost_ret (dA rfl _ _ w.heap.size 35 #[(.int .u8 0),(.string ⟨#[]⟩),(.bool false),(.slice none 0 0),(.string ⟨#[]⟩),(.string ⟨#[]⟩),(.bool false),(.slice none 0 0)] (0,0) _ rfl q1 Tryz.underlying35 rfl au) rfl ?_
   exact ⟨_,_,rfl,Kd.fB _ _ _ _ _,Kd.fB _ _ _ _ _,q2⟩
  |false=>
   simp only [Bool.false_eq_true,if_false] at h
   simp only [ak.z,ak.w,ak.p,Option.some.injEq,Prod.mk.injEq] at h
   obtain ⟨rfl,rfl,rfl,rfl,rfl,rfl,rfl,rfl,rfl⟩:=h
   go_enter Tryz.func35,Tryz.ntmps35
   go_wp2_with (first
    |(go_at_call 91;refine (strings_Cut.calls a0 ⟨#[32]⟩ t1 t2 false _ (HG.out.below (az (Below.refl _ _) _)) qd.out).mono ?_;rintro e w1 ⟨rfl,n,rfl⟩)
    |(go_at_call 93;refine (cB.calls t1 g _ qG.out).mono ?_;rintro e w2 ⟨rfl,hb⟩;have h1:=aB (az (Below.refl w.heap.size w) (.cells #[.int .u8 0,.string ⟨#[]⟩,.bool false,.slice none 0 0,.string ⟨#[]⟩,.string ⟨#[]⟩,.bool false,.slice none 0 0] 35)) n;have iQ:=Lib.hid (bq h1 h1.size hb);have qb:=Lib.hid (aJ (aM (heap_alloc_new w (.cells #[.int .u8 0,.string ⟨#[]⟩,.bool false,.slice none 0 0,.string ⟨#[]⟩,.string ⟨#[]⟩,.bool false,.slice none 0 0] 35)) n) hb);clear hb h1)
    |(go_at_call 92;refine (cE.calls g 5 _ (HG.out.below iQ.out) uv.out).mono ?_;rintro e w3 ⟨rfl,hb⟩;have iN:=Lib.hid (PS.init (bq iQ.out iQ.out.size hb) (aJ qb.out hb) 5);obtain ⟨jA,jB,jC,jD,jE,jF,jG,jH,jI,jJ,jK,jL,jM,jN,jO,jP⟩:=iN.out.jm;clear hb))
   obtain ⟨q1,q2,q3,q4⟩:=PS.done (W1:=_) iN.out (.int .u8 5) (.string ⟨#[]⟩) (.bool false) (.slice none 0 0) (.string ⟨#[]⟩) (.string ⟨#[]⟩) (.bool false) (.slice none 0 0) rfl
   refine bodyPost_ret (dA rfl _ _ w.heap.size 35 #[(.int .u8 5),(.string ⟨#[]⟩),(.bool false),(.slice none 0 0),(.string ⟨#[]⟩),(.string ⟨#[]⟩),(.bool false),(.slice none 0 0)] (0,0) _ rfl q1 Tryz.underlying35 rfl au) rfl ?_
   exact ⟨_,_,rfl,Kd.fB _ _ _ _ _,Kd.fB _ _ _ _ _,q2⟩
 ·replace h:(if t3=true then ak.z 161 else ak.w 6 ⟨#[]⟩)=_ :=(show ak.v k 6 t2 t3=_ from by unfold ak.v;simp).symm.trans h
  cases t3 with
  |true=>
   simp only [if_true] at h
   simp only [ak.z,ak.w,ak.p,Option.some.injEq,Prod.mk.injEq] at h
   obtain ⟨rfl,rfl,rfl,rfl,rfl,rfl,rfl,rfl,rfl⟩:=h
   go_enter Tryz.func35,Tryz.ntmps35
   go_wp2_with (first
    |(go_at_call 91;refine (strings_Cut.calls a0 ⟨#[32]⟩ t1 t2 true _ (HG.out.below (az (Below.refl _ _) _)) qd.out).mono ?_;rintro e w1 ⟨rfl,n,rfl⟩)
    |(go_at_call 93;refine (cB.calls t1 g _ qG.out).mono ?_;rintro e w2 ⟨rfl,hb⟩;have h1:=aB (az (Below.refl w.heap.size w) (.cells #[.int .u8 0,.string ⟨#[]⟩,.bool false,.slice none 0 0,.string ⟨#[]⟩,.string ⟨#[]⟩,.bool false,.slice none 0 0] 35)) n;have iQ:=Lib.hid (bq h1 h1.size hb);have qb:=Lib.hid (aJ (aM (heap_alloc_new w (.cells #[.int .u8 0,.string ⟨#[]⟩,.bool false,.slice none 0 0,.string ⟨#[]⟩,.string ⟨#[]⟩,.bool false,.slice none 0 0] 35)) n) hb);clear hb h1)
    |(go_at_call 92;refine (cE.calls g 6 _ (HG.out.below iQ.out) uv.out).mono ?_;rintro e w3 ⟨rfl,hb⟩;have iN:=Lib.hid (PS.init (bq iQ.out iQ.out.size hb) (aJ qb.out hb) 6);obtain ⟨jA,jB,jC,jD,jE,jF,jG,jH,jI,jJ,jK,jL,jM,jN,jO,jP⟩:=iN.out.jm;clear hb))
   obtain ⟨q1,q2,q3,q4⟩:=PS.done (W1:=_) iN.out (.int .u8 0) (.string ⟨#[]⟩) (.bool false) (.slice none 0 0) (.string ⟨#[]⟩) (.string ⟨#[]⟩) (.bool false) (.slice none 0 0) rfl
   refine bodyPost_ret (dA rfl _ _ w.heap.size 35 #[(.int .u8 0),(.string ⟨#[]⟩),(.bool false),(.slice none 0 0),(.string ⟨#[]⟩),(.string ⟨#[]⟩),(.bool false),(.slice none 0 0)] (0,0) _ rfl q1 Tryz.underlying35 rfl au) rfl ?_
   exact ⟨_,_,rfl,Kd.fB _ _ _ _ _,Kd.fB _ _ _ _ _,q2⟩
  |false=>
   simp only [Bool.false_eq_true,if_false] at h
   simp only [ak.z,ak.w,ak.p,Option.some.injEq,Prod.mk.injEq] at h
   obtain ⟨rfl,rfl,rfl,rfl,rfl,rfl,rfl,rfl,rfl⟩:=h
   go_enter Tryz.func35,Tryz.ntmps35
   go_wp2_with (first
    |(go_at_call 91;refine (strings_Cut.calls a0 ⟨#[32]⟩ t1 t2 false _ (HG.out.below (az (Below.refl _ _) _)) qd.out).mono ?_;rintro e w1 ⟨rfl,n,rfl⟩)
    |(go_at_call 93;refine (cB.calls t1 g _ qG.out).mono ?_;rintro e w2 ⟨rfl,hb⟩;have h1:=aB (az (Below.refl w.heap.size w) (.cells #[.int .u8 0,.string ⟨#[]⟩,.bool false,.slice none 0 0,.string ⟨#[]⟩,.string ⟨#[]⟩,.bool false,.slice none 0 0] 35)) n;have iQ:=Lib.hid (bq h1 h1.size hb);have qb:=Lib.hid (aJ (aM (heap_alloc_new w (.cells #[.int .u8 0,.string ⟨#[]⟩,.bool false,.slice none 0 0,.string ⟨#[]⟩,.string ⟨#[]⟩,.bool false,.slice none 0 0] 35)) n) hb);clear hb h1)
    |(go_at_call 92;refine (cE.calls g 6 _ (HG.out.below iQ.out) uv.out).mono ?_;rintro e w3 ⟨rfl,hb⟩;have iN:=Lib.hid (PS.init (bq iQ.out iQ.out.size hb) (aJ qb.out hb) 6);obtain ⟨jA,jB,jC,jD,jE,jF,jG,jH,jI,jJ,jK,jL,jM,jN,jO,jP⟩:=iN.out.jm;clear hb))
   obtain ⟨q1,q2,q3,q4⟩:=PS.done (W1:=_) iN.out (.int .u8 6) (.string ⟨#[]⟩) (.bool false) (.slice none 0 0) (.string ⟨#[]⟩) (.string ⟨#[]⟩) (.bool false) (.slice none 0 0) rfl
   refine bodyPost_ret (dA rfl _ _ w.heap.size 35 #[(.int .u8 6),(.string ⟨#[]⟩),(.bool false),(.slice none 0 0),(.string ⟨#[]⟩),(.string ⟨#[]⟩),(.bool false),(.slice none 0 0)] (0,0) _ rfl q1 Tryz.underlying35 rfl au) rfl ?_
   exact ⟨_,_,rfl,Kd.fB _ _ _ _ _,Kd.fB _ _ _ _ _,q2⟩
 ·replace h:ak.free 7 t2=_ :=(show ak.v k 7 t2 t3=_ from by unfold ak.v;simp).symm.trans h
  unfold ak.free at h
  obtain ⟨b,B1,h⟩:=Option.bind_eq_some_iff.mp h
  try dsimp only at h
  have xh:=Lib.hid B1
  clear B1
  cases b with
  |true=>
   simp only [if_true] at h
   simp only [ak.z,ak.w,ak.p,Option.some.injEq,Prod.mk.injEq] at h
   obtain ⟨rfl,rfl,rfl,rfl,rfl,rfl,rfl,rfl,rfl⟩:=h
   go_enter Tryz.func35,Tryz.ntmps35
   go_wp2_with (first
    |(go_at_call 91;refine (strings_Cut.calls a0 ⟨#[32]⟩ t1 t2 t3 _ (HG.out.below (az (Below.refl _ _) _)) qd.out).mono ?_;rintro e w1 ⟨rfl,n,rfl⟩)
    |(go_at_call 93;refine (cB.calls t1 g _ qG.out).mono ?_;rintro e w2 ⟨rfl,hb⟩;have h1:=aB (az (Below.refl w.heap.size w) (.cells #[.int .u8 0,.string ⟨#[]⟩,.bool false,.slice none 0 0,.string ⟨#[]⟩,.string ⟨#[]⟩,.bool false,.slice none 0 0] 35)) n;have iQ:=Lib.hid (bq h1 h1.size hb);have qb:=Lib.hid (aJ (aM (heap_alloc_new w (.cells #[.int .u8 0,.string ⟨#[]⟩,.bool false,.slice none 0 0,.string ⟨#[]⟩,.string ⟨#[]⟩,.bool false,.slice none 0 0] 35)) n) hb);clear hb h1)
    |(go_at_call 92;refine (cE.calls g 7 _ (HG.out.below iQ.out) uv.out).mono ?_;rintro e w3 ⟨rfl,hb⟩;have iN:=Lib.hid (PS.init (bq iQ.out iQ.out.size hb) (aJ qb.out hb) 7);obtain ⟨jA,jB,jC,jD,jE,jF,jG,jH,jI,jJ,jK,jL,jM,jN,jO,jP⟩:=iN.out.jm;clear hb)
    |(go_at_call 97;refine (gY.calls t2 true _ xh.out).mono ?_;rintro e w5 ⟨rfl,hb⟩;have nZ:=Lib.hid ((iN.out).below hb);obtain ⟨mh,mj,mo,mq,mz,mA,mB,mC,mD,mE,mF,mG,mH,mI,mJ,mK,mL,mM,mN,mO,mP,mQ,mR,mS,mU⟩:=nZ.out.facts;have OH:=Nat.ne_of_lt iN.out.ge;have OI:=Nat.ne_of_gt iN.out.ge;clear hb))
   obtain ⟨q1,q2,q3,q4⟩:=PS.done (W1:=_) (nZ.out.arg t2) (.int .u8 7) (.string t2) (.bool false) (.slice none 0 0) (.string ⟨#[]⟩) (.string ⟨#[]⟩) (.bool false) (.slice none 0 0) rfl
   refine bodyPost_ret (dA rfl _ _ w.heap.size 35 #[(.int .u8 7),(.string t2),(.bool false),(.slice none 0 0),(.string ⟨#[]⟩),(.string ⟨#[]⟩),(.bool false),(.slice none 0 0)] (0,0) _ rfl q1 Tryz.underlying35 rfl au) rfl ?_
   exact ⟨_,_,rfl,Kd.fB _ _ _ _ _,Kd.fB _ _ _ _ _,q2⟩
  |false=>
   simp only [Bool.false_eq_true,if_false] at h
   simp only [ak.z,ak.w,ak.p,Option.some.injEq,Prod.mk.injEq] at h
   obtain ⟨rfl,rfl,rfl,rfl,rfl,rfl,rfl,rfl,rfl⟩:=h
   go_enter Tryz.func35,Tryz.ntmps35
   go_wp2_with (first
    |(go_at_call 91;refine (strings_Cut.calls a0 ⟨#[32]⟩ t1 t2 t3 _ (HG.out.below (az (Below.refl _ _) _)) qd.out).mono ?_;rintro e w1 ⟨rfl,n,rfl⟩)
    |(go_at_call 93;refine (cB.calls t1 g _ qG.out).mono ?_;rintro e w2 ⟨rfl,hb⟩;have h1:=aB (az (Below.refl w.heap.size w) (.cells #[.int .u8 0,.string ⟨#[]⟩,.bool false,.slice none 0 0,.string ⟨#[]⟩,.string ⟨#[]⟩,.bool false,.slice none 0 0] 35)) n;have iQ:=Lib.hid (bq h1 h1.size hb);have qb:=Lib.hid (aJ (aM (heap_alloc_new w (.cells #[.int .u8 0,.string ⟨#[]⟩,.bool false,.slice none 0 0,.string ⟨#[]⟩,.string ⟨#[]⟩,.bool false,.slice none 0 0] 35)) n) hb);clear hb h1)
    |(go_at_call 92;refine (cE.calls g 7 _ (HG.out.below iQ.out) uv.out).mono ?_;rintro e w3 ⟨rfl,hb⟩;have iN:=Lib.hid (PS.init (bq iQ.out iQ.out.size hb) (aJ qb.out hb) 7);obtain ⟨jA,jB,jC,jD,jE,jF,jG,jH,jI,jJ,jK,jL,jM,jN,jO,jP⟩:=iN.out.jm;clear hb)
    |(go_at_call 97;refine (gY.calls t2 false _ xh.out).mono ?_;rintro e w5 ⟨rfl,hb⟩;have nZ:=Lib.hid ((iN.out).below hb);obtain ⟨mh,mj,mo,mq,mz,mA,mB,mC,mD,mE,mF,mG,mH,mI,mJ,mK,mL,mM,mN,mO,mP,mQ,mR,mS,mU⟩:=nZ.out.facts;have OH:=Nat.ne_of_lt iN.out.ge;have OI:=Nat.ne_of_gt iN.out.ge;clear hb))
   obtain ⟨q1,q2,q3,q4⟩:=PS.done (W1:=_) (nZ.out.arg t2) (.int .u8 0) (.string ⟨#[]⟩) (.bool false) (.slice none 0 0) (.string ⟨#[]⟩) (.string ⟨#[]⟩) (.bool false) (.slice none 0 0) rfl
   refine bodyPost_ret (dA rfl _ _ w.heap.size 35 #[(.int .u8 0),(.string ⟨#[]⟩),(.bool false),(.slice none 0 0),(.string ⟨#[]⟩),(.string ⟨#[]⟩),(.bool false),(.slice none 0 0)] (0,0) _ rfl q1 Tryz.underlying35 rfl au) rfl ?_
   exact ⟨_,_,rfl,Kd.fB _ _ _ _ _,Kd.fB _ _ _ _ _,q2⟩
 ·replace h:ak.free 8 t2=_ :=(show ak.v k 8 t2 t3=_ from by unfold ak.v;simp).symm.trans h
  unfold ak.free at h
  obtain ⟨b,B1,h⟩:=Option.bind_eq_some_iff.mp h
  try dsimp only at h
  have xh:=Lib.hid B1
  clear B1
  cases b with
  |true=>
   simp only [if_true] at h
   simp only [ak.z,ak.w,ak.p,Option.some.injEq,Prod.mk.injEq] at h
   obtain ⟨rfl,rfl,rfl,rfl,rfl,rfl,rfl,rfl,rfl⟩:=h
   go_enter Tryz.func35,Tryz.ntmps35
   go_wp2_with (first
    |(go_at_call 91;refine (strings_Cut.calls a0 ⟨#[32]⟩ t1 t2 t3 _ (HG.out.below (az (Below.refl _ _) _)) qd.out).mono ?_;rintro e w1 ⟨rfl,n,rfl⟩)
    |(go_at_call 93;refine (cB.calls t1 g _ qG.out).mono ?_;rintro e w2 ⟨rfl,hb⟩;have h1:=aB (az (Below.refl w.heap.size w) (.cells #[.int .u8 0,.string ⟨#[]⟩,.bool false,.slice none 0 0,.string ⟨#[]⟩,.string ⟨#[]⟩,.bool false,.slice none 0 0] 35)) n;have iQ:=Lib.hid (bq h1 h1.size hb);have qb:=Lib.hid (aJ (aM (heap_alloc_new w (.cells #[.int .u8 0,.string ⟨#[]⟩,.bool false,.slice none 0 0,.string ⟨#[]⟩,.string ⟨#[]⟩,.bool false,.slice none 0 0] 35)) n) hb);clear hb h1)
    |(go_at_call 92;refine (cE.calls g 8 _ (HG.out.below iQ.out) uv.out).mono ?_;rintro e w3 ⟨rfl,hb⟩;have iN:=Lib.hid (PS.init (bq iQ.out iQ.out.size hb) (aJ qb.out hb) 8);obtain ⟨jA,jB,jC,jD,jE,jF,jG,jH,jI,jJ,jK,jL,jM,jN,jO,jP⟩:=iN.out.jm;clear hb)
    |(go_at_call 97;refine (gY.calls t2 true _ xh.out).mono ?_;rintro e w5 ⟨rfl,hb⟩;have nZ:=Lib.hid ((iN.out).below hb);obtain ⟨mh,mj,mo,mq,mz,mA,mB,mC,mD,mE,mF,mG,mH,mI,mJ,mK,mL,mM,mN,mO,mP,mQ,mR,mS,mU⟩:=nZ.out.facts;have OH:=Nat.ne_of_lt iN.out.ge;have OI:=Nat.ne_of_gt iN.out.ge;clear hb))
   obtain ⟨q1,q2,q3,q4⟩:=PS.done (W1:=_) (nZ.out.arg t2) (.int .u8 8) (.string t2) (.bool false) (.slice none 0 0) (.string ⟨#[]⟩) (.string ⟨#[]⟩) (.bool false) (.slice none 0 0) rfl
   refine bodyPost_ret (dA rfl _ _ w.heap.size 35 #[(.int .u8 8),(.string t2),(.bool false),(.slice none 0 0),(.string ⟨#[]⟩),(.string ⟨#[]⟩),(.bool false),(.slice none 0 0)] (0,0) _ rfl q1 Tryz.underlying35 rfl au) rfl ?_
   exact ⟨_,_,rfl,Kd.fB _ _ _ _ _,Kd.fB _ _ _ _ _,q2⟩
  |false=>
   simp only [Bool.false_eq_true,if_false] at h
   simp only [ak.z,ak.w,ak.p,Option.some.injEq,Prod.mk.injEq] at h
   obtain ⟨rfl,rfl,rfl,rfl,rfl,rfl,rfl,rfl,rfl⟩:=h
   go_enter Tryz.func35,Tryz.ntmps35
   go_wp2_with (first
    |(go_at_call 91;refine (strings_Cut.calls a0 ⟨#[32]⟩ t1 t2 t3 _ (HG.out.below (az (Below.refl _ _) _)) qd.out).mono ?_;rintro e w1 ⟨rfl,n,rfl⟩)
    |(go_at_call 93;refine (cB.calls t1 g _ qG.out).mono ?_;rintro e w2 ⟨rfl,hb⟩;have h1:=aB (az (Below.refl w.heap.size w) (.cells #[.int .u8 0,.string ⟨#[]⟩,.bool false,.slice none 0 0,.string ⟨#[]⟩,.string ⟨#[]⟩,.bool false,.slice none 0 0] 35)) n;have iQ:=Lib.hid (bq h1 h1.size hb);have qb:=Lib.hid (aJ (aM (heap_alloc_new w (.cells #[.int .u8 0,.string ⟨#[]⟩,.bool false,.slice none 0 0,.string ⟨#[]⟩,.string ⟨#[]⟩,.bool false,.slice none 0 0] 35)) n) hb);clear hb h1)
    |(go_at_call 92;refine (cE.calls g 8 _ (HG.out.below iQ.out) uv.out).mono ?_;rintro e w3 ⟨rfl,hb⟩;have iN:=Lib.hid (PS.init (bq iQ.out iQ.out.size hb) (aJ qb.out hb) 8);obtain ⟨jA,jB,jC,jD,jE,jF,jG,jH,jI,jJ,jK,jL,jM,jN,jO,jP⟩:=iN.out.jm;clear hb)
    |(go_at_call 97;refine (gY.calls t2 false _ xh.out).mono ?_;rintro e w5 ⟨rfl,hb⟩;have nZ:=Lib.hid ((iN.out).below hb);obtain ⟨mh,mj,mo,mq,mz,mA,mB,mC,mD,mE,mF,mG,mH,mI,mJ,mK,mL,mM,mN,mO,mP,mQ,mR,mS,mU⟩:=nZ.out.facts;have OH:=Nat.ne_of_lt iN.out.ge;have OI:=Nat.ne_of_gt iN.out.ge;clear hb))
   obtain ⟨q1,q2,q3,q4⟩:=PS.done (W1:=_) (nZ.out.arg t2) (.int .u8 0) (.string ⟨#[]⟩) (.bool false) (.slice none 0 0) (.string ⟨#[]⟩) (.string ⟨#[]⟩) (.bool false) (.slice none 0 0) rfl
   refine bodyPost_ret (dA rfl _ _ w.heap.size 35 #[(.int .u8 0),(.string ⟨#[]⟩),(.bool false),(.slice none 0 0),(.string ⟨#[]⟩),(.string ⟨#[]⟩),(.bool false),(.slice none 0 0)] (0,0) _ rfl q1 Tryz.underlying35 rfl au) rfl ?_
   exact ⟨_,_,rfl,Kd.fB _ _ _ _ _,Kd.fB _ _ _ _ _,q2⟩
 ·replace h:(if t3=true then ak.free 9 t2 else ak.w 9 ⟨#[]⟩)=_ :=(show ak.v k 9 t2 t3=_ from by unfold ak.v;simp).symm.trans h
  cases t3 with
  |true=>
   simp only [if_true] at h
   unfold ak.free at h
   obtain ⟨b,B1,h⟩:=Option.bind_eq_some_iff.mp h
   try dsimp only at h
   have xh:=Lib.hid B1
   clear B1
   cases b with
   |true=>
    simp only [if_true] at h
    simp only [ak.z,ak.w,ak.p,Option.some.injEq,Prod.mk.injEq] at h
    obtain ⟨rfl,rfl,rfl,rfl,rfl,rfl,rfl,rfl,rfl⟩:=h
    go_enter Tryz.func35,Tryz.ntmps35
    go_wp2_with (first
     |(go_at_call 91;refine (strings_Cut.calls a0 ⟨#[32]⟩ t1 t2 true _ (HG.out.below (az (Below.refl _ _) _)) qd.out).mono ?_;rintro e w1 ⟨rfl,n,rfl⟩)
     |(go_at_call 93;refine (cB.calls t1 g _ qG.out).mono ?_;rintro e w2 ⟨rfl,hb⟩;have h1:=aB (az (Below.refl w.heap.size w) (.cells #[.int .u8 0,.string ⟨#[]⟩,.bool false,.slice none 0 0,.string ⟨#[]⟩,.string ⟨#[]⟩,.bool false,.slice none 0 0] 35)) n;have iQ:=Lib.hid (bq h1 h1.size hb);have qb:=Lib.hid (aJ (aM (heap_alloc_new w (.cells #[.int .u8 0,.string ⟨#[]⟩,.bool false,.slice none 0 0,.string ⟨#[]⟩,.string ⟨#[]⟩,.bool false,.slice none 0 0] 35)) n) hb);clear hb h1)
     |(go_at_call 92;refine (cE.calls g 9 _ (HG.out.below iQ.out) uv.out).mono ?_;rintro e w3 ⟨rfl,hb⟩;have iN:=Lib.hid (PS.init (bq iQ.out iQ.out.size hb) (aJ qb.out hb) 9);obtain ⟨jA,jB,jC,jD,jE,jF,jG,jH,jI,jJ,jK,jL,jM,jN,jO,jP⟩:=iN.out.jm;clear hb)
     |(go_at_call 97;refine (gY.calls t2 true _ xh.out).mono ?_;rintro e w5 ⟨rfl,hb⟩;have nZ:=Lib.hid ((iN.out).below hb);obtain ⟨mh,mj,mo,mq,mz,mA,mB,mC,mD,mE,mF,mG,mH,mI,mJ,mK,mL,mM,mN,mO,mP,mQ,mR,mS,mU⟩:=nZ.out.facts;have OH:=Nat.ne_of_lt iN.out.ge;have OI:=Nat.ne_of_gt iN.out.ge;clear hb))
    obtain ⟨q1,q2,q3,q4⟩:=PS.done (W1:=_) (nZ.out.arg t2) (.int .u8 9) (.string t2) (.bool false) (.slice none 0 0) (.string ⟨#[]⟩) (.string ⟨#[]⟩) (.bool false) (.slice none 0 0) rfl
    refine bodyPost_ret (dA rfl _ _ w.heap.size 35 #[(.int .u8 9),(.string t2),(.bool false),(.slice none 0 0),(.string ⟨#[]⟩),(.string ⟨#[]⟩),(.bool false),(.slice none 0 0)] (0,0) _ rfl q1 Tryz.underlying35 rfl au) rfl ?_
    exact ⟨_,_,rfl,Kd.fB _ _ _ _ _,Kd.fB _ _ _ _ _,q2⟩
   |false=>
    simp only [Bool.false_eq_true,if_false] at h
    simp only [ak.z,ak.w,ak.p,Option.some.injEq,Prod.mk.injEq] at h
    obtain ⟨rfl,rfl,rfl,rfl,rfl,rfl,rfl,rfl,rfl⟩:=h
    go_enter Tryz.func35,Tryz.ntmps35
    go_wp2_with (first
     |(go_at_call 91;refine (strings_Cut.calls a0 ⟨#[32]⟩ t1 t2 true _ (HG.out.below (az (Below.refl _ _) _)) qd.out).mono ?_;rintro e w1 ⟨rfl,n,rfl⟩)
     |(go_at_call 93;refine (cB.calls t1 g _ qG.out).mono ?_;rintro e w2 ⟨rfl,hb⟩;have h1:=aB (az (Below.refl w.heap.size w) (.cells #[.int .u8 0,.string ⟨#[]⟩,.bool false,.slice none 0 0,.string ⟨#[]⟩,.string ⟨#[]⟩,.bool false,.slice none 0 0] 35)) n;have iQ:=Lib.hid (bq h1 h1.size hb);have qb:=Lib.hid (aJ (aM (heap_alloc_new w (.cells #[.int .u8 0,.string ⟨#[]⟩,.bool false,.slice none 0 0,.string ⟨#[]⟩,.string ⟨#[]⟩,.bool false,.slice none 0 0] 35)) n) hb);clear hb h1)
     |(go_at_call 92;refine (cE.calls g 9 _ (HG.out.below iQ.out) uv.out).mono ?_;rintro e w3 ⟨rfl,hb⟩;have iN:=Lib.hid (PS.init (bq iQ.out iQ.out.size hb) (aJ qb.out hb) 9);obtain ⟨jA,jB,jC,jD,jE,jF,jG,jH,jI,jJ,jK,jL,jM,jN,jO,jP⟩:=iN.out.jm;clear hb)
     |(go_at_call 97;refine (gY.calls t2 false _ xh.out).mono ?_;rintro e w5 ⟨rfl,hb⟩;have nZ:=Lib.hid ((iN.out).below hb);obtain ⟨mh,mj,mo,mq,mz,mA,mB,mC,mD,mE,mF,mG,mH,mI,mJ,mK,mL,mM,mN,mO,mP,mQ,mR,mS,mU⟩:=nZ.out.facts;have OH:=Nat.ne_of_lt iN.out.ge;have OI:=Nat.ne_of_gt iN.out.ge;clear hb))
    obtain ⟨q1,q2,q3,q4⟩:=PS.done (W1:=_) (nZ.out.arg t2) (.int .u8 0) (.string ⟨#[]⟩) (.bool false) (.slice none 0 0) (.string ⟨#[]⟩) (.string ⟨#[]⟩) (.bool false) (.slice none 0 0) rfl
    refine bodyPost_ret (dA rfl _ _ w.heap.size 35 #[(.int .u8 0),(.string ⟨#[]⟩),(.bool false),(.slice none 0 0),(.string ⟨#[]⟩),(.string ⟨#[]⟩),(.bool false),(.slice none 0 0)] (0,0) _ rfl q1 Tryz.underlying35 rfl au) rfl ?_
    exact ⟨_,_,rfl,Kd.fB _ _ _ _ _,Kd.fB _ _ _ _ _,q2⟩
  |false=>
   simp only [Bool.false_eq_true,if_false] at h
   simp only [ak.z,ak.w,ak.p,Option.some.injEq,Prod.mk.injEq] at h
   obtain ⟨rfl,rfl,rfl,rfl,rfl,rfl,rfl,rfl,rfl⟩:=h
   go_enter Tryz.func35,Tryz.ntmps35
   go_wp2_with (first
    |(go_at_call 91;refine (strings_Cut.calls a0 ⟨#[32]⟩ t1 t2 false _ (HG.out.below (az (Below.refl _ _) _)) qd.out).mono ?_;rintro e w1 ⟨rfl,n,rfl⟩)
    |(go_at_call 93;refine (cB.calls t1 g _ qG.out).mono ?_;rintro e w2 ⟨rfl,hb⟩;have h1:=aB (az (Below.refl w.heap.size w) (.cells #[.int .u8 0,.string ⟨#[]⟩,.bool false,.slice none 0 0,.string ⟨#[]⟩,.string ⟨#[]⟩,.bool false,.slice none 0 0] 35)) n;have iQ:=Lib.hid (bq h1 h1.size hb);have qb:=Lib.hid (aJ (aM (heap_alloc_new w (.cells #[.int .u8 0,.string ⟨#[]⟩,.bool false,.slice none 0 0,.string ⟨#[]⟩,.string ⟨#[]⟩,.bool false,.slice none 0 0] 35)) n) hb);clear hb h1)
    |(go_at_call 92;refine (cE.calls g 9 _ (HG.out.below iQ.out) uv.out).mono ?_;rintro e w3 ⟨rfl,hb⟩;have iN:=Lib.hid (PS.init (bq iQ.out iQ.out.size hb) (aJ qb.out hb) 9);obtain ⟨jA,jB,jC,jD,jE,jF,jG,jH,jI,jJ,jK,jL,jM,jN,jO,jP⟩:=iN.out.jm;clear hb))
   obtain ⟨q1,q2,q3,q4⟩:=PS.done (W1:=_) iN.out (.int .u8 9) (.string ⟨#[]⟩) (.bool false) (.slice none 0 0) (.string ⟨#[]⟩) (.string ⟨#[]⟩) (.bool false) (.slice none 0 0) rfl
   refine bodyPost_ret (dA rfl _ _ w.heap.size 35 #[(.int .u8 9),(.string ⟨#[]⟩),(.bool false),(.slice none 0 0),(.string ⟨#[]⟩),(.string ⟨#[]⟩),(.bool false),(.slice none 0 0)] (0,0) _ rfl q1 Tryz.underlying35 rfl au) rfl ?_
   exact ⟨_,_,rfl,Kd.fB _ _ _ _ _,Kd.fB _ _ _ _ _,q2⟩
 ·replace h:(if t3=true then ak.free 10 t2 else ak.w 10 ⟨#[]⟩)=_ :=(show ak.v k 10 t2 t3=_ from by unfold ak.v;simp).symm.trans h
  cases t3 with
  |true=>
   simp only [if_true] at h
   unfold ak.free at h
   obtain ⟨b,B1,h⟩:=Option.bind_eq_some_iff.mp h
   try dsimp only at h
   have xh:=Lib.hid B1
   clear B1
   cases b with
   |true=>
    simp only [if_true] at h
    simp only [ak.z,ak.w,ak.p,Option.some.injEq,Prod.mk.injEq] at h
    obtain ⟨rfl,rfl,rfl,rfl,rfl,rfl,rfl,rfl,rfl⟩:=h
    go_enter Tryz.func35,Tryz.ntmps35
    go_wp2_with (first
     |(go_at_call 91;refine (strings_Cut.calls a0 ⟨#[32]⟩ t1 t2 true _ (HG.out.below (az (Below.refl _ _) _)) qd.out).mono ?_;rintro e w1 ⟨rfl,n,rfl⟩)
     |(go_at_call 93;refine (cB.calls t1 g _ qG.out).mono ?_;rintro e w2 ⟨rfl,hb⟩;have h1:=aB (az (Below.refl w.heap.size w) (.cells #[.int .u8 0,.string ⟨#[]⟩,.bool false,.slice none 0 0,.string ⟨#[]⟩,.string ⟨#[]⟩,.bool false,.slice none 0 0] 35)) n;have iQ:=Lib.hid (bq h1 h1.size hb);have qb:=Lib.hid (aJ (aM (heap_alloc_new w (.cells #[.int .u8 0,.string ⟨#[]⟩,.bool false,.slice none 0 0,.string ⟨#[]⟩,.string ⟨#[]⟩,.bool false,.slice none 0 0] 35)) n) hb);clear hb h1)
     |(go_at_call 92;refine (cE.calls g 10 _ (HG.out.below iQ.out) uv.out).mono ?_;rintro e w3 ⟨rfl,hb⟩;have iN:=Lib.hid (PS.init (bq iQ.out iQ.out.size hb) (aJ qb.out hb) 10);obtain ⟨jA,jB,jC,jD,jE,jF,jG,jH,jI,jJ,jK,jL,jM,jN,jO,jP⟩:=iN.out.jm;clear hb)
     |(go_at_call 97;refine (gY.calls t2 true _ xh.out).mono ?_;rintro e w5 ⟨rfl,hb⟩;have nZ:=Lib.hid ((iN.out).below hb);obtain ⟨mh,mj,mo,mq,mz,mA,mB,mC,mD,mE,mF,mG,mH,mI,mJ,mK,mL,mM,mN,mO,mP,mQ,mR,mS,mU⟩:=nZ.out.facts;have OH:=Nat.ne_of_lt iN.out.ge;have OI:=Nat.ne_of_gt iN.out.ge;clear hb))
    obtain ⟨q1,q2,q3,q4⟩:=PS.done (W1:=_) (nZ.out.arg t2) (.int .u8 10) (.string t2) (.bool false) (.slice none 0 0) (.string ⟨#[]⟩) (.string ⟨#[]⟩) (.bool false) (.slice none 0 0) rfl
    refine bodyPost_ret (dA rfl _ _ w.heap.size 35 #[(.int .u8 10),(.string t2),(.bool false),(.slice none 0 0),(.string ⟨#[]⟩),(.string ⟨#[]⟩),(.bool false),(.slice none 0 0)] (0,0) _ rfl q1 Tryz.underlying35 rfl au) rfl ?_
    exact ⟨_,_,rfl,Kd.fB _ _ _ _ _,Kd.fB _ _ _ _ _,q2⟩
   |false=>
    simp only [Bool.false_eq_true,if_false] at h
    simp only [ak.z,ak.w,ak.p,Option.some.injEq,Prod.mk.injEq] at h
    obtain ⟨rfl,rfl,rfl,rfl,rfl,rfl,rfl,rfl,rfl⟩:=h
    go_enter Tryz.func35,Tryz.ntmps35
    go_wp2_with (first
     |(go_at_call 91;refine (strings_Cut.calls a0 ⟨#[32]⟩ t1 t2 true _ (HG.out.below (az (Below.refl _ _) _)) qd.out).mono ?_;rintro e w1 ⟨rfl,n,rfl⟩)
     |(go_at_call 93;refine (cB.calls t1 g _ qG.out).mono ?_;rintro e w2 ⟨rfl,hb⟩;have h1:=aB (az (Below.refl w.heap.size w) (.cells #[.int .u8 0,.string ⟨#[]⟩,.bool false,.slice none 0 0,.string ⟨#[]⟩,.string ⟨#[]⟩,.bool false,.slice none 0 0] 35)) n;have iQ:=Lib.hid (bq h1 h1.size hb);have qb:=Lib.hid (aJ (aM (heap_alloc_new w (.cells #[.int .u8 0,.string ⟨#[]⟩,.bool false,.slice none 0 0,.string ⟨#[]⟩,.string ⟨#[]⟩,.bool false,.slice none 0 0] 35)) n) hb);clear hb h1)
     |(go_at_call 92;refine (cE.calls g 10 _ (HG.out.below iQ.out) uv.out).mono ?_;rintro e w3 ⟨rfl,hb⟩;have iN:=Lib.hid (PS.init (bq iQ.out iQ.out.size hb) (aJ qb.out hb) 10);obtain ⟨jA,jB,jC,jD,jE,jF,jG,jH,jI,jJ,jK,jL,jM,jN,jO,jP⟩:=iN.out.jm;clear hb)
     |(go_at_call 97;refine (gY.calls t2 false _ xh.out).mono ?_;rintro e w5 ⟨rfl,hb⟩;have nZ:=Lib.hid ((iN.out).below hb);obtain ⟨mh,mj,mo,mq,mz,mA,mB,mC,mD,mE,mF,mG,mH,mI,mJ,mK,mL,mM,mN,mO,mP,mQ,mR,mS,mU⟩:=nZ.out.facts;have OH:=Nat.ne_of_lt iN.out.ge;have OI:=Nat.ne_of_gt iN.out.ge;clear hb))
    obtain ⟨q1,q2,q3,q4⟩:=PS.done (W1:=_) (nZ.out.arg t2) (.int .u8 0) (.string ⟨#[]⟩) (.bool false) (.slice none 0 0) (.string ⟨#[]⟩) (.string ⟨#[]⟩) (.bool false) (.slice none 0 0) rfl
    refine bodyPost_ret (dA rfl _ _ w.heap.size 35 #[(.int .u8 0),(.string ⟨#[]⟩),(.bool false),(.slice none 0 0),(.string ⟨#[]⟩),(.string ⟨#[]⟩),(.bool false),(.slice none 0 0)] (0,0) _ rfl q1 Tryz.underlying35 rfl au) rfl ?_
    exact ⟨_,_,rfl,Kd.fB _ _ _ _ _,Kd.fB _ _ _ _ _,q2⟩
  |false=>
   simp only [Bool.false_eq_true,if_false] at h
   simp only [ak.z,ak.w,ak.p,Option.some.injEq,Prod.mk.injEq] at h
   obtain ⟨rfl,rfl,rfl,rfl,rfl,rfl,rfl,rfl,rfl⟩:=h
   go_enter Tryz.func35,Tryz.ntmps35
   go_wp2_with (first
    |(go_at_call 91;refine (strings_Cut.calls a0 ⟨#[32]⟩ t1 t2 false _ (HG.out.below (az (Below.refl _ _) _)) qd.out).mono ?_;rintro e w1 ⟨rfl,n,rfl⟩)
    |(go_at_call 93;refine (cB.calls t1 g _ qG.out).mono ?_;rintro e w2 ⟨rfl,hb⟩;have h1:=aB (az (Below.refl w.heap.size w) (.cells #[.int .u8 0,.string ⟨#[]⟩,.bool false,.slice none 0 0,.string ⟨#[]⟩,.string ⟨#[]⟩,.bool false,.slice none 0 0] 35)) n;have iQ:=Lib.hid (bq h1 h1.size hb);have qb:=Lib.hid (aJ (aM (heap_alloc_new w (.cells #[.int .u8 0,.string ⟨#[]⟩,.bool false,.slice none 0 0,.string ⟨#[]⟩,.string ⟨#[]⟩,.bool false,.slice none 0 0] 35)) n) hb);clear hb h1)
    |(go_at_call 92;refine (cE.calls g 10 _ (HG.out.below iQ.out) uv.out).mono ?_;rintro e w3 ⟨rfl,hb⟩;have iN:=Lib.hid (PS.init (bq iQ.out iQ.out.size hb) (aJ qb.out hb) 10);obtain ⟨jA,jB,jC,jD,jE,jF,jG,jH,jI,jJ,jK,jL,jM,jN,jO,jP⟩:=iN.out.jm;clear hb))
   obtain ⟨q1,q2,q3,q4⟩:=PS.done (W1:=_) iN.out (.int .u8 10) (.string ⟨#[]⟩) (.bool false) (.slice none 0 0) (.string ⟨#[]⟩) (.string ⟨#[]⟩) (.bool false) (.slice none 0 0) rfl
   refine bodyPost_ret (dA rfl _ _ w.heap.size 35 #[(.int .u8 10),(.string ⟨#[]⟩),(.bool false),(.slice none 0 0),(.string ⟨#[]⟩),(.string ⟨#[]⟩),(.bool false),(.slice none 0 0)] (0,0) _ rfl q1 Tryz.underlying35 rfl au) rfl ?_
   exact ⟨_,_,rfl,Kd.fB _ _ _ _ _,Kd.fB _ _ _ _ _,q2⟩
 ·replace h:(if t3=true then ak.z 161 else ak.w 11 ⟨#[]⟩)=_ :=(show ak.v k 11 t2 t3=_ from by unfold ak.v;simp).symm.trans h
  cases t3 with
  |true=>
   simp only [if_true] at h
   simp only [ak.z,ak.w,ak.p,Option.some.injEq,Prod.mk.injEq] at h
   obtain ⟨rfl,rfl,rfl,rfl,rfl,rfl,rfl,rfl,rfl⟩:=h
   go_enter Tryz.func35,Tryz.ntmps35
   go_wp2_with (first
    |(go_at_call 91;refine (strings_Cut.calls a0 ⟨#[32]⟩ t1 t2 true _ (HG.out.below (az (Below.refl _ _) _)) qd.out).mono ?_;rintro e w1 ⟨rfl,n,rfl⟩)
    |(go_at_call 93;refine (cB.calls t1 g _ qG.out).mono ?_;rintro e w2 ⟨rfl,hb⟩;have h1:=aB (az (Below.refl w.heap.size w) (.cells #[.int .u8 0,.string ⟨#[]⟩,.bool false,.slice none 0 0,.string ⟨#[]⟩,.string ⟨#[]⟩,.bool false,.slice none 0 0] 35)) n;have iQ:=Lib.hid (bq h1 h1.size hb);have qb:=Lib.hid (aJ (aM (heap_alloc_new w (.cells #[.int .u8 0,.string ⟨#[]⟩,.bool false,.slice none 0 0,.string ⟨#[]⟩,.string ⟨#[]⟩,.bool false,.slice none 0 0] 35)) n) hb);clear hb h1)
    |(go_at_call 92;refine (cE.calls g 11 _ (HG.out.below iQ.out) uv.out).mono ?_;rintro e w3 ⟨rfl,hb⟩;have iN:=Lib.hid (PS.init (bq iQ.out iQ.out.size hb) (aJ qb.out hb) 11);obtain ⟨jA,jB,jC,jD,jE,jF,jG,jH,jI,jJ,jK,jL,jM,jN,jO,jP⟩:=iN.out.jm;clear hb))
   obtain ⟨q1,q2,q3,q4⟩:=PS.done (W1:=_) iN.out (.int .u8 0) (.string ⟨#[]⟩) (.bool false) (.slice none 0 0) (.string ⟨#[]⟩) (.string ⟨#[]⟩) (.bool false) (.slice none 0 0) rfl
   refine bodyPost_ret (dA rfl _ _ w.heap.size 35 #[(.int .u8 0),(.string ⟨#[]⟩),(.bool false),(.slice none 0 0),(.string ⟨#[]⟩),(.string ⟨#[]⟩),(.bool false),(.slice none 0 0)] (0,0) _ rfl q1 Tryz.underlying35 rfl au) rfl ?_
   exact ⟨_,_,rfl,Kd.fB _ _ _ _ _,Kd.fB _ _ _ _ _,q2⟩
  |false=>
   simp only [Bool.false_eq_true,if_false] at h
   simp only [ak.z,ak.w,ak.p,Option.some.injEq,Prod.mk.injEq] at h
   obtain ⟨rfl,rfl,rfl,rfl,rfl,rfl,rfl,rfl,rfl⟩:=h
   go_enter Tryz.func35,Tryz.ntmps35
   go_wp2_with (first
    |(go_at_call 91;refine (strings_Cut.calls a0 ⟨#[32]⟩ t1 t2 false _ (HG.out.below (az (Below.refl _ _) _)) qd.out).mono ?_;rintro e w1 ⟨rfl,n,rfl⟩)
    |(go_at_call 93;refine (cB.calls t1 g _ qG.out).mono ?_;rintro e w2 ⟨rfl,hb⟩;have h1:=aB (az (Below.refl w.heap.size w) (.cells #[.int .u8 0,.string ⟨#[]⟩,.bool false,.slice none 0 0,.string ⟨#[]⟩,.string ⟨#[]⟩,.bool false,.slice none 0 0] 35)) n;have iQ:=Lib.hid (bq h1 h1.size hb);have qb:=Lib.hid (aJ (aM (heap_alloc_new w (.cells #[.int .u8 0,.string ⟨#[]⟩,.bool false,.slice none 0 0,.string ⟨#[]⟩,.string ⟨#[]⟩,.bool false,.slice none 0 0] 35)) n) hb);clear hb h1)
    |(go_at_call 92;refine (cE.calls g 11 _ (HG.out.below iQ.out) uv.out).mono ?_;rintro e w3 ⟨rfl,hb⟩;have iN:=Lib.hid (PS.init (bq iQ.out iQ.out.size hb) (aJ qb.out hb) 11);obtain ⟨jA,jB,jC,jD,jE,jF,jG,jH,jI,jJ,jK,jL,jM,jN,jO,jP⟩:=iN.out.jm;clear hb))
   obtain ⟨q1,q2,q3,q4⟩:=PS.done (W1:=_) iN.out (.int .u8 11) (.string ⟨#[]⟩) (.bool false) (.slice none 0 0) (.string ⟨#[]⟩) (.string ⟨#[]⟩) (.bool false) (.slice none 0 0) rfl
   refine bodyPost_ret (dA rfl _ _ w.heap.size 35 #[(.int .u8 11),(.string ⟨#[]⟩),(.bool false),(.slice none 0 0),(.string ⟨#[]⟩),(.string ⟨#[]⟩),(.bool false),(.slice none 0 0)] (0,0) _ rfl q1 Tryz.underlying35 rfl au) rfl ?_
   exact ⟨_,_,rfl,Kd.fB _ _ _ _ _,Kd.fB _ _ _ _ _,q2⟩
end Go.Proofs.YtokpnfljjjjikaaGreatDoor.nX
