import Derived.Test.YtbjjaaodfbjkfaaGreatDoorEReader
namespace Go.Proofs.YtbjjaaodfbjkfaaGreatDoor.mN
open Go.RowKit Go.Proofs.ak.bQ Go.Proofs.ak.dA Go.Proofs.ak.cX
set_option linter.unusedVariables false
set_option linter.unusedSimpArgs false
def jC.f (k:Nat) (l0:List Int):Option (Int×Int×Int×Int×Int×Bool×List ByteArray×ByteArray×ByteArray×Bool×List jz×List Int×Int×Int):=
 if l0.length=13∧rd l0 0=3 then
  (cK.f k 3 (En ((l0.drop 1).take 6)) (En (((l0.drop 1).drop 6).take 6)) 0 0 false [] ⟨#[]⟩ ⟨#[]⟩ false [] [] 0).bind fun ok=>
    if ok=true then some (3,En ((l0.drop 1).take 6),En (((l0.drop 1).drop 6).take 6),0,0,false,[],⟨#[]⟩,⟨#[]⟩,false,[],[],0,0) else none
 else none
theorem jC.mono:∀ l0 k,eY (jC.f k l0) (jC.f (k + 1) l0):=by
 intro l0 k
 unfold jC.f
 exact eY.ite (eY.bind (cK.mono _ _ _ _ _ _ _ _ _ _ _ _ _ _) fun _ =>eY.refl _) (eY.refl _)
theorem RD.alloc {w0 W:World} {g:Nat} {A:Option Addr} {c:Nat} {l:List Int} {off:Bool} (h:RD w0 W g A c l off) (o:Obj):RD w0 (W.alloc o) g A c l off:=⟨gG h.hb _,h.ge,bW h.bl _,h.hr,h.hc⟩
theorem RD.far {w0 W:World} {g:Nat} {A:Option Addr} {c:Nat} {l:List Int} {off:Bool} (h:RD w0 W g A c l off) (b j:Nat) (u:Value) (hne:b≠g) (hge:w0.heap.size≤b):RD w0 (W.setCell ⟨b,j,none⟩ u) g A c l off:=
 ⟨(Below.heap_setCell W ⟨b,j,none⟩ u g (Ne.symm hne)).trans h.hb,h.ge,cG h.bl hge,h.hr,h.hc⟩
abbrev Jd (a b c:Int):Array Value:=#[.int .u8 a,.int .i64 b,.int .i64 c,.int .i64 0,.int .i64 0,.bool false,.slice none 0 0,.string ⟨#[]⟩,.string ⟨#[]⟩,.bool false,.slice none 0 0,.slice none 0 0,.int .i64 0]
abbrev zCh:Array Value:=#[.int .u8 0,.int .i64 0,.int .i64 0,.int .i64 0,.int .i64 0,.bool false,.slice none 0 0,.string ⟨#[]⟩,.string ⟨#[]⟩,.bool false,.slice none 0 0,.slice none 0 0,.int .i64 0]
set_option maxRecDepth 100000 in
set_option maxHeartbeats 8000000 in
theorem Rb (l:List Int) (A:Option Addr) (c:Nat) (k:Nat) (w:World) (hr:Kd.C (Kd.int .u8) w A l.length l) (hc:l.length≤c) (hG:bp w) (h13:l.length=13) (h3:rd l 0=3) (id at_:Int)
 (hid:En ((l.drop 1).take 6)=id) (hat:En (((l.drop 1).drop 6).take 6)=at_)
 (h:cK.f k 3 id at_ 0 0 false [] ⟨#[]⟩ ⟨#[]⟩ false [] [] 0=some true):
 Calls Tryz.prog 23 #[.slice A l.length c] w fun e w'=>e= .returned (.tuple #[.agg #[.int .u8 3,.int .i64 id,.int .i64 at_,.int .i64 0,.int .i64 0,.bool false,.slice none 0 0,.string ⟨#[]⟩,.string ⟨#[]⟩,.bool false,.slice none 0 0,.slice none 0 0,.int .i64 0],.int .i64 0])∧Below w.heap.size w w':=by
 have hu1:=Tryz.underlying46
 have hu2:=Tryz.underlying108
 have HRt:=ah.mk (fun W (hb:Below w.heap.size w W)=>cK.calls k 3 id at_ 0 0 false none 0 [] ⟨#[]⟩ ⟨#[]⟩ false none 0 [] none 0 [] 0 true W (Kd.lf _ _) (Nat.le_refl _) (Kd.lf _ _) (Nat.le_refl _) (Kd.lf _ _) (Nat.le_refl _) (hG.below hb) h)
 obtain ⟨w1,hw1⟩:∃ w1,w1=(w.alloc (.cells zCh 46)).alloc (.cells #[.slice A l.length c,.bool false] 108):=⟨_,rfl⟩
 have mU:=ah.mk (show Below w.heap.size w w1 by rw [hw1];exact bW (bW (Below.refl _ _) _) _)
 have HD1:=ah.mk (show RD w w1 (w.heap.size + 1) A c l false from ⟨by rw [hw1];have:=iE (w.alloc (.cells zCh 46)) (.cells #[.slice A l.length c,.bool false] 108);simpa using this,aA,mU.out,hr,hc⟩)
 have HZ1:=ah.mk (show w1.heap[w.heap.size]? =some (.cells zCh 46 (0,0)) by rw [hw1];exact gG (iE w _) _)
 have HS1:=ah.mk (show w1.heap.size=w.heap.size + 2 by rw [hw1];simp)
 have HBy:=ah.mk (KM HD1.out)
 have b1:KL l=3:=by unfold KL;rw [if_pos aA];exact h3
 have b2:P7 l=l.drop 1:=if_pos aA
 have b3:P8 l false=false:=if_pos aA
 rw [b1,b2,b3] at HBy
 have HL1:=ah.mk (show 6≤(l.drop 1).length by rw [List.length_drop];omega)
 have HL2:=ah.mk (show 6≤((l.drop 1).drop 6).length by rw [List.length_drop,List.length_drop];omega)
 have HL3:=ah.mk (show (((l.drop 1).drop 6).drop 6).length=0 by rw [List.length_drop,List.length_drop,List.length_drop];omega)
 have HI:=ah.mk hid
 have HA:=ah.mk hat
 have uz:=Lib.hid hw1
 clear hr hc hG h13 h3 hid hat h b1 b2 b3 hw1
 go_enter Tryz.func23,Tryz.ntmps23
 go_wp2_with fail
 rw [← uz.out]
 refine HBy.out.mono ?_
 rintro e w2 ⟨rfl,⟨A2,c2,hr2⟩,hk2⟩
 have HD2:=ah.mk hr2
 have HZ2:=ah.mk ((hk2.2 w.heap.size (by rw [HS1.out];omega) aA cP).trans HZ1.out)
 have TH:=ah.mk (show w.heap.size + 2≤w2.heap.size by have:=hk2.1;have:=HS1.out;omega)
 clear hr2 hk2
 go_wp2_with fail
 have HN1:=ah.mk (xC (HD2.out.alloc (.cells (Jd 3 0 0) 46)) HL1.out)
 rw [HI.out] at HN1
 refine HN1.out.mono ?_
 rintro e w3 ⟨rfl,⟨A3,c3,hr3⟩,hk3⟩
 have HD3:=ah.mk hr3
 have HK3:=ah.mk hk3
 have hg5:w2.heap.size≠w.heap.size + 1:=by have:=TH.out;omega
 have z6:=ah.mk (show w3.heap[w2.heap.size]? =some (.cells (Jd 3 0 0) 46 (0,0)) from (hk3.2 w2.heap.size cP hg5 cP).trans (iE w2 _))
 have HZ3:=ah.mk (show w3.heap[w.heap.size]? =some (.cells zCh 46 (0,0)) from (hk3.2 w.heap.size (by have:=TH.out;simp;omega) aA cP).trans (gG HZ2.out _))
 clear hr3 hk3 HN1
 have ca0:=(af z6.out 0).trans rfl
 have ca1:=(af z6.out 1).trans rfl
 have ca2:=(af z6.out 2).trans rfl
 have ca3:=(af z6.out 3).trans rfl
 have ca4:=(af z6.out 4).trans rfl
 have ca5:=(af z6.out 5).trans rfl
 have ca6:=(af z6.out 6).trans rfl
 have ca7:=(af z6.out 7).trans rfl
 have ca8:=(af z6.out 8).trans rfl
 have ca9:=(af z6.out 9).trans rfl
 have axZ:=(af z6.out 10).trans rfl
 have ax0:=(af z6.out 11).trans rfl
 have ax1:=(af z6.out 12).trans rfl
 have ZE:=aa z6.out 0
 have ZF:=aa z6.out 1
 have fa2:=aa z6.out 2
 have fa3:=aa z6.out 3
 have fa4:=aa z6.out 4
 have fa5:=aa z6.out 5
 have fa6:=aa z6.out 6
 have fa7:=aa z6.out 7
 have fa8:=aa z6.out 8
 have fa9:=aa z6.out 9
 have ax2:=aa z6.out 10
 have ax3:=aa z6.out 11
 have ax4:=aa z6.out 12
 go_wp2_with fail
 have ZG:w.heap.size≤w2.heap.size:=by have:=TH.out;omega
 have HN2:=ah.mk (xC (HD3.out.far w2.heap.size 1 (.int .i64 id) hg5 ZG) HL2.out)
 rw [HA.out] at HN2
 refine HN2.out.mono ?_
 rintro e w4 ⟨rfl,⟨A4,c4,hr4⟩,hk4⟩
 have hS3:w2.heap.size < w3.heap.size:=by have h1:=iE w2 (.cells (Jd 3 0 0) 46);have h2:=z6.out;by_cases h3:w2.heap.size < w3.heap.size;exact h3;rw [Array.getElem?_eq_none aA] at h2;cases h2
 have fy:=ah.mk (show w4.heap[w2.heap.size]? =some (.cells (Jd 3 id 0) 46 (0,0)) from (hk4.2 w2.heap.size (by simpa using hS3) hg5 cP).trans (aZ z6.out 1 _ rfl))
 have ajT:w.heap.size≠w2.heap.size:=by have:=TH.out;omega
 have AQ:=ah.mk (show w4.heap[w.heap.size]? =some (.cells zCh 46 (0,0)) from (hk4.2 w.heap.size (by have:=TH.out;have:=hS3;simp;omega) aA cP).trans ((Below.heap_setCell w3 ⟨w2.heap.size,1,none⟩ _ w.heap.size ajT).trans HZ3.out))
 have HB4:=ah.mk hr4.bl
 have hb4:=hr4.hb
 rw [HL3.out] at hb4
 have HR4:=ah.mk hb4
 have HS4:=ah.mk hS3
 have HK4:=ah.mk hk4
 clear hr4 hk4 HN2 hb4 hS3
 clear ca0 ZE
 clear ca1 ZF
 clear ca2 fa2
 clear ca3 fa3
 clear ca4 fa4
 clear ca5 fa5
 clear ca6 fa6
 clear ca7 fa7
 clear ca8 fa8
 clear ca9 fa9
 clear axZ ax2
 clear ax0 ax3
 clear ax1 ax4
 have cb0:=(af fy.out 0).trans rfl
 have cb1:=(af fy.out 1).trans rfl
 have cb2:=(af fy.out 2).trans rfl
 have cb3:=(af fy.out 3).trans rfl
 have cb4:=(af fy.out 4).trans rfl
 have cb5:=(af fy.out 5).trans rfl
 have cb6:=(af fy.out 6).trans rfl
 have cb7:=(af fy.out 7).trans rfl
 have cb8:=(af fy.out 8).trans rfl
 have cb9:=(af fy.out 9).trans rfl
 have aD0:=(af fy.out 10).trans rfl
 have aD1:=(af fy.out 11).trans rfl
 have aD2:=(af fy.out 12).trans rfl
 have fb0:=aa fy.out 0
 have fb1:=aa fy.out 1
 have fb2:=aa fy.out 2
 have fb3:=aa fy.out 3
 have fb4:=aa fy.out 4
 have fb5:=aa fy.out 5
 have fb6:=aa fy.out 6
 have fb7:=aa fy.out 7
 have fb8:=aa fy.out 8
 have fb9:=aa fy.out 9
 have aD3:=aa fy.out 10
 have aD4:=aa fy.out 11
 have aD5:=aa fy.out 12
 have cz0:=(af AQ.out 0).trans rfl
 have cz1:=(af AQ.out 1).trans rfl
 have cz2:=(af AQ.out 2).trans rfl
 have cz3:=(af AQ.out 3).trans rfl
 have cz4:=(af AQ.out 4).trans rfl
 have cz5:=(af AQ.out 5).trans rfl
 have cz6:=(af AQ.out 6).trans rfl
 have cz7:=(af AQ.out 7).trans rfl
 have cz8:=(af AQ.out 8).trans rfl
 have cz9:=(af AQ.out 9).trans rfl
 have aD6:=(af AQ.out 10).trans rfl
 have aD7:=(af AQ.out 11).trans rfl
 have aD8:=(af AQ.out 12).trans rfl
 have fz0:=aa AQ.out 0
 have fz1:=aa AQ.out 1
 have fz2:=aa AQ.out 2
 have fz3:=aa AQ.out 3
 have fz4:=aa AQ.out 4
 have fz5:=aa AQ.out 5
 have fz6:=aa AQ.out 6
 have fz7:=aa AQ.out 7
 have fz8:=aa AQ.out 8
 have fz9:=aa AQ.out 9
 have aD9:=aa AQ.out 10
 have aEa:=aa AQ.out 11
 have aEb:=aa AQ.out 12
 have cr0:=(af HR4.out 0).trans rfl
 have cr1:=(af HR4.out 1).trans rfl
 have Re:=aa HR4.out 0
 have Rf:=aa HR4.out 1
 go_wp2_with (first|(go_at_call 58;refine (HRt.out _ ?D9).mono ?_;(case D9=>exact cG HB4.out ZG);rintro e w5 ⟨rfl,tL⟩;have TU:=ah.mk tL;have gu:=ah.mk (az (show (w4.setCell ⟨w2.heap.size,2,none⟩ (.int .i64 at_)).heap[w2.heap.size]? =some (.cells (Jd 3 id at_) 46 (0,0)) from aZ fy.out 2 _ rfl) tL);have AR:=ah.mk (az ((Below.heap_setCell w4 ⟨w2.heap.size,2,none⟩ (.int .i64 at_) w.heap.size ajT).trans AQ.out) tL);clear tL;have cy0:=(af gu.out 0).trans rfl;have cy1:=(af gu.out 1).trans rfl;have cy2:=(af gu.out 2).trans rfl;have cy3:=(af gu.out 3).trans rfl;have cy4:=(af gu.out 4).trans rfl;have cy5:=(af gu.out 5).trans rfl;have cy6:=(af gu.out 6).trans rfl;have cy7:=(af gu.out 7).trans rfl;have cy8:=(af gu.out 8).trans rfl;have cy9:=(af gu.out 9).trans rfl;have aEc:=(af gu.out 10).trans rfl;have aEd:=(af gu.out 11).trans rfl;have aEe:=(af gu.out 12).trans rfl;have fy0:=aa gu.out 0;have fy1:=aa gu.out 1;have fy2:=aa gu.out 2;have fy3:=aa gu.out 3;have fy4:=aa gu.out 4;have fy5:=aa gu.out 5;have fy6:=aa gu.out 6;have fy7:=aa gu.out 7;have fy8:=aa gu.out 8;have fy9:=aa gu.out 9;have aEf:=aa gu.out 10;have aEg:=aa gu.out 11;have aEh:=aa gu.out 12;have cx0:=(af AR.out 0).trans rfl;have cx1:=(af AR.out 1).trans rfl;have cx2:=(af AR.out 2).trans rfl;have cx3:=(af AR.out 3).trans rfl;have cx4:=(af AR.out 4).trans rfl;have cx5:=(af AR.out 5).trans rfl;have cx6:=(af AR.out 6).trans rfl;have cx7:=(af AR.out 7).trans rfl;have cx8:=(af AR.out 8).trans rfl;have cx9:=(af AR.out 9).trans rfl;have aEi:=(af AR.out 10).trans rfl;have aEj:=(af AR.out 11).trans rfl;have aEk:=(af AR.out 12).trans rfl;have fx0:=aa AR.out 0;have fx1:=aa AR.out 1;have fx2:=aa AR.out 2;have fx3:=aa AR.out 3;have fx4:=aa AR.out 4;have fx5:=aa AR.out 5;have fx6:=aa AR.out 6;have fx7:=aa AR.out 7;have fx8:=aa AR.out 8;have fx9:=aa AR.out 9;have aEl:=aa AR.out 10;have aEm:=aa AR.out 11;have aEn:=aa AR.out 12))
 refine bodyPost_ret (tZ rfl _ _ w.heap.size 46 (Jd 3 id at_) (0,0) _ rfl (aZ (cs:=Jd 3 id at_) (aZ (cs:=Jd 3 id at_) (aZ (cs:=Jd 3 id at_) (aZ (cs:=Jd 3 id at_) (aZ (cs:=Jd 3 id at_) (aZ (cs:=Jd 3 id at_) (aZ (cs:=Jd 3 id at_) (aZ (cs:=Jd 3 id at_) (aZ (cs:=Jd 3 id at_) (aZ (cs:=Jd 3 id at_) (aZ (cs:=Jd 3 id 0) (aZ (cs:=Jd 3 0 0) (aZ (cs:=Jd 0 0 0) AR.out 0 _ rfl) 1 _ rfl) 2 _ rfl) 3 _ rfl) 4 _ rfl) 5 _ rfl) 6 _ rfl) 7 _ rfl) 8 _ rfl) 9 _ rfl) 10 _ rfl) 11 _ rfl) 12 _ rfl) hu1 rfl aq) rfl ?_
 exact ⟨rfl,(cG (cG (cG (cG (cG (cG (cG (cG (cG (cG (cG (cG (cG (cj (cG HB4.out ZG) (cG HB4.out ZG).size TU.out) (Nat.le_refl _)) (Nat.le_refl _)) (Nat.le_refl _)) (Nat.le_refl _)) (Nat.le_refl _)) (Nat.le_refl _)) (Nat.le_refl _)) (Nat.le_refl _)) (Nat.le_refl _)) (Nat.le_refl _)) (Nat.le_refl _)) (Nat.le_refl _)) (Nat.le_refl _))⟩
theorem jC.calls (k:Nat) (A0:Option Addr) (c0:Nat) (l0:List Int) (r1 r2 r3 r4 r5:Int) (r6:Bool) (r7:List ByteArray) (r8 r9:ByteArray) (r10:Bool) (r11:List jz) (r12:List Int) (r13 r14:Int) (w:World)
 (nE:Kd.C (Kd.int .u8) w A0 l0.length l0) (hc0:l0.length≤c0) (hG:bp w) (h:jC.f k l0=some (r1,r2,r3,r4,r5,r6,r7,r8,r9,r10,r11,r12,r13,r14)):
 Calls Tryz.prog 23 #[.slice A0 l0.length c0] w fun e w'=>∃ QI ajU ajV:Value,e= .returned (.tuple #[.agg #[.int .u8 r1,.int .i64 r2,.int .i64 r3,.int .i64 r4,.int .i64 r5,.bool r6,QI,.string r8,.string r9,.bool r10,ajU,ajV,.int .i64 r13],.int .i64 r14])∧Kd.R Kd.string 9 w' w.heap.size (fun _ =>True) QI r7∧Kd.R tq 37 w' w.heap.size (fun _ =>True) ajU r11∧Kd.R (Kd.int .u8) 5 w' w.heap.size (fun _ =>True) ajV r12∧Below w.heap.size w w':=by
 unfold jC.f at h
 by_cases hc:l0.length=13∧rd l0 0=3
 ·rw [if_pos hc] at h
  obtain ⟨ok,h1,h⟩:=Option.bind_eq_some_iff.mp h
  cases ok with
  |false=>cases h
  |true=>
   rw [if_pos rfl] at h
   simp only [Option.some.injEq,Prod.mk.injEq] at h
   obtain ⟨rfl,rfl,rfl,rfl,rfl,rfl,rfl,rfl,rfl,rfl,rfl,rfl,rfl,rfl⟩:=h
   refine (Rb l0 A0 c0 k w nE hc0 hG hc.1 hc.2 _ _ rfl rfl h1).mono ?_
   rintro e w' ⟨rfl,hb⟩
   exact ⟨_,_,_,rfl,Kd.Bh _ _ _ _ _,Kd.Bh _ _ _ _ _,Kd.Bh _ _ _ _ _,hb⟩
 ·rw [if_neg hc] at h
  cases h
end Go.Proofs.YtbjjaaodfbjkfaaGreatDoor.mN
