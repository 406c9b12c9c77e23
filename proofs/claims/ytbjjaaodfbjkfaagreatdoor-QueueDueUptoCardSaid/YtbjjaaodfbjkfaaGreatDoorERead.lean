import Derived.Test.YtbjjaaodfbjkfaaGreatDoorEReader
namespace Go.Proofs.YtbjjaaodfbjkfaaGreatDoor.ow
open Go.RowKit Go.Proofs.ak.bY Go.Proofs.ak.dU Go.Proofs.ak.dJ
set_option linter.unusedVariables false
set_option linter.unusedSimpArgs false
def kf.f (k:Nat) (l0:List Int):Option (Int×Int×Int×Int×Int×Bool×List ByteArray×ByteArray×ByteArray×Bool×List jN×List Int×Int×Int):=
 if l0.length=13∧rd l0 0=3 then
  (cW.f k 3 (FA ((l0.drop 1).take 6)) (FA (((l0.drop 1).drop 6).take 6)) 0 0 false [] ⟨#[]⟩ ⟨#[]⟩ false [] [] 0).bind fun ok=>
    if ok=true then some (3,FA ((l0.drop 1).take 6),FA (((l0.drop 1).drop 6).take 6),0,0,false,[],⟨#[]⟩,⟨#[]⟩,false,[],[],0,0) else none
 else none
theorem kf.mono:∀ l0 k,fP (kf.f k l0) (kf.f (k + 1) l0):=by
 intro l0 k
 unfold kf.f
 exact fP.ite (fP.bind (cW.mono _ _ _ _ _ _ _ _ _ _ _ _ _ _) fun _ =>fP.refl _) (fP.refl _)
theorem RD.alloc {w0 W:World} {g:Nat} {A:Option Addr} {c:Nat} {l:List Int} {off:Bool} (h:RD w0 W g A c l off) (o:Obj):RD w0 (W.alloc o) g A c l off:=⟨iq h.hb _,h.ge,dD h.bl _,h.hr,h.hc⟩
theorem RD.far {w0 W:World} {g:Nat} {A:Option Addr} {c:Nat} {l:List Int} {off:Bool} (h:RD w0 W g A c l off) (b j:Nat) (u:Value) (hne:b≠g) (hge:w0.heap.size≤b):RD w0 (W.setCell ⟨b,j,none⟩ u) g A c l off:=
 ⟨(Below.heap_setCell W ⟨b,j,none⟩ u g (Ne.symm hne)).trans h.hb,h.ge,cC h.bl hge,h.hr,h.hc⟩
abbrev Ky (a b c:Int):Array Value:=#[.int .u8 a,.int .i64 b,.int .i64 c,.int .i64 0,.int .i64 0,.bool false,.slice none 0 0,.string ⟨#[]⟩,.string ⟨#[]⟩,.bool false,.slice none 0 0,.slice none 0 0,.int .i64 0]
abbrev zCh:Array Value:=#[.int .u8 0,.int .i64 0,.int .i64 0,.int .i64 0,.int .i64 0,.bool false,.slice none 0 0,.string ⟨#[]⟩,.string ⟨#[]⟩,.bool false,.slice none 0 0,.slice none 0 0,.int .i64 0]
set_option maxRecDepth 100000 in
set_option maxHeartbeats 8000000 in
theorem Vn (l:List Int) (A:Option Addr) (c:Nat) (k:Nat) (w:World) (hr:Kd.C (Kd.int .u8) w A l.length l) (hc:l.length≤c) (hG:bB w) (h13:l.length=13) (h3:rd l 0=3) (id at_:Int)
 (hid:FA ((l.drop 1).take 6)=id) (hat:FA (((l.drop 1).drop 6).take 6)=at_)
 (h:cW.f k 3 id at_ 0 0 false [] ⟨#[]⟩ ⟨#[]⟩ false [] [] 0=some true):
 Calls Tryz.prog 23 #[.slice A l.length c] w fun e w'=>e= .returned (.tuple #[.agg #[.int .u8 3,.int .i64 id,.int .i64 at_,.int .i64 0,.int .i64 0,.bool false,.slice none 0 0,.string ⟨#[]⟩,.string ⟨#[]⟩,.bool false,.slice none 0 0,.slice none 0 0,.int .i64 0],.int .i64 0])∧Below w.heap.size w w':=by
 have hu1:=Tryz.underlying46
 have hu2:=Tryz.underlying108
 have HRt:=ah.mk (fun W (hb:Below w.heap.size w W)=>cW.calls k 3 id at_ 0 0 false none 0 [] ⟨#[]⟩ ⟨#[]⟩ false none 0 [] none 0 [] 0 true W (Kd.jq _ _) (Nat.le_refl _) (Kd.jq _ _) (Nat.le_refl _) (Kd.jq _ _) (Nat.le_refl _) (hG.below hb) h)
 obtain ⟨w1,hw1⟩:∃ w1,w1=(w.alloc (.cells zCh 46)).alloc (.cells #[.slice A l.length c,.bool false] 108):=⟨_,rfl⟩
 have rC:=ah.mk (show Below w.heap.size w w1 by rw [hw1];exact dD (dD (Below.refl _ _) _) _)
 have HD1:=ah.mk (show RD w w1 (w.heap.size + 1) A c l false from ⟨by rw [hw1];have:=kA (w.alloc (.cells zCh 46)) (.cells #[.slice A l.length c,.bool false] 108);simpa using this,aA,rC.out,hr,hc⟩)
 have HZ1:=ah.mk (show w1.heap[w.heap.size]? =some (.cells zCh 46 (0,0)) by rw [hw1];exact iq (kA w _) _)
 have HS1:=ah.mk (show w1.heap.size=w.heap.size + 2 by rw [hw1];simp)
 have HBy:=ah.mk (ME HD1.out)
 have b1:MD l=3:=by unfold MD;rw [if_pos aA];exact h3
 have b2:TP l=l.drop 1:=if_pos aA
 have b3:TQ l false=false:=if_pos aA
 rw [b1,b2,b3] at HBy
 have HL1:=ah.mk (show 6≤(l.drop 1).length by rw [List.length_drop];omega)
 have HL2:=ah.mk (show 6≤((l.drop 1).drop 6).length by rw [List.length_drop,List.length_drop];omega)
 have HL3:=ah.mk (show (((l.drop 1).drop 6).drop 6).length=0 by rw [List.length_drop,List.length_drop,List.length_drop];omega)
 have HI:=ah.mk hid
 have HA:=ah.mk hat
 have xC:=Lib.hid hw1
 clear hr hc hG h13 h3 hid hat h b1 b2 b3 hw1
 go_enter Tryz.func23,Tryz.ntmps23
 go_wp2_with fail
 rw [← xC.out]
 refine HBy.out.mono ?_
 rintro e w2 ⟨rfl,⟨A2,c2,hr2⟩,hk2⟩
 have HD2:=ah.mk hr2
 have HZ2:=ah.mk ((hk2.2 w.heap.size (by rw [HS1.out];omega) aA dz).trans HZ1.out)
 have Yf:=ah.mk (show w.heap.size + 2≤w2.heap.size by have:=hk2.1;have:=HS1.out;omega)
 clear hr2 hk2
 go_wp2_with fail
 have HN1:=ah.mk (yM (HD2.out.alloc (.cells (Ky 3 0 0) 46)) HL1.out)
 rw [HI.out] at HN1
 refine HN1.out.mono ?_
 rintro e w3 ⟨rfl,⟨A3,c3,hr3⟩,hk3⟩
 have HD3:=ah.mk hr3
 have HK3:=ah.mk hk3
 have hg5:w2.heap.size≠w.heap.size + 1:=by have:=Yf.out;omega
 have Bn:=ah.mk (show w3.heap[w2.heap.size]? =some (.cells (Ky 3 0 0) 46 (0,0)) from (hk3.2 w2.heap.size dz hg5 dz).trans (kA w2 _))
 have HZ3:=ah.mk (show w3.heap[w.heap.size]? =some (.cells zCh 46 (0,0)) from (hk3.2 w.heap.size (by have:=Yf.out;simp;omega) aA dz).trans (iq HZ2.out _))
 clear hr3 hk3 HN1
 have ca0:=(af Bn.out 0).trans rfl
 have ca1:=(af Bn.out 1).trans rfl
 have ca2:=(af Bn.out 2).trans rfl
 have ca3:=(af Bn.out 3).trans rfl
 have ca4:=(af Bn.out 4).trans rfl
 have ca5:=(af Bn.out 5).trans rfl
 have ca6:=(af Bn.out 6).trans rfl
 have ca7:=(af Bn.out 7).trans rfl
 have ca8:=(af Bn.out 8).trans rfl
 have ca9:=(af Bn.out 9).trans rfl
 have aEb:=(af Bn.out 10).trans rfl
 have aEc:=(af Bn.out 11).trans rfl
 have aEd:=(af Bn.out 12).trans rfl
 have fa0:=aa Bn.out 0
 have fa1:=aa Bn.out 1
 have fa2:=aa Bn.out 2
 have fa3:=aa Bn.out 3
 have fa4:=aa Bn.out 4
 have fa5:=aa Bn.out 5
 have fa6:=aa Bn.out 6
 have fa7:=aa Bn.out 7
 have fa8:=aa Bn.out 8
 have fa9:=aa Bn.out 9
 have aEe:=aa Bn.out 10
 have aEf:=aa Bn.out 11
 have aEg:=aa Bn.out 12
 go_wp2_with fail
 have ady:w.heap.size≤w2.heap.size:=by have:=Yf.out;omega
 have HN2:=ah.mk (yM (HD3.out.far w2.heap.size 1 (.int .i64 id) hg5 ady) HL2.out)
 rw [HA.out] at HN2
 refine HN2.out.mono ?_
 rintro e w4 ⟨rfl,⟨A4,c4,hr4⟩,hk4⟩
 have hS3:w2.heap.size < w3.heap.size:=by have h1:=kA w2 (.cells (Ky 3 0 0) 46);have h2:=Bn.out;by_cases h3:w2.heap.size < w3.heap.size;exact h3;rw [Array.getElem?_eq_none aA] at h2;cases h2
 have fX:=ah.mk (show w4.heap[w2.heap.size]? =some (.cells (Ky 3 id 0) 46 (0,0)) from (hk4.2 w2.heap.size (by simpa using hS3) hg5 dz).trans (aW Bn.out 1 _ rfl))
 have aoC:w.heap.size≠w2.heap.size:=by have:=Yf.out;omega
 have B0:=ah.mk (show w4.heap[w.heap.size]? =some (.cells zCh 46 (0,0)) from (hk4.2 w.heap.size (by have:=Yf.out;have:=hS3;simp;omega) aA dz).trans ((Below.heap_setCell w3 ⟨w2.heap.size,1,none⟩ _ w.heap.size aoC).trans HZ3.out))
 have HB4:=ah.mk hr4.bl
 have hb4:=hr4.hb
 rw [HL3.out] at hb4
 have HR4:=ah.mk hb4
 have HS4:=ah.mk hS3
 have HK4:=ah.mk hk4
 clear hr4 hk4 HN2 hb4 hS3
 clear ca0 fa0
 clear ca1 fa1
 clear ca2 fa2
 clear ca3 fa3
 clear ca4 fa4
 clear ca5 fa5
 clear ca6 fa6
 clear ca7 fa7
 clear ca8 fa8
 clear ca9 fa9
 clear aEb aEe
 clear aEc aEf
 clear aEd aEg
 have cb0:=(af fX.out 0).trans rfl
 have cb1:=(af fX.out 1).trans rfl
 have cb2:=(af fX.out 2).trans rfl
 have cb3:=(af fX.out 3).trans rfl
 have cb4:=(af fX.out 4).trans rfl
 have cb5:=(af fX.out 5).trans rfl
 have cb6:=(af fX.out 6).trans rfl
 have cb7:=(af fX.out 7).trans rfl
 have cb8:=(af fX.out 8).trans rfl
 have cb9:=(af fX.out 9).trans rfl
 have aLi:=(af fX.out 10).trans rfl
 have aLj:=(af fX.out 11).trans rfl
 have aLk:=(af fX.out 12).trans rfl
 have fb0:=aa fX.out 0
 have fb1:=aa fX.out 1
 have fb2:=aa fX.out 2
 have fb3:=aa fX.out 3
 have fb4:=aa fX.out 4
 have fb5:=aa fX.out 5
 have fb6:=aa fX.out 6
 have fb7:=aa fX.out 7
 have fb8:=aa fX.out 8
 have fb9:=aa fX.out 9
 have aLl:=aa fX.out 10
 have aLm:=aa fX.out 11
 have aLn:=aa fX.out 12
 have cz0:=(af B0.out 0).trans rfl
 have cz1:=(af B0.out 1).trans rfl
 have cz2:=(af B0.out 2).trans rfl
 have cz3:=(af B0.out 3).trans rfl
 have cz4:=(af B0.out 4).trans rfl
 have cz5:=(af B0.out 5).trans rfl
 have cz6:=(af B0.out 6).trans rfl
 have cz7:=(af B0.out 7).trans rfl
 have cz8:=(af B0.out 8).trans rfl
 have cz9:=(af B0.out 9).trans rfl
 have aLo:=(af B0.out 10).trans rfl
 have aLp:=(af B0.out 11).trans rfl
 have aLq:=(af B0.out 12).trans rfl
 have fz0:=aa B0.out 0
 have fz1:=aa B0.out 1
 have fz2:=aa B0.out 2
 have fz3:=aa B0.out 3
 have fz4:=aa B0.out 4
 have fz5:=aa B0.out 5
 have fz6:=aa B0.out 6
 have fz7:=aa B0.out 7
 have fz8:=aa B0.out 8
 have fz9:=aa B0.out 9
 have aLr:=aa B0.out 10
 have aLs:=aa B0.out 11
 have aLt:=aa B0.out 12
 have cr0:=(af HR4.out 0).trans rfl
 have cr1:=(af HR4.out 1).trans rfl
 have fr0:=aa HR4.out 0
 have fr1:=aa HR4.out 1
 go_wp2_with (first|(go_at_call 58;refine (HRt.out _ ?Fz).mono ?_;(case Fz=>exact cC HB4.out ady);rintro e w5 ⟨rfl,xB⟩;have Yl:=ah.mk xB;have gM:=ah.mk (az (show (w4.setCell ⟨w2.heap.size,2,none⟩ (.int .i64 at_)).heap[w2.heap.size]? =some (.cells (Ky 3 id at_) 46 (0,0)) from aW fX.out 2 _ rfl) xB);have Ca:=ah.mk (az ((Below.heap_setCell w4 ⟨w2.heap.size,2,none⟩ (.int .i64 at_) w.heap.size aoC).trans B0.out) xB);clear xB;have cy0:=(af gM.out 0).trans rfl;have cy1:=(af gM.out 1).trans rfl;have cy2:=(af gM.out 2).trans rfl;have cy3:=(af gM.out 3).trans rfl;have cy4:=(af gM.out 4).trans rfl;have cy5:=(af gM.out 5).trans rfl;have cy6:=(af gM.out 6).trans rfl;have cy7:=(af gM.out 7).trans rfl;have cy8:=(af gM.out 8).trans rfl;have cy9:=(af gM.out 9).trans rfl;have aLu:=(af gM.out 10).trans rfl;have aLv:=(af gM.out 11).trans rfl;have aLw:=(af gM.out 12).trans rfl;have fy0:=aa gM.out 0;have fy1:=aa gM.out 1;have fy2:=aa gM.out 2;have fy3:=aa gM.out 3;have fy4:=aa gM.out 4;have fy5:=aa gM.out 5;have fy6:=aa gM.out 6;have fy7:=aa gM.out 7;have fy8:=aa gM.out 8;have fy9:=aa gM.out 9;have aLx:=aa gM.out 10;have aLy:=aa gM.out 11;have aLz:=aa gM.out 12;have cx0:=(af Ca.out 0).trans rfl;have cx1:=(af Ca.out 1).trans rfl;have cx2:=(af Ca.out 2).trans rfl;have cx3:=(af Ca.out 3).trans rfl;have cx4:=(af Ca.out 4).trans rfl;have cx5:=(af Ca.out 5).trans rfl;have cx6:=(af Ca.out 6).trans rfl;have cx7:=(af Ca.out 7).trans rfl;have cx8:=(af Ca.out 8).trans rfl;have cx9:=(af Ca.out 9).trans rfl;have aLA:=(af Ca.out 10).trans rfl;have aLB:=(af Ca.out 11).trans rfl;have aLC:=(af Ca.out 12).trans rfl;have fx0:=aa Ca.out 0;have fx1:=aa Ca.out 1;have fx2:=aa Ca.out 2;have fx3:=aa Ca.out 3;have fx4:=aa Ca.out 4;have fx5:=aa Ca.out 5;have fx6:=aa Ca.out 6;have fx7:=aa Ca.out 7;have fx8:=aa Ca.out 8;have fx9:=aa Ca.out 9;have aLD:=aa Ca.out 10;have aLE:=aa Ca.out 11;have aLF:=aa Ca.out 12))
 refine bodyPost_ret (vp rfl _ _ w.heap.size 46 (Ky 3 id at_) (0,0) _ rfl (aW (cs:=Ky 3 id at_) (aW (cs:=Ky 3 id at_) (aW (cs:=Ky 3 id at_) (aW (cs:=Ky 3 id at_) (aW (cs:=Ky 3 id at_) (aW (cs:=Ky 3 id at_) (aW (cs:=Ky 3 id at_) (aW (cs:=Ky 3 id at_) (aW (cs:=Ky 3 id at_) (aW (cs:=Ky 3 id at_) (aW (cs:=Ky 3 id 0) (aW (cs:=Ky 3 0 0) (aW (cs:=Ky 0 0 0) Ca.out 0 _ rfl) 1 _ rfl) 2 _ rfl) 3 _ rfl) 4 _ rfl) 5 _ rfl) 6 _ rfl) 7 _ rfl) 8 _ rfl) 9 _ rfl) 10 _ rfl) 11 _ rfl) 12 _ rfl) hu1 rfl au) rfl ?_
 exact ⟨rfl,(cC (cC (cC (cC (cC (cC (cC (cC (cC (cC (cC (cC (cC (fY (cC HB4.out ady) (cC HB4.out ady).size Yl.out) (Nat.le_refl _)) (Nat.le_refl _)) (Nat.le_refl _)) (Nat.le_refl _)) (Nat.le_refl _)) (Nat.le_refl _)) (Nat.le_refl _)) (Nat.le_refl _)) (Nat.le_refl _)) (Nat.le_refl _)) (Nat.le_refl _)) (Nat.le_refl _)) (Nat.le_refl _))⟩
theorem kf.calls (k:Nat) (A0:Option Addr) (c0:Nat) (l0:List Int) (r1 r2 r3 r4 r5:Int) (r6:Bool) (r7:List ByteArray) (r8 r9:ByteArray) (r10:Bool) (r11:List jN) (r12:List Int) (r13 r14:Int) (w:World)
 (nZ:Kd.C (Kd.int .u8) w A0 l0.length l0) (hc0:l0.length≤c0) (hG:bB w) (h:kf.f k l0=some (r1,r2,r3,r4,r5,r6,r7,r8,r9,r10,r11,r12,r13,r14)):
 Calls Tryz.prog 23 #[.slice A0 l0.length c0] w fun e w'=>∃ UW aoD aoE:Value,e= .returned (.tuple #[.agg #[.int .u8 r1,.int .i64 r2,.int .i64 r3,.int .i64 r4,.int .i64 r5,.bool r6,UW,.string r8,.string r9,.bool r10,aoD,aoE,.int .i64 r13],.int .i64 r14])∧Kd.R Kd.string 9 w' w.heap.size (fun _ =>True) UW r7∧Kd.R sN 37 w' w.heap.size (fun _ =>True) aoD r11∧Kd.R (Kd.int .u8) 5 w' w.heap.size (fun _ =>True) aoE r12∧Below w.heap.size w w':=by
 unfold kf.f at h
 by_cases hc:l0.length=13∧rd l0 0=3
 ·rw [if_pos hc] at h
  obtain ⟨ok,h1,h⟩:=Option.bind_eq_some_iff.mp h
  cases ok with
  |false=>cases h
  |true=>
   rw [if_pos rfl] at h
   simp only [Option.some.injEq,Prod.mk.injEq] at h
   obtain ⟨rfl,rfl,rfl,rfl,rfl,rfl,rfl,rfl,rfl,rfl,rfl,rfl,rfl,rfl⟩:=h
   refine (Vn l0 A0 c0 k w nZ hc0 hG hc.1 hc.2 _ _ rfl rfl h1).mono ?_
   rintro e w' ⟨rfl,hb⟩
   exact ⟨_,_,_,rfl,Kd.Cs _ _ _ _ _,Kd.Cs _ _ _ _ _,Kd.Cs _ _ _ _ _,hb⟩
 ·rw [if_neg hc] at h
  cases h
end Go.Proofs.YtbjjaaodfbjkfaaGreatDoor.ow
