import Derived.Test.YtbjjaaodfbjkfaaGreatDoorEReader
namespace Go.Proofs.YtbjjaaodfbjkfaaGreatDoor.mU
open Go.RowKit Go.Proofs.ak.bR Go.Proofs.ak.dz Go.Proofs.ak.cZ
set_option linter.unusedVariables false
set_option linter.unusedSimpArgs false
def jO.f (k:Nat) (l0:List Int):Option (Int×Int×Int×Int×Int×Bool×List ByteArray×ByteArray×ByteArray×Bool×List jM×List Int×Int×Int):=
 if l0.length=13∧rd l0 0=3 then
  (cK.f k 3 (EG ((l0.drop 1).take 6)) (EG (((l0.drop 1).drop 6).take 6)) 0 0 false [] ⟨#[]⟩ ⟨#[]⟩ false [] [] 0).bind fun ok=>
    if ok=true then some (3,EG ((l0.drop 1).take 6),EG (((l0.drop 1).drop 6).take 6),0,0,false,[],⟨#[]⟩,⟨#[]⟩,false,[],[],0,0) else none
 else none
theorem jO.mono:∀ l0 k,eZ (jO.f k l0) (jO.f (k + 1) l0):=by
 intro l0 k
 unfold jO.f
 exact eZ.ite (eZ.bind (cK.mono _ _ _ _ _ _ _ _ _ _ _ _ _ _) fun _ =>eZ.refl _) (eZ.refl _)
theorem RD.alloc {w0 W:World} {g:Nat} {A:Option Addr} {c:Nat} {l:List Int} {off:Bool} (h:RD w0 W g A c l off) (o:Obj):RD w0 (W.alloc o) g A c l off:=⟨gM h.hb _,h.ge,b9 h.bl _,h.hr,h.hc⟩
theorem RD.far {w0 W:World} {g:Nat} {A:Option Addr} {c:Nat} {l:List Int} {off:Bool} (h:RD w0 W g A c l off) (b j:Nat) (u:Value) (hne:b≠g) (hge:w0.heap.size≤b):RD w0 (W.setCell ⟨b,j,none⟩ u) g A c l off:=
 ⟨(Below.heap_setCell W ⟨b,j,none⟩ u g (Ne.symm hne)).trans h.hb,h.ge,cC h.bl hge,h.hr,h.hc⟩
abbrev JU (a b c:Int):Array Value:=#[.int .u8 a,.int .i64 b,.int .i64 c,.int .i64 0,.int .i64 0,.bool false,.slice none 0 0,.string ⟨#[]⟩,.string ⟨#[]⟩,.bool false,.slice none 0 0,.slice none 0 0,.int .i64 0]
abbrev zCh:Array Value:=#[.int .u8 0,.int .i64 0,.int .i64 0,.int .i64 0,.int .i64 0,.bool false,.slice none 0 0,.string ⟨#[]⟩,.string ⟨#[]⟩,.bool false,.slice none 0 0,.slice none 0 0,.int .i64 0]
set_option maxRecDepth 100000 in
set_option maxHeartbeats 8000000 in
theorem Sa (l:List Int) (A:Option Addr) (c:Nat) (k:Nat) (w:World) (hr:Kd.C (Kd.int .u8) w A l.length l) (hc:l.length≤c) (hG:bq w) (h13:l.length=13) (h3:rd l 0=3) (id at_:Int)
 (hid:EG ((l.drop 1).take 6)=id) (hat:EG (((l.drop 1).drop 6).take 6)=at_)
 (h:cK.f k 3 id at_ 0 0 false [] ⟨#[]⟩ ⟨#[]⟩ false [] [] 0=some true):
 Calls Tryz.prog 23 #[.slice A l.length c] w fun e w'=>e= .returned (.tuple #[.agg #[.int .u8 3,.int .i64 id,.int .i64 at_,.int .i64 0,.int .i64 0,.bool false,.slice none 0 0,.string ⟨#[]⟩,.string ⟨#[]⟩,.bool false,.slice none 0 0,.slice none 0 0,.int .i64 0],.int .i64 0])∧Below w.heap.size w w':=by
 have hu1:=Tryz.underlying46
 have hu2:=Tryz.underlying108
 have HRt:=ah.mk (fun W (hb:Below w.heap.size w W)=>cK.calls k 3 id at_ 0 0 false none 0 [] ⟨#[]⟩ ⟨#[]⟩ false none 0 [] none 0 [] 0 true W (Kd.mE _ _) (Nat.le_refl _) (Kd.mE _ _) (Nat.le_refl _) (Kd.mE _ _) (Nat.le_refl _) (hG.below hb) h)
 obtain ⟨w1,hw1⟩:∃ w1,w1=(w.alloc (.cells zCh 46)).alloc (.cells #[.slice A l.length c,.bool false] 108):=⟨_,rfl⟩
 have qc:=ah.mk (show Below w.heap.size w w1 by rw [hw1];exact b9 (b9 (Below.refl _ _) _) _)
 have HD1:=ah.mk (show RD w w1 (w.heap.size + 1) A c l false from ⟨by rw [hw1];have:=jg (w.alloc (.cells zCh 46)) (.cells #[.slice A l.length c,.bool false] 108);simpa using this,az,qc.out,hr,hc⟩)
 have HZ1:=ah.mk (show w1.heap[w.heap.size]? =some (.cells zCh 46 (0,0)) by rw [hw1];exact gM (jg w _) _)
 have HS1:=ah.mk (show w1.heap.size=w.heap.size + 2 by rw [hw1];simp)
 have HBy:=ah.mk (LA HD1.out)
 have b1:Lz l=3:=by unfold Lz;rw [if_pos az];exact h3
 have b2:QN l=l.drop 1:=if_pos az
 have b3:QO l false=false:=if_pos az
 rw [b1,b2,b3] at HBy
 have HL1:=ah.mk (show 6≤(l.drop 1).length by rw [List.length_drop];omega)
 have HL2:=ah.mk (show 6≤((l.drop 1).drop 6).length by rw [List.length_drop,List.length_drop];omega)
 have HL3:=ah.mk (show (((l.drop 1).drop 6).drop 6).length=0 by rw [List.length_drop,List.length_drop,List.length_drop];omega)
 have HI:=ah.mk hid
 have HA:=ah.mk hat
 have wm:=Lib.hid hw1
 clear hr hc hG h13 h3 hid hat h b1 b2 b3 hw1
 go_enter Tryz.func23,Tryz.ntmps23
 go_wp2_with fail
 rw [← wm.out]
 refine HBy.out.mono ?_
 rintro e w2 ⟨rfl,⟨A2,c2,hr2⟩,hk2⟩
 have HD2:=ah.mk hr2
 have HZ2:=ah.mk ((hk2.2 w.heap.size (by rw [HS1.out];omega) az cF).trans HZ1.out)
 have UG:=ah.mk (show w.heap.size + 2≤w2.heap.size by have:=hk2.1;have:=HS1.out;omega)
 clear hr2 hk2
 go_wp2_with fail
 have HN1:=ah.mk (yt (HD2.out.alloc (.cells (JU 3 0 0) 46)) HL1.out)
 rw [HI.out] at HN1
 refine HN1.out.mono ?_
 rintro e w3 ⟨rfl,⟨A3,c3,hr3⟩,hk3⟩
 have HD3:=ah.mk hr3
 have HK3:=ah.mk hk3
 have hg5:w2.heap.size≠w.heap.size + 1:=by have:=UG.out;omega
 have Aj:=ah.mk (show w3.heap[w2.heap.size]? =some (.cells (JU 3 0 0) 46 (0,0)) from (hk3.2 w2.heap.size cF hg5 cF).trans (jg w2 _))
 have HZ3:=ah.mk (show w3.heap[w.heap.size]? =some (.cells zCh 46 (0,0)) from (hk3.2 w.heap.size (by have:=UG.out;simp;omega) az cF).trans (gM HZ2.out _))
 clear hr3 hk3 HN1
 have ca0:=(af Aj.out 0).trans rfl
 have ca1:=(af Aj.out 1).trans rfl
 have ca2:=(af Aj.out 2).trans rfl
 have ca3:=(af Aj.out 3).trans rfl
 have ca4:=(af Aj.out 4).trans rfl
 have ca5:=(af Aj.out 5).trans rfl
 have ca6:=(af Aj.out 6).trans rfl
 have ca7:=(af Aj.out 7).trans rfl
 have ca8:=(af Aj.out 8).trans rfl
 have ca9:=(af Aj.out 9).trans rfl
 have azg:=(af Aj.out 10).trans rfl
 have azh:=(af Aj.out 11).trans rfl
 have azi:=(af Aj.out 12).trans rfl
 have fa0:=aa Aj.out 0
 have fa1:=aa Aj.out 1
 have fa2:=aa Aj.out 2
 have fa3:=aa Aj.out 3
 have fa4:=aa Aj.out 4
 have fa5:=aa Aj.out 5
 have fa6:=aa Aj.out 6
 have fa7:=aa Aj.out 7
 have fa8:=aa Aj.out 8
 have fa9:=aa Aj.out 9
 have azj:=aa Aj.out 10
 have azk:=aa Aj.out 11
 have azl:=aa Aj.out 12
 go_wp2_with fail
 have aaI:w.heap.size≤w2.heap.size:=by have:=UG.out;omega
 have HN2:=ah.mk (yt (HD3.out.far w2.heap.size 1 (.int .i64 id) hg5 aaI) HL2.out)
 rw [HA.out] at HN2
 refine HN2.out.mono ?_
 rintro e w4 ⟨rfl,⟨A4,c4,hr4⟩,hk4⟩
 have hS3:w2.heap.size < w3.heap.size:=by have h1:=jg w2 (.cells (JU 3 0 0) 46);have h2:=Aj.out;by_cases h3:w2.heap.size < w3.heap.size;exact h3;rw [Array.getElem?_eq_none az] at h2;cases h2
 have fA:=ah.mk (show w4.heap[w2.heap.size]? =some (.cells (JU 3 id 0) 46 (0,0)) from (hk4.2 w2.heap.size (by simpa using hS3) hg5 cF).trans (aZ Aj.out 1 _ rfl))
 have ak4:w.heap.size≠w2.heap.size:=by have:=UG.out;omega
 have Bh:=ah.mk (show w4.heap[w.heap.size]? =some (.cells zCh 46 (0,0)) from (hk4.2 w.heap.size (by have:=UG.out;have:=hS3;simp;omega) az cF).trans ((Below.heap_setCell w3 ⟨w2.heap.size,1,none⟩ _ w.heap.size ak4).trans HZ3.out))
 have HB4:=ah.mk hr4.bl
 have hb4:=hr4.hb
 rw [HL3.out] at hb4
 have HR4:=ah.mk hb4
 have HS4:=ah.mk hS3
 have HK4:=ah.mk hk4
 clear hr4 hk4 HN2 hb4 hS3
 clear ca0 fa0
 clear ca1 fa1
 clear ca2 fa2
 clear ca3 fa3
 clear ca4 fa4
 clear ca5 fa5
 clear ca6 fa6
 clear ca7 fa7
 clear ca8 fa8
 clear ca9 fa9
 clear azg azj
 clear azh azk
 clear azi azl
 have cb0:=(af fA.out 0).trans rfl
 have cb1:=(af fA.out 1).trans rfl
 have cb2:=(af fA.out 2).trans rfl
 have cb3:=(af fA.out 3).trans rfl
 have cb4:=(af fA.out 4).trans rfl
 have cb5:=(af fA.out 5).trans rfl
 have cb6:=(af fA.out 6).trans rfl
 have cb7:=(af fA.out 7).trans rfl
 have cb8:=(af fA.out 8).trans rfl
 have cb9:=(af fA.out 9).trans rfl
 have aFy:=(af fA.out 10).trans rfl
 have aFz:=(af fA.out 11).trans rfl
 have aFA:=(af fA.out 12).trans rfl
 have fb0:=aa fA.out 0
 have fb1:=aa fA.out 1
 have fb2:=aa fA.out 2
 have fb3:=aa fA.out 3
 have fb4:=aa fA.out 4
 have fb5:=aa fA.out 5
 have fb6:=aa fA.out 6
 have fb7:=aa fA.out 7
 have fb8:=aa fA.out 8
 have fb9:=aa fA.out 9
 have aFB:=aa fA.out 10
 have aFC:=aa fA.out 11
 have aFD:=aa fA.out 12
 have cz0:=(af Bh.out 0).trans rfl
 have cz1:=(af Bh.out 1).trans rfl
 have cz2:=(af Bh.out 2).trans rfl
 have cz3:=(af Bh.out 3).trans rfl
 have cz4:=(af Bh.out 4).trans rfl
 have cz5:=(af Bh.out 5).trans rfl
 have cz6:=(af Bh.out 6).trans rfl
 have cz7:=(af Bh.out 7).trans rfl
 have cz8:=(af Bh.out 8).trans rfl
 have cz9:=(af Bh.out 9).trans rfl
 have aFE:=(af Bh.out 10).trans rfl
 have aFF:=(af Bh.out 11).trans rfl
 have aFG:=(af Bh.out 12).trans rfl
 have fz0:=aa Bh.out 0
 have fz1:=aa Bh.out 1
 have fz2:=aa Bh.out 2
 have fz3:=aa Bh.out 3
 have fz4:=aa Bh.out 4
 have fz5:=aa Bh.out 5
 have fz6:=aa Bh.out 6
 have fz7:=aa Bh.out 7
 have fz8:=aa Bh.out 8
 have fz9:=aa Bh.out 9
 have aFH:=aa Bh.out 10
 have aFI:=aa Bh.out 11
 have aFJ:=aa Bh.out 12
 have cr0:=(af HR4.out 0).trans rfl
 have cr1:=(af HR4.out 1).trans rfl
 have fr0:=aa HR4.out 0
 have fr1:=aa HR4.out 1
 go_wp2_with (first|(go_at_call 58;refine (HRt.out _ ?Es).mono ?_;(case Es=>exact cC HB4.out aaI);rintro e w5 ⟨rfl,tE⟩;have LV:=ah.mk tE;have gh:=ah.mk (aA (show (w4.setCell ⟨w2.heap.size,2,none⟩ (.int .i64 at_)).heap[w2.heap.size]? =some (.cells (JU 3 id at_) 46 (0,0)) from aZ fA.out 2 _ rfl) tE);have Bi:=ah.mk (aA ((Below.heap_setCell w4 ⟨w2.heap.size,2,none⟩ (.int .i64 at_) w.heap.size ak4).trans Bh.out) tE);clear tE;have cy0:=(af gh.out 0).trans rfl;have cy1:=(af gh.out 1).trans rfl;have cy2:=(af gh.out 2).trans rfl;have cy3:=(af gh.out 3).trans rfl;have cy4:=(af gh.out 4).trans rfl;have cy5:=(af gh.out 5).trans rfl;have cy6:=(af gh.out 6).trans rfl;have cy7:=(af gh.out 7).trans rfl;have cy8:=(af gh.out 8).trans rfl;have cy9:=(af gh.out 9).trans rfl;have aFK:=(af gh.out 10).trans rfl;have aFL:=(af gh.out 11).trans rfl;have aFM:=(af gh.out 12).trans rfl;have fy0:=aa gh.out 0;have fy1:=aa gh.out 1;have fy2:=aa gh.out 2;have fy3:=aa gh.out 3;have fy4:=aa gh.out 4;have fy5:=aa gh.out 5;have fy6:=aa gh.out 6;have fy7:=aa gh.out 7;have fy8:=aa gh.out 8;have fy9:=aa gh.out 9;have aFN:=aa gh.out 10;have aFO:=aa gh.out 11;have aFP:=aa gh.out 12;have cx0:=(af Bi.out 0).trans rfl;have cx1:=(af Bi.out 1).trans rfl;have cx2:=(af Bi.out 2).trans rfl;have cx3:=(af Bi.out 3).trans rfl;have cx4:=(af Bi.out 4).trans rfl;have cx5:=(af Bi.out 5).trans rfl;have cx6:=(af Bi.out 6).trans rfl;have cx7:=(af Bi.out 7).trans rfl;have cx8:=(af Bi.out 8).trans rfl;have cx9:=(af Bi.out 9).trans rfl;have aFQ:=(af Bi.out 10).trans rfl;have aFR:=(af Bi.out 11).trans rfl;have aFS:=(af Bi.out 12).trans rfl;have fx0:=aa Bi.out 0;have fx1:=aa Bi.out 1;have fx2:=aa Bi.out 2;have fx3:=aa Bi.out 3;have fx4:=aa Bi.out 4;have fx5:=aa Bi.out 5;have fx6:=aa Bi.out 6;have fx7:=aa Bi.out 7;have fx8:=aa Bi.out 8;have fx9:=aa Bi.out 9;have aFT:=aa Bi.out 10;have aFU:=aa Bi.out 11;have aFV:=aa Bi.out 12))
 refine bodyPost_ret (uj rfl _ _ w.heap.size 46 (JU 3 id at_) (0,0) _ rfl (aZ (cs:=JU 3 id at_) (aZ (cs:=JU 3 id at_) (aZ (cs:=JU 3 id at_) (aZ (cs:=JU 3 id at_) (aZ (cs:=JU 3 id at_) (aZ (cs:=JU 3 id at_) (aZ (cs:=JU 3 id at_) (aZ (cs:=JU 3 id at_) (aZ (cs:=JU 3 id at_) (aZ (cs:=JU 3 id at_) (aZ (cs:=JU 3 id 0) (aZ (cs:=JU 3 0 0) (aZ (cs:=JU 0 0 0) Bi.out 0 _ rfl) 1 _ rfl) 2 _ rfl) 3 _ rfl) 4 _ rfl) 5 _ rfl) 6 _ rfl) 7 _ rfl) 8 _ rfl) 9 _ rfl) 10 _ rfl) 11 _ rfl) 12 _ rfl) hu1 rfl aq) rfl ?_
 exact ⟨rfl,(cC (cC (cC (cC (cC (cC (cC (cC (cC (cC (cC (cC (cC (dL (cC HB4.out aaI) (cC HB4.out aaI).size LV.out) (Nat.le_refl _)) (Nat.le_refl _)) (Nat.le_refl _)) (Nat.le_refl _)) (Nat.le_refl _)) (Nat.le_refl _)) (Nat.le_refl _)) (Nat.le_refl _)) (Nat.le_refl _)) (Nat.le_refl _)) (Nat.le_refl _)) (Nat.le_refl _)) (Nat.le_refl _))⟩
theorem jO.calls (k:Nat) (A0:Option Addr) (c0:Nat) (l0:List Int) (r1 r2 r3 r4 r5:Int) (r6:Bool) (r7:List ByteArray) (r8 r9:ByteArray) (r10:Bool) (r11:List jM) (r12:List Int) (r13 r14:Int) (w:World)
 (nK:Kd.C (Kd.int .u8) w A0 l0.length l0) (hc0:l0.length≤c0) (hG:bq w) (h:jO.f k l0=some (r1,r2,r3,r4,r5,r6,r7,r8,r9,r10,r11,r12,r13,r14)):
 Calls Tryz.prog 23 #[.slice A0 l0.length c0] w fun e w'=>∃ RH ak6 ak7:Value,e= .returned (.tuple #[.agg #[.int .u8 r1,.int .i64 r2,.int .i64 r3,.int .i64 r4,.int .i64 r5,.bool r6,RH,.string r8,.string r9,.bool r10,ak6,ak7,.int .i64 r13],.int .i64 r14])∧Kd.R Kd.string 9 w' w.heap.size (fun _ =>True) RH r7∧Kd.R sM 37 w' w.heap.size (fun _ =>True) ak6 r11∧Kd.R (Kd.int .u8) 5 w' w.heap.size (fun _ =>True) ak7 r12∧Below w.heap.size w w':=by
 unfold jO.f at h
 by_cases hc:l0.length=13∧rd l0 0=3
 ·rw [if_pos hc] at h
  obtain ⟨ok,h1,h⟩:=Option.bind_eq_some_iff.mp h
  cases ok with
  |false=>cases h
  |true=>
   rw [if_pos rfl] at h
   simp only [Option.some.injEq,Prod.mk.injEq] at h
   obtain ⟨rfl,rfl,rfl,rfl,rfl,rfl,rfl,rfl,rfl,rfl,rfl,rfl,rfl,rfl⟩:=h
   refine (Sa l0 A0 c0 k w nK hc0 hG hc.1 hc.2 _ _ rfl rfl h1).mono ?_
   rintro e w' ⟨rfl,hb⟩
   exact ⟨_,_,_,rfl,Kd.BA _ _ _ _ _,Kd.BA _ _ _ _ _,Kd.BA _ _ _ _ _,hb⟩
 ·rw [if_neg hc] at h
  cases h
end Go.Proofs.YtbjjaaodfbjkfaaGreatDoor.mU
