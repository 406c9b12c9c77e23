import Derived.Test.YtokpnfljjjjikaaGreatDoorEOnce
import Derived.Test.YtokpnfljjjjikaaGreatDoorEBytes
set_option maxHeartbeats 4000000
set_option maxRecDepth 100000
namespace Go.Proofs.YtokpnfljjjjikaaGreatDoor
open Go.RowKit Go.Proofs.aj.bw Go.Proofs.aj.cj
set_option linter.unusedVariables false
structure BS (W0 W:World) (N g t:Nat) (v34 GH:Value) (n:Nat) (s0 s1:ByteArray):Prop where
 gN:W0.heap.size≤g
 tN:W0.heap.size≤t
 ne:g≠t
 gl:g < W.heap.size
 tl:t < W.heap.size
 z:∀ j,j < 256→j≠34→j≠92→W.cell? ⟨g,j,none⟩=some (.slice none 0 0)
 rR:W.cell? ⟨g,34,none⟩=some v34
 xk:W.cell? ⟨g,92,none⟩=some GH
 ct:W.cell? ⟨g,256,none⟩=some (.slice (some ⟨t,0,none⟩) n 2)
 fg:∀ j,W.frozen? ⟨g,j,none⟩=false
 ft:∀ j,W.frozen? ⟨t,j,none⟩=false
 t0:W.cell? ⟨t,0,none⟩=some (.string s0)
 t1:W.cell? ⟨t,1,none⟩=some (.string s1)
 FO:W0.heap.size≤W.heap.size
 og:Below W0.heap.size W0 W
section
variable {V W W1:World} {N g t n:Nat} {v34 GH:Value} {s0 s1:ByteArray}
theorem BS.below (h:BS V W N g t v34 GH n s0 s1) (hb:Below W.heap.size W W1):BS V W1 N g t v34 GH n s0 s1 where
 gN:=h.gN
 tN:=h.tN
 ne:=h.ne
 gl:=Nat.lt_of_lt_of_le h.gl hb.size
 tl:=Nat.lt_of_lt_of_le h.tl hb.size
 z:=fun j h1 h2 h3=>(hb.cell (p:=⟨g,j,none⟩) h.gl).trans (h.z j h1 h2 h3)
 rR:=(hb.cell (p:=⟨g,34,none⟩) h.gl).trans h.rR
 xk:=(hb.cell (p:=⟨g,92,none⟩) h.gl).trans h.xk
 ct:=(hb.cell (p:=⟨g,256,none⟩) h.gl).trans h.ct
 fg:=fun j=>(hb.frozen (p:=⟨g,j,none⟩) h.gl).trans (h.fg j)
 ft:=fun j=>(hb.frozen (p:=⟨t,j,none⟩) h.tl).trans (h.ft j)
 t0:=(hb.cell (p:=⟨t,0,none⟩) h.tl).trans h.t0
 t1:=(hb.cell (p:=⟨t,1,none⟩) h.tl).trans h.t1
 FO:=Nat.le_trans h.FO hb.size
 og:=dn h.og h.FO hb
theorem fW {a b i j:Nat} (h:a≠b∨i≠j):(⟨a,i,none⟩:Addr)≠⟨b,j,none⟩:=by
 rintro e
 injection e with e1 e2
 rcases h with h|h
 ·exact h e1
 ·exact h e2
theorem BS.Q3 (h:BS V W N g t v34 GH n s0 s1) (s:ByteArray):BS V (W.setCell ⟨t,0,none⟩ (.string s)) N g t v34 GH n s s1 where
 gN:=h.gN
 tN:=h.tN
 ne:=h.ne
 gl:=by simpa using h.gl
 tl:=by simpa using h.tl
 z:=fun j h1 h2 h3=>(World.cell?_setCell_other _ _ _ _ (fW (.inl (Ne.symm h.ne)))).trans (h.z j h1 h2 h3)
 rR:=(World.cell?_setCell_other _ _ _ _ (fW (.inl (Ne.symm h.ne)))).trans h.rR
 xk:=(World.cell?_setCell_other _ _ _ _ (fW (.inl (Ne.symm h.ne)))).trans h.xk
 ct:=(World.cell?_setCell_other _ _ _ _ (fW (.inl (Ne.symm h.ne)))).trans h.ct
 fg:=fun j=>by rw [World.frozen?_setCell];exact h.fg j
 ft:=fun j=>by rw [World.frozen?_setCell];exact h.ft j
 t0:=World.cell?_setCell_same _ _ _ h.t0
 t1:=(World.cell?_setCell_other _ _ _ _ (fW (.inr bg))).trans h.t1
 FO:=by simpa using h.FO
 og:=h.og.setCell h.tN _
theorem BS.Q4 (h:BS V W N g t v34 GH n s0 s1) (s:ByteArray):BS V (W.setCell ⟨t,1,none⟩ (.string s)) N g t v34 GH n s0 s where
 gN:=h.gN
 tN:=h.tN
 ne:=h.ne
 gl:=by simpa using h.gl
 tl:=by simpa using h.tl
 z:=fun j h1 h2 h3=>(World.cell?_setCell_other _ _ _ _ (fW (.inl (Ne.symm h.ne)))).trans (h.z j h1 h2 h3)
 rR:=(World.cell?_setCell_other _ _ _ _ (fW (.inl (Ne.symm h.ne)))).trans h.rR
 xk:=(World.cell?_setCell_other _ _ _ _ (fW (.inl (Ne.symm h.ne)))).trans h.xk
 ct:=(World.cell?_setCell_other _ _ _ _ (fW (.inl (Ne.symm h.ne)))).trans h.ct
 fg:=fun j=>by rw [World.frozen?_setCell];exact h.fg j
 ft:=fun j=>by rw [World.frozen?_setCell];exact h.ft j
 t0:=(World.cell?_setCell_other _ _ _ _ (fW (.inr bg))).trans h.t0
 t1:=World.cell?_setCell_same _ _ _ h.t1
 FO:=by simpa using h.FO
 og:=h.og.setCell h.tN _
theorem BS.Q5 (h:BS V W N g t v34 GH n s0 s1) (m:Nat):BS V (W.setCell ⟨g,256,none⟩ (.slice (some ⟨t,0,none⟩) m 2)) N g t v34 GH m s0 s1 where
 gN:=h.gN
 tN:=h.tN
 ne:=h.ne
 gl:=by simpa using h.gl
 tl:=by simpa using h.tl
 z:=fun j h1 h2 h3=>(World.cell?_setCell_other _ _ _ _ (fW (.inr ak))).trans (h.z j h1 h2 h3)
 rR:=(World.cell?_setCell_other _ _ _ _ (fW (.inr bg))).trans h.rR
 xk:=(World.cell?_setCell_other _ _ _ _ (fW (.inr bg))).trans h.xk
 ct:=World.cell?_setCell_same _ _ _ h.ct
 fg:=fun j=>by rw [World.frozen?_setCell];exact h.fg j
 ft:=fun j=>by rw [World.frozen?_setCell];exact h.ft j
 t0:=(World.cell?_setCell_other _ _ _ _ (fW (.inl h.ne))).trans h.t0
 t1:=(World.cell?_setCell_other _ _ _ _ (fW (.inl h.ne))).trans h.t1
 FO:=by simpa using h.FO
 og:=h.og.setCell h.gN _
theorem BS.Q6 (h:BS V W N g t v34 GH n s0 s1) (v:Value):BS V (W.setCell ⟨g,92,none⟩ v) N g t v34 v n s0 s1 where
 gN:=h.gN
 tN:=h.tN
 ne:=h.ne
 gl:=by simpa using h.gl
 tl:=by simpa using h.tl
 z:=fun j h1 h2 h3=>(World.cell?_setCell_other _ _ _ _ (fW (.inr (Ne.symm h3)))).trans (h.z j h1 h2 h3)
 rR:=(World.cell?_setCell_other _ _ _ _ (fW (.inr bg))).trans h.rR
 xk:=World.cell?_setCell_same _ _ _ h.xk
 ct:=(World.cell?_setCell_other _ _ _ _ (fW (.inr bg))).trans h.ct
 fg:=fun j=>by rw [World.frozen?_setCell];exact h.fg j
 ft:=fun j=>by rw [World.frozen?_setCell];exact h.ft j
 t0:=(World.cell?_setCell_other _ _ _ _ (fW (.inl h.ne))).trans h.t0
 t1:=(World.cell?_setCell_other _ _ _ _ (fW (.inl h.ne))).trans h.t1
 FO:=by simpa using h.FO
 og:=h.og.setCell h.gN _
theorem BS.Q7 (h:BS V W N g t v34 GH n s0 s1) (v:Value):BS V (W.setCell ⟨g,34,none⟩ v) N g t v GH n s0 s1 where
 gN:=h.gN
 tN:=h.tN
 ne:=h.ne
 gl:=by simpa using h.gl
 tl:=by simpa using h.tl
 z:=fun j h1 h2 h3=>(World.cell?_setCell_other _ _ _ _ (fW (.inr (Ne.symm h2)))).trans (h.z j h1 h2 h3)
 rR:=World.cell?_setCell_same _ _ _ h.rR
 xk:=(World.cell?_setCell_other _ _ _ _ (fW (.inr bg))).trans h.xk
 ct:=(World.cell?_setCell_other _ _ _ _ (fW (.inr bg))).trans h.ct
 fg:=fun j=>by rw [World.frozen?_setCell];exact h.fg j
 ft:=fun j=>by rw [World.frozen?_setCell];exact h.ft j
 t0:=(World.cell?_setCell_other _ _ _ _ (fW (.inl h.ne))).trans h.t0
 t1:=(World.cell?_setCell_other _ _ _ _ (fW (.inl h.ne))).trans h.t1
 FO:=by simpa using h.FO
 og:=h.og.setCell h.gN _
theorem gK.other {W:World} {g:Nat} {xs:List Int} (h:gK W g xs) (b i:Nat) (v:Value) (hne:b≠g):gK (W.setCell ⟨b,i,none⟩ v) g xs:=
 fun j hj=>⟨(World.cell?_setCell_other _ _ _ _ (fW (.inl hne))).trans (h j hj).1,by rw [World.frozen?_setCell];exact (h j hj).2⟩
end
theorem Dp (W:World) (a b:Obj):Below W.heap.size W ((W.alloc a).alloc b):=dn (aJ (Below.refl _ _) a) bB (aJ (Below.refl _ _) b)
theorem Jy (W:World):(Instr.makeSlice 28 (.int .i64 0) (.int .i64 2)).run Tryz.prog W= .ok (.slice (some ⟨W.heap.size,0,none⟩) 0 2) (W.alloc (.cells #[.string ⟨#[]⟩,.string ⟨#[]⟩] 9)):=by
 have hi:(Tryz.prog.info? 9).map (fun i=>(i.zero,i.size,i.bytes))=some (some (.string ⟨#[]⟩),1,16):=by kernel_rfl
 obtain ⟨i,hi,hz⟩:=Option.map_eq_some_iff.1 hi
 simp only [Prod.mk.injEq] at hz
 obtain ⟨hz,hs,hb⟩:=hz
 have h:=run_makeSlice (P:=Tryz.prog) W 28 9 i _ Tryz.underlying28 hi hz .i64 .i64 0 2 bg bg (by rw [hs];decide) (by rw [hb];decide) bg
 rw [hs,show madeCells (Value.string ⟨#[]⟩).cells (Int.toNat 2 * 1)= #[.string ⟨#[]⟩,.string ⟨#[]⟩] from by kernel_rfl] at h
 exact h
theorem Jz:Tryz.zeroCells189.all (·.oneCell')=true:=by kernel_rfl
noncomputable def Dq (W:World):List Value:=Tryz.zeroCells189.toList.set 256 (.slice (some ⟨W.heap.size,0,none⟩) 0 2)
noncomputable def vX (W:World):World:=(W.alloc (.cells #[.string ⟨#[]⟩,.string ⟨#[]⟩] 9)).alloc (.cells Tryz.zeroCells189 189)
noncomputable def vY (W:World):World:=(vX W).setRow (W.heap.size + 1) (Dq W).toArray
theorem zS (W:World):(vX W).heap[W.heap.size + 1]? =some (.cells Tryz.zeroCells189 189 (0,0)):=by
 have h:=heap_alloc_new (W.alloc (.cells #[.string ⟨#[]⟩,.string ⟨#[]⟩] 9)) (.cells Tryz.zeroCells189 189)
 have e:(W.alloc (.cells #[.string ⟨#[]⟩,.string ⟨#[]⟩] 9)).heap.size=W.heap.size + 1:=by simp
 rw [e] at h
 exact h
theorem GI (W:World):(storeCells ⟨W.heap.size + 1,0,none⟩ (Tryz.zeroCells189.toList.set 256 (.slice (some ⟨W.heap.size,0,none⟩) 0 2))).run Tryz.prog ((W.alloc (.cells #[.string ⟨#[]⟩,.string ⟨#[]⟩] 9)).alloc (.cells Tryz.zeroCells189 189))= .ok () (vY W):=by
 have h:=run_storeCells_from (P:=Tryz.prog) (W.heap.size + 1) 189 (Dq W) 0 _ (vX W) (zS W) (by simp [Dq]) (fun v hv=>by
  rcases List.mem_or_eq_of_mem_set hv with hv|rfl
  ·exact (Array.all_eq_true_iff_forall_mem.1 Jz) v (by simpa using hv)
  ·rfl)
 exact h
theorem nil_eq (W:World):(binOp .eql 23 (.slice none 0 0) (.slice none 0 0)).run Tryz.prog W= .ok (.bool true) W:=by kernel_rfl
theorem NS (W:World) (x:Int):(convert 23 9 (.slice (some ⟨W.heap.size,0,none⟩) 1 1)).run Tryz.prog (W.alloc (.cells #[.int .u8 x] 5))= .ok (.string (strOfNums [x])) (W.alloc (.cells #[.int .u8 x] 5)):=by
 have hR:gK (W.alloc (.cells #[.int .u8 x] 5)) W.heap.size [x]:=by
  intro j hj
  obtain rfl:j=0:=by simp at hj;exact hj
  exact ⟨bB,bB⟩
 exact jP (P:=Tryz.prog) (c:=1) Tryz.underlying23 Tryz.underlying5 Tryz.underlying9 (hR.reads bB)
theorem xP (W:World) (e:TypeId) (s:ByteArray):W.heap.size < (Lib.bytesWorld W e s).heap.size:=by
 have:=Lib.bytesWorld_at_new W e s
 rcases Nat.lt_or_ge W.heap.size (Lib.bytesWorld W e s).heap.size with h|h
 ·exact h
 ·rw [Array.getElem?_eq_none h] at this;cases this
theorem FP (j:Nat) (hj:j < 257):Tryz.zeroCells189[j]? =some (if j < 257 then .slice none 0 0 else undef):=by
 have h:Tryz.zeroCells189=Array.replicate 257 (.slice none 0 0):=by kernel_rfl
 rw [h,if_pos hj,Array.getElem?_replicate,if_pos hj]
theorem JA (w:World):BS w (vY w) w.heap.size (w.heap.size + 1) w.heap.size (.slice none 0 0) (.slice none 0 0) 0 ⟨#[]⟩ ⟨#[]⟩:=by
 have hs0:(vX w).heap.size=w.heap.size + 2:=by unfold vX;simp
 have hs:(vY w).heap.size=w.heap.size + 2:=by unfold vY;rw [setRow_size];exact hs0
 have hg:∀ j,(vY w).cell? ⟨w.heap.size + 1,j,none⟩=(Dq w).toArray[j]? :=fun j=>cell_setRow_same _ _ _ _ _ _ _ (zS w)
 have hgz:∀ j,j < 256→(vY w).cell? ⟨w.heap.size + 1,j,none⟩=some (.slice none 0 0):=by
  intro j hj
  rw [hg]
  have:=FP j ak
  rw [if_pos ak] at this
  unfold Dq
  rw [List.getElem?_toArray,List.getElem?_set_ne ak,← this]
  simp
 have hG:(vY w).heap[w.heap.size + 1]? =some (.cells (Dq w).toArray 189 (0,0)):=setRow_heap _ _ _ _ _ _ (zS w)
 have hT:(vY w).heap[w.heap.size]? =some (.cells #[.string ⟨#[]⟩,.string ⟨#[]⟩] 9 (0,0)):=by
  unfold vY
  rw [setRow_other _ _ _ _ ak]
  unfold vX
  rw [Below.heap_alloc _ _ _ bB]
  exact heap_alloc_new w _
 refine ⟨ak,Nat.le_refl _,ak,ak,ak,fun j h1 _ _ =>hgz j h1,hgz 34 bg,hgz 92 bg,?_,fun j=>by simp [World.frozen?,hG],fun j=>by simp [World.frozen?,hT],by simp [World.cell?,hT],by simp [World.cell?,hT],ak,?_⟩
 ·rw [hg,List.getElem?_toArray]
  unfold Dq
  rw [List.getElem?_set_self]
  have:=FP 256 bg
  rw [Array.getElem?_eq_some_iff] at this
  obtain ⟨h,_⟩:=this
  rw [Array.length_toList]
  exact h
 ·refine ⟨rfl,rfl,rfl,ak,fun k hk=>?_⟩
  unfold vY
  rw [setRow_other _ _ _ _ ak]
  unfold vX
  rw [Below.heap_alloc _ _ _ (by simp;omega),Below.heap_alloc _ _ _ hk]
def FQ (W0 W:World) (g:Nat):Prop:=∃ t x cx y cy:Nat,BS W0 W W0.heap.size g t (.slice (some ⟨y,0,none⟩) 2 cy) (.slice (some ⟨x,0,none⟩) 2 cx) 2 ⟨#[92]⟩ ⟨#[34]⟩∧gK W x [92,92]∧(W0.heap.size + 1 < x∧x < W.heap.size)∧gK W y [92,34]∧(W0.heap.size + 1 < y∧y < W.heap.size)
theorem Bq (p q c:Nat) (w:World) (hq:q < w.heap.size) (ho:w.cell? ⟨p,4,none⟩=some (.slice (some ⟨q,0,none⟩) 4 c))
 (h0:w.cell? ⟨q,0,none⟩=some (.string ⟨#[34]⟩)) (h1:w.cell? ⟨q,1,none⟩=some (.string ⟨#[92,34]⟩)) (h2:w.cell? ⟨q,2,none⟩=some (.string ⟨#[92]⟩)) (h3:w.cell? ⟨q,3,none⟩=some (.string ⟨#[92,92]⟩)):
 Calls Tryz.prog 162 #[.pointer (some ⟨p,0,none⟩)] w fun e w'=>∃ g:Nat,e= .returned (.iface 190 (.pointer (some ⟨g,0,none⟩)))∧FQ w w' g:=by
 have hmk:=Jy
 have hne:=nil_eq
 have e92:((⟨#[92]⟩:ByteArray)[0]'bg).toNat=92:=rfl
 have e34:((⟨#[34]⟩:ByteArray)[0]'bg).toNat=34:=rfl
 have hst:=GI
 go_enter Tryz.func162,Tryz.ntmps162
 go_wp2
 go_loopw [5,4] (fun i b wr=>((i= .int .i64 0∧b= .bool true)∨(i= .int .i64 2∧b= .bool false)∨(i= .int .i64 4∧b= .bool false))∧wr=w) (fun i _ _ =>4 - (intOf i).toNat)
 case atStart=>exact ⟨.inl ⟨rfl,rfl⟩,rfl⟩
 case round=>
  obtain ⟨hi,rfl⟩:=hrel
  rename World=>V
  rcases hi with ⟨rfl,rfl⟩|⟨rfl,rfl⟩|⟨rfl,rfl⟩
  ·go_wp2
   go_roundw
   case rel=>exact ⟨.inr (.inl ⟨rfl,rfl⟩),by trivial⟩
   case measure=>simp [intOf]
  ·go_wp2
   go_roundw
   case rel=>exact ⟨.inr (.inr ⟨rfl,rfl⟩),by trivial⟩
   case measure=>simp [intOf]
  ·go_wp2
   have Ho:=Lib.hid (JA V)
   clear hst hmk
   generalize vY V=W0 at Ho ⊢
   go_loopw [12] (fun i Wr=>(i= .int .i64 2∧Hid (BS V Wr V.heap.size (V.heap.size + 1) V.heap.size (.slice none 0 0) (.slice none 0 0) 0 ⟨#[]⟩ ⟨#[]⟩))
    ∨(i= .int .i64 0∧∃ x c:Nat,Hid (BS V Wr V.heap.size (V.heap.size + 1) V.heap.size (.slice none 0 0) (.slice (some ⟨x,0,none⟩) 2 c) 1 ⟨#[92]⟩ ⟨#[]⟩)∧Hid (gK Wr x [92,92])∧Hid (V.heap.size + 1 < x∧x < Wr.heap.size))
    ∨(i= .int .i64 (-2)∧∃ x c y d:Nat,Hid (BS V Wr V.heap.size (V.heap.size + 1) V.heap.size (.slice (some ⟨y,0,none⟩) 2 d) (.slice (some ⟨x,0,none⟩) 2 c) 2 ⟨#[92]⟩ ⟨#[34]⟩)∧Hid (gK Wr x [92,92])∧Hid (V.heap.size + 1 < x∧x < Wr.heap.size)∧Hid (gK Wr y [92,34])∧Hid (V.heap.size + 1 < y∧y < Wr.heap.size))) (fun i _ =>(intOf i + 2).toNat)
   case atStart=>exact .inl ⟨rfl,Ho⟩
   case round=>
    rcases hrel with ⟨rfl,HB⟩|⟨rfl,x,cx,HB,HX,Mo⟩|⟨rfl,x,cx,y,cy,HB,HX,Mo,HY,HYN⟩
    ·have k2:=(HB.out.og.cell (p:=⟨q,2,none⟩) hq).trans h2
     have k3:=(HB.out.og.cell (p:=⟨q,3,none⟩) hq).trans h3
     have kt:=HB.out.ct
     have k92:=HB.out.xk
     have f256:=HB.out.fg 256
     have f92:=HB.out.fg 92
     clear h0 h1 h2 h3
     have kd:=NS wr 92
     rw [show strOfNums [92]=⟨#[92]⟩ from rfl] at kd
     have kt0:=HB.out.t0
     have kf0:=HB.out.ft 0
     have l1:=HB.out.tl
     have l2:=HB.out.gl
     have l3:V.heap.size < wr.heap.size + 1:=by omega
     have l4:V.heap.size + 1 < wr.heap.size + 1:=by omega
     go_upto_region 34 with fail
     have sA:=Lib.hid ((((HB.out.Q3 ⟨#[92]⟩).Q5 1).below (aJ (Below.refl _ _) (.cells #[.int .u8 92] 5))).below (aJ (Below.refl _ _) (.cells #[.string ⟨#[92]⟩] 9)))
     generalize ((((wr.setCell ⟨V.heap.size,0,none⟩ (.string ⟨#[92]⟩)).setCell ⟨V.heap.size + 1,256,none⟩ (.slice (some ⟨V.heap.size,0,none⟩) 1 2)).alloc (.cells #[.int .u8 92] 5)).alloc (.cells #[.string ⟨#[92]⟩] 9))=W1 at sA ⊢
     clear kd kt0 kf0 l1 l2 l3 l4 k2 k3 kt k92 f256 f92 HB
     have kc:=Lib.run_convert_string_bytes (P:=Tryz.prog) W1 9 23 5 ⟨#[92,92]⟩ Tryz.underlying9 Tryz.underlying23 Tryz.underlying5
     have hbb:=j3 (Below.refl W1.heap.size W1) (Nat.le_refl _) 5 ⟨#[92,92]⟩
     have PJ:=Lib.hid hbb
     have HR:=Lib.hid (gK.made W1 5 ⟨#[92,92]⟩)
     have m1:=(sA.out.below hbb).xk
     have m2:=(sA.out.below hbb).fg 92
     have PK:=Lib.hid (xP W1 5 ⟨#[92,92]⟩)
     clear hbb
     generalize Lib.bytesWorld W1 5 ⟨#[92,92]⟩=W2 at kc PJ HR m1 m2 PK
     generalize grownCap W1 _ _ _=cc at kc
     go_wp2
     go_roundw
     case rel=>exact .inr (.inl ⟨rfl,W1.heap.size,cc,Lib.hid ((sA.out.below PJ.out).Q6 _),Lib.hid (HR.out.other _ _ _ uy),Lib.hid ⟨uy,by have:=PK.out;simpa using this⟩⟩)
     case measure=>simp [intOf]
    ·have k0:=(HB.out.og.cell (p:=⟨q,0,none⟩) hq).trans h0
     have k1:=(HB.out.og.cell (p:=⟨q,1,none⟩) hq).trans h1
     have kt:=HB.out.ct
     have k34:=HB.out.rR
     have f256:=HB.out.fg 256
     have f34:=HB.out.fg 34
     clear h0 h1 h2 h3
     have kd:=NS wr 34
     rw [show strOfNums [34]=⟨#[34]⟩ from rfl] at kd
     have kt1:=HB.out.t1
     have kf1:=HB.out.ft 1
     have l1:=HB.out.tl
     have l2:=HB.out.gl
     have l3:V.heap.size < wr.heap.size + 1:=by omega
     have l4:V.heap.size + 1 < wr.heap.size + 1:=by omega
     go_upto_region 34 with fail
     have e1:=Dp ((wr.setCell ⟨V.heap.size,1,none⟩ (.string ⟨#[34]⟩)).setCell ⟨V.heap.size + 1,256,none⟩ (.slice (some ⟨V.heap.size,0,none⟩) 2 2)) (.cells #[.int .u8 34] 5) (.cells #[.string ⟨#[34]⟩] 9)
     have sA:=Lib.hid (((HB.out.Q4 ⟨#[34]⟩).Q5 2).below e1)
     have HX1:=Lib.hid (((HX.out.other V.heap.size 1 (.string ⟨#[34]⟩) (by have:=Mo.out;omega)).other (V.heap.size + 1) 256 (.slice (some ⟨V.heap.size,0,none⟩) 2 2) (by have:=Mo.out;omega)).below e1 (by have:=Mo.out;simpa using this.2))
     have NT:=Lib.hid (show wr.heap.size≤((((wr.setCell ⟨V.heap.size,1,none⟩ (.string ⟨#[34]⟩)).setCell ⟨V.heap.size + 1,256,none⟩ (.slice (some ⟨V.heap.size,0,none⟩) 2 2)).alloc (.cells #[.int .u8 34] 5)).alloc (.cells #[.string ⟨#[34]⟩] 9)).heap.size from by simp;omega)
     clear e1
     generalize ((((wr.setCell ⟨V.heap.size,1,none⟩ (.string ⟨#[34]⟩)).setCell ⟨V.heap.size + 1,256,none⟩ (.slice (some ⟨V.heap.size,0,none⟩) 2 2)).alloc (.cells #[.int .u8 34] 5)).alloc (.cells #[.string ⟨#[34]⟩] 9))=W1 at sA HX1 NT ⊢
     clear kd kt1 kf1 l1 l2 l3 l4 k0 k1 kt k34 f256 f34 HB HX
     have kc:=Lib.run_convert_string_bytes (P:=Tryz.prog) W1 9 23 5 ⟨#[92,34]⟩ Tryz.underlying9 Tryz.underlying23 Tryz.underlying5
     have hbb:=j3 (Below.refl W1.heap.size W1) (Nat.le_refl _) 5 ⟨#[92,34]⟩
     have PJ:=Lib.hid hbb
     have HR:=Lib.hid (gK.made W1 5 ⟨#[92,34]⟩)
     have m1:=(sA.out.below hbb).rR
     have m2:=(sA.out.below hbb).fg 34
     have PK:=Lib.hid (xP W1 5 ⟨#[92,34]⟩)
     clear hbb
     generalize Lib.bytesWorld W1 5 ⟨#[92,34]⟩=W2 at kc PJ HR m1 m2 PK
     generalize grownCap W1 _ _ _=cc at kc
     go_wp2
     go_roundw
     case rel=>exact .inr (.inr ⟨rfl,x,cx,W1.heap.size,cc,Lib.hid ((sA.out.below PJ.out).Q7 _),Lib.hid ((HX1.out.below PJ.out (by have:=Mo.out;have:=NT.out;omega)).other _ _ _ (by have:=Mo.out;omega)),Lib.hid ⟨Mo.out.1,by have:=Mo.out;have:=NT.out;have:=PK.out;simp;omega⟩,Lib.hid (HR.out.other _ _ _ uy),Lib.hid ⟨uy,by have:=PK.out;simpa using this⟩⟩)
     case measure=>simp [intOf]
    ·go_wp2
     go_ret
     exact ⟨_,rfl,V.heap.size,x,cx,y,cy,HB.out,HX.out,Mo.out,HY.out,HYN.out⟩
end Go.Proofs.YtokpnfljjjjikaaGreatDoor
