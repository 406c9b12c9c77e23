import Derived.Test.YtokpnfljjjjikaaGreatDoorEOnce
import Derived.Test.YtokpnfljjjjikaaGreatDoorEBytes
set_option maxHeartbeats 4000000
set_option maxRecDepth 100000
namespace Go.Proofs.YtokpnfljjjjikaaGreatDoor
open Go.RowKit Go.Proofs.aj.bQ Go.Proofs.aj.cT
set_option linter.unusedVariables false
structure BS (W0 W:World) (N g t:Nat) (v34 U7:Value) (n:Nat) (s0 s1:ByteArray):Prop where
 gN:W0.heap.size≤g
 tN:W0.heap.size≤t
 ne:g≠t
 gl:g < W.heap.size
 tl:t < W.heap.size
 z:∀ j,j < 256→j≠34→j≠92→W.cell? ⟨g,j,none⟩=some (.slice none 0 0)
 IV:W.cell? ⟨g,34,none⟩=some v34
 C0:W.cell? ⟨g,92,none⟩=some U7
 ct:W.cell? ⟨g,256,none⟩=some (.slice (some ⟨t,0,none⟩) n 2)
 fg:∀ j,W.frozen? ⟨g,j,none⟩=false
 ft:∀ j,W.frozen? ⟨t,j,none⟩=false
 t0:W.cell? ⟨t,0,none⟩=some (.string s0)
 t1:W.cell? ⟨t,1,none⟩=some (.string s1)
 TR:W0.heap.size≤W.heap.size
 wN:Below W0.heap.size W0 W
section
variable {V W W1:World} {N g t n:Nat} {v34 U7:Value} {s0 s1:ByteArray}
theorem BS.below (h:BS V W N g t v34 U7 n s0 s1) (hb:Below W.heap.size W W1):BS V W1 N g t v34 U7 n s0 s1 where
 gN:=h.gN
 tN:=h.tN
 ne:=h.ne
 gl:=Nat.lt_of_lt_of_le h.gl hb.size
 tl:=Nat.lt_of_lt_of_le h.tl hb.size
 z:=fun j h1 h2 h3=>(hb.cell (p:=⟨g,j,none⟩) h.gl).trans (h.z j h1 h2 h3)
 IV:=(hb.cell (p:=⟨g,34,none⟩) h.gl).trans h.IV
 C0:=(hb.cell (p:=⟨g,92,none⟩) h.gl).trans h.C0
 ct:=(hb.cell (p:=⟨g,256,none⟩) h.gl).trans h.ct
 fg:=fun j=>(hb.frozen (p:=⟨g,j,none⟩) h.gl).trans (h.fg j)
 ft:=fun j=>(hb.frozen (p:=⟨t,j,none⟩) h.tl).trans (h.ft j)
 t0:=(hb.cell (p:=⟨t,0,none⟩) h.tl).trans h.t0
 t1:=(hb.cell (p:=⟨t,1,none⟩) h.tl).trans h.t1
 TR:=Nat.le_trans h.TR hb.size
 wN:=bS h.wN h.TR hb
theorem jy {a b i j:Nat} (h:a≠b∨i≠j):(⟨a,i,none⟩:Addr)≠⟨b,j,none⟩:=by
 rintro e
 injection e with e1 e2
 rcases h with h|h
 ·exact h e1
 ·exact h e2
theorem BS.agu (h:BS V W N g t v34 U7 n s0 s1) (s:ByteArray):BS V (W.setCell ⟨t,0,none⟩ (.string s)) N g t v34 U7 n s s1 where
 gN:=h.gN
 tN:=h.tN
 ne:=h.ne
 gl:=by simpa using h.gl
 tl:=by simpa using h.tl
 z:=fun j h1 h2 h3=>(World.cell?_setCell_other _ _ _ _ (jy (.inl (Ne.symm h.ne)))).trans (h.z j h1 h2 h3)
 IV:=(World.cell?_setCell_other _ _ _ _ (jy (.inl (Ne.symm h.ne)))).trans h.IV
 C0:=(World.cell?_setCell_other _ _ _ _ (jy (.inl (Ne.symm h.ne)))).trans h.C0
 ct:=(World.cell?_setCell_other _ _ _ _ (jy (.inl (Ne.symm h.ne)))).trans h.ct
 fg:=fun j=>by rw [World.frozen?_setCell];exact h.fg j
 ft:=fun j=>by rw [World.frozen?_setCell];exact h.ft j
 t0:=World.cell?_setCell_same _ _ _ h.t0
 t1:=(World.cell?_setCell_other _ _ _ _ (jy (.inr bL))).trans h.t1
 TR:=by simpa using h.TR
 wN:=h.wN.setCell h.tN _
theorem BS.agv (h:BS V W N g t v34 U7 n s0 s1) (s:ByteArray):BS V (W.setCell ⟨t,1,none⟩ (.string s)) N g t v34 U7 n s0 s where
 gN:=h.gN
 tN:=h.tN
 ne:=h.ne
 gl:=by simpa using h.gl
 tl:=by simpa using h.tl
 z:=fun j h1 h2 h3=>(World.cell?_setCell_other _ _ _ _ (jy (.inl (Ne.symm h.ne)))).trans (h.z j h1 h2 h3)
 IV:=(World.cell?_setCell_other _ _ _ _ (jy (.inl (Ne.symm h.ne)))).trans h.IV
 C0:=(World.cell?_setCell_other _ _ _ _ (jy (.inl (Ne.symm h.ne)))).trans h.C0
 ct:=(World.cell?_setCell_other _ _ _ _ (jy (.inl (Ne.symm h.ne)))).trans h.ct
 fg:=fun j=>by rw [World.frozen?_setCell];exact h.fg j
 ft:=fun j=>by rw [World.frozen?_setCell];exact h.ft j
 t0:=(World.cell?_setCell_other _ _ _ _ (jy (.inr bL))).trans h.t0
 t1:=World.cell?_setCell_same _ _ _ h.t1
 TR:=by simpa using h.TR
 wN:=h.wN.setCell h.tN _
theorem BS.agw (h:BS V W N g t v34 U7 n s0 s1) (m:Nat):BS V (W.setCell ⟨g,256,none⟩ (.slice (some ⟨t,0,none⟩) m 2)) N g t v34 U7 m s0 s1 where
 gN:=h.gN
 tN:=h.tN
 ne:=h.ne
 gl:=by simpa using h.gl
 tl:=by simpa using h.tl
 z:=fun j h1 h2 h3=>(World.cell?_setCell_other _ _ _ _ (jy (.inr aq))).trans (h.z j h1 h2 h3)
 IV:=(World.cell?_setCell_other _ _ _ _ (jy (.inr bL))).trans h.IV
 C0:=(World.cell?_setCell_other _ _ _ _ (jy (.inr bL))).trans h.C0
 ct:=World.cell?_setCell_same _ _ _ h.ct
 fg:=fun j=>by rw [World.frozen?_setCell];exact h.fg j
 ft:=fun j=>by rw [World.frozen?_setCell];exact h.ft j
 t0:=(World.cell?_setCell_other _ _ _ _ (jy (.inl h.ne))).trans h.t0
 t1:=(World.cell?_setCell_other _ _ _ _ (jy (.inl h.ne))).trans h.t1
 TR:=by simpa using h.TR
 wN:=h.wN.setCell h.gN _
theorem BS.agx (h:BS V W N g t v34 U7 n s0 s1) (v:Value):BS V (W.setCell ⟨g,92,none⟩ v) N g t v34 v n s0 s1 where
 gN:=h.gN
 tN:=h.tN
 ne:=h.ne
 gl:=by simpa using h.gl
 tl:=by simpa using h.tl
 z:=fun j h1 h2 h3=>(World.cell?_setCell_other _ _ _ _ (jy (.inr (Ne.symm h3)))).trans (h.z j h1 h2 h3)
 IV:=(World.cell?_setCell_other _ _ _ _ (jy (.inr bL))).trans h.IV
 C0:=World.cell?_setCell_same _ _ _ h.C0
 ct:=(World.cell?_setCell_other _ _ _ _ (jy (.inr bL))).trans h.ct
 fg:=fun j=>by rw [World.frozen?_setCell];exact h.fg j
 ft:=fun j=>by rw [World.frozen?_setCell];exact h.ft j
 t0:=(World.cell?_setCell_other _ _ _ _ (jy (.inl h.ne))).trans h.t0
 t1:=(World.cell?_setCell_other _ _ _ _ (jy (.inl h.ne))).trans h.t1
 TR:=by simpa using h.TR
 wN:=h.wN.setCell h.gN _
theorem BS.agy (h:BS V W N g t v34 U7 n s0 s1) (v:Value):BS V (W.setCell ⟨g,34,none⟩ v) N g t v U7 n s0 s1 where
 gN:=h.gN
 tN:=h.tN
 ne:=h.ne
 gl:=by simpa using h.gl
 tl:=by simpa using h.tl
 z:=fun j h1 h2 h3=>(World.cell?_setCell_other _ _ _ _ (jy (.inr (Ne.symm h2)))).trans (h.z j h1 h2 h3)
 IV:=World.cell?_setCell_same _ _ _ h.IV
 C0:=(World.cell?_setCell_other _ _ _ _ (jy (.inr bL))).trans h.C0
 ct:=(World.cell?_setCell_other _ _ _ _ (jy (.inr bL))).trans h.ct
 fg:=fun j=>by rw [World.frozen?_setCell];exact h.fg j
 ft:=fun j=>by rw [World.frozen?_setCell];exact h.ft j
 t0:=(World.cell?_setCell_other _ _ _ _ (jy (.inl h.ne))).trans h.t0
 t1:=(World.cell?_setCell_other _ _ _ _ (jy (.inl h.ne))).trans h.t1
 TR:=by simpa using h.TR
 wN:=h.wN.setCell h.gN _
theorem jF.other {W:World} {g:Nat} {xs:List Int} (h:jF W g xs) (b i:Nat) (v:Value) (hne:b≠g):jF (W.setCell ⟨b,i,none⟩ v) g xs:=
 fun j hj=>⟨(World.cell?_setCell_other _ _ _ _ (jy (.inl hne))).trans (h j hj).1,by rw [World.frozen?_setCell];exact (h j hj).2⟩
end
theorem Qv (W:World) (a b:Obj):Below W.heap.size W ((W.alloc a).alloc b):=bS (aD (Below.refl _ _) a) bf (aD (Below.refl _ _) b)
theorem XU (W:World):(Instr.makeSlice 28 (.int .i64 0) (.int .i64 2)).run Tryz.prog W= .ok (.slice (some ⟨W.heap.size,0,none⟩) 0 2) (W.alloc (.cells #[.string ⟨#[]⟩,.string ⟨#[]⟩] 9)):=by
 have hi:(Tryz.prog.info? 9).map (fun i=>(i.zero,i.size,i.bytes))=some (some (.string ⟨#[]⟩),1,16):=by kernel_rfl
 obtain ⟨i,hi,hz⟩:=Option.map_eq_some_iff.1 hi
 simp only [Prod.mk.injEq] at hz
 obtain ⟨hz,hs,hb⟩:=hz
 have h:=run_makeSlice (P:=Tryz.prog) W 28 9 i _ Tryz.underlying28 hi hz .i64 .i64 0 2 bL bL (by rw [hs];decide) (by rw [hb];decide) bL
 rw [hs,show madeCells (Value.string ⟨#[]⟩).cells (Int.toNat 2 * 1)= #[.string ⟨#[]⟩,.string ⟨#[]⟩] from by kernel_rfl] at h
 exact h
theorem XV:Tryz.zeroCells189.all (·.oneCell')=true:=by kernel_rfl
noncomputable def Qw (W:World):List Value:=Tryz.zeroCells189.toList.set 256 (.slice (some ⟨W.heap.size,0,none⟩) 0 2)
noncomputable def He (W:World):World:=(W.alloc (.cells #[.string ⟨#[]⟩,.string ⟨#[]⟩] 9)).alloc (.cells Tryz.zeroCells189 189)
noncomputable def Hf (W:World):World:=(He W).setRow (W.heap.size + 1) (Qw W).toArray
theorem Mj (W:World):(He W).heap[W.heap.size + 1]? =some (.cells Tryz.zeroCells189 189 (0,0)):=by
 have h:=heap_alloc_new (W.alloc (.cells #[.string ⟨#[]⟩,.string ⟨#[]⟩] 9)) (.cells Tryz.zeroCells189 189)
 have e:(W.alloc (.cells #[.string ⟨#[]⟩,.string ⟨#[]⟩] 9)).heap.size=W.heap.size + 1:=by simp
 rw [e] at h
 exact h
theorem U8 (W:World):(storeCells ⟨W.heap.size + 1,0,none⟩ (Tryz.zeroCells189.toList.set 256 (.slice (some ⟨W.heap.size,0,none⟩) 0 2))).run Tryz.prog ((W.alloc (.cells #[.string ⟨#[]⟩,.string ⟨#[]⟩] 9)).alloc (.cells Tryz.zeroCells189 189))= .ok () (Hf W):=by
 have h:=run_storeCells_from (P:=Tryz.prog) (W.heap.size + 1) 189 (Qw W) 0 _ (He W) (Mj W) (by simp [Qw]) (fun v hv=>by
  rcases List.mem_or_eq_of_mem_set hv with hv|rfl
  ·exact (Array.all_eq_true_iff_forall_mem.1 XV) v (by simpa using hv)
  ·rfl)
 exact h
theorem nil_eq (W:World):(binOp .eql 23 (.slice none 0 0) (.slice none 0 0)).run Tryz.prog W= .ok (.bool true) W:=by kernel_rfl
theorem ach (W:World) (x:Int):(convert 23 9 (.slice (some ⟨W.heap.size,0,none⟩) 1 1)).run Tryz.prog (W.alloc (.cells #[.int .u8 x] 5))= .ok (.string (strOfNums [x])) (W.alloc (.cells #[.int .u8 x] 5)):=by
 have hR:jF (W.alloc (.cells #[.int .u8 x] 5)) W.heap.size [x]:=by
  intro j hj
  obtain rfl:j=0:=by simp at hj;exact hj
  exact ⟨bf,bf⟩
 exact nu (P:=Tryz.prog) (c:=1) Tryz.underlying23 Tryz.underlying5 Tryz.underlying9 (hR.reads bf)
theorem Jl (W:World) (e:TypeId) (s:ByteArray):W.heap.size < (Lib.bytesWorld W e s).heap.size:=by
 have:=Lib.bytesWorld_at_new W e s
 rcases Nat.lt_or_ge W.heap.size (Lib.bytesWorld W e s).heap.size with h|h
 ·exact h
 ·rw [Array.getElem?_eq_none h] at this;cases this
theorem TS (j:Nat) (hj:j < 257):Tryz.zeroCells189[j]? =some (if j < 257 then .slice none 0 0 else undef):=by
 have h:Tryz.zeroCells189=Array.replicate 257 (.slice none 0 0):=by kernel_rfl
 rw [h,if_pos hj,Array.getElem?_replicate,if_pos hj]
theorem XW (w:World):BS w (Hf w) w.heap.size (w.heap.size + 1) w.heap.size (.slice none 0 0) (.slice none 0 0) 0 ⟨#[]⟩ ⟨#[]⟩:=by
 have hs0:(He w).heap.size=w.heap.size + 2:=by unfold He;simp
 have hs:(Hf w).heap.size=w.heap.size + 2:=by unfold Hf;rw [setRow_size];exact hs0
 have hg:∀ j,(Hf w).cell? ⟨w.heap.size + 1,j,none⟩=(Qw w).toArray[j]? :=fun j=>cell_setRow_same _ _ _ _ _ _ _ (Mj w)
 have hgz:∀ j,j < 256→(Hf w).cell? ⟨w.heap.size + 1,j,none⟩=some (.slice none 0 0):=by
  intro j hj
  rw [hg]
  have:=TS j aq
  rw [if_pos aq] at this
  unfold Qw
  rw [List.getElem?_toArray,List.getElem?_set_ne aq,← this]
  simp
 have hG:(Hf w).heap[w.heap.size + 1]? =some (.cells (Qw w).toArray 189 (0,0)):=setRow_heap _ _ _ _ _ _ (Mj w)
 have hT:(Hf w).heap[w.heap.size]? =some (.cells #[.string ⟨#[]⟩,.string ⟨#[]⟩] 9 (0,0)):=by
  unfold Hf
  rw [setRow_other _ _ _ _ aq]
  unfold He
  rw [Below.heap_alloc _ _ _ bf]
  exact heap_alloc_new w _
 refine ⟨aq,Nat.le_refl _,aq,aq,aq,fun j h1 _ _ =>hgz j h1,hgz 34 bL,hgz 92 bL,?_,fun j=>by simp [World.frozen?,hG],fun j=>by simp [World.frozen?,hT],by simp [World.cell?,hT],by simp [World.cell?,hT],aq,?_⟩
 ·rw [hg,List.getElem?_toArray]
  unfold Qw
  rw [List.getElem?_set_self]
  have:=TS 256 bL
  rw [Array.getElem?_eq_some_iff] at this
  obtain ⟨h,_⟩:=this
  rw [Array.length_toList]
  exact h
 ·refine ⟨rfl,rfl,rfl,aq,fun k hk=>?_⟩
  unfold Hf
  rw [setRow_other _ _ _ _ aq]
  unfold He
  rw [Below.heap_alloc _ _ _ qd,Below.heap_alloc _ _ _ hk]
def TT (W0 W:World) (g:Nat):Prop:=∃ t x cx y cy:Nat,BS W0 W W0.heap.size g t (.slice (some ⟨y,0,none⟩) 2 cy) (.slice (some ⟨x,0,none⟩) 2 cx) 2 ⟨#[92]⟩ ⟨#[34]⟩∧jF W x [92,92]∧(W0.heap.size + 1 < x∧x < W.heap.size)∧jF W y [92,34]∧(W0.heap.size + 1 < y∧y < W.heap.size)
theorem N2 (p q c:Nat) (w:World) (hq:q < w.heap.size) (ho:w.cell? ⟨p,4,none⟩=some (.slice (some ⟨q,0,none⟩) 4 c))
 (h0:w.cell? ⟨q,0,none⟩=some (.string ⟨#[34]⟩)) (h1:w.cell? ⟨q,1,none⟩=some (.string ⟨#[92,34]⟩)) (h2:w.cell? ⟨q,2,none⟩=some (.string ⟨#[92]⟩)) (h3:w.cell? ⟨q,3,none⟩=some (.string ⟨#[92,92]⟩)):
 Calls Tryz.prog 162 #[.pointer (some ⟨p,0,none⟩)] w fun e w'=>∃ g:Nat,e= .returned (.iface 190 (.pointer (some ⟨g,0,none⟩)))∧TT w w' g:=by
 have hmk:=XU
 have hne:=nil_eq
 have e92:((⟨#[92]⟩:ByteArray)[0]'bL).toNat=92:=rfl
 have e34:((⟨#[34]⟩:ByteArray)[0]'bL).toNat=34:=rfl
 have hst:=U8
 go_enter Tryz.func162,Tryz.ntmps162
 go_wp2
 go_loopw [5,4] (fun i b wr=>((i= .int .i64 0∧b= .bool true)∨(i= .int .i64 2∧b= .bool false)∨(i= .int .i64 4∧b= .bool false))∧wr=w) (fun i _ _ =>4 - (intOf i).toNat)
 case atStart=>exact ⟨.inl ⟨rfl,rfl⟩,rfl⟩
 case round=>
  obtain ⟨hi,rfl⟩:=hrel
  rename World=>V
  rcases hi with ⟨rfl,rfl⟩|⟨rfl,rfl⟩|⟨rfl,rfl⟩
  ·go_wp2
   go_roundw
   case rel=>exact ⟨.inr (.inl ⟨rfl,rfl⟩),by trivial⟩
   case measure=>simp [intOf]
  ·go_wp2
   go_roundw
   case rel=>exact ⟨.inr (.inr ⟨rfl,rfl⟩),by trivial⟩
   case measure=>simp [intOf]
  ·go_wp2
   have BD:=Lib.hid (XW V)
   clear hst hmk
   generalize Hf V=W0 at BD ⊢
   go_loopw [12] (fun i Wr=>(i= .int .i64 2∧Hid (BS V Wr V.heap.size (V.heap.size + 1) V.heap.size (.slice none 0 0) (.slice none 0 0) 0 ⟨#[]⟩ ⟨#[]⟩))
    ∨(i= .int .i64 0∧∃ x c:Nat,Hid (BS V Wr V.heap.size (V.heap.size + 1) V.heap.size (.slice none 0 0) (.slice (some ⟨x,0,none⟩) 2 c) 1 ⟨#[92]⟩ ⟨#[]⟩)∧Hid (jF Wr x [92,92])∧Hid (V.heap.size + 1 < x∧x < Wr.heap.size))
    ∨(i= .int .i64 (-2)∧∃ x c y d:Nat,Hid (BS V Wr V.heap.size (V.heap.size + 1) V.heap.size (.slice (some ⟨y,0,none⟩) 2 d) (.slice (some ⟨x,0,none⟩) 2 c) 2 ⟨#[92]⟩ ⟨#[34]⟩)∧Hid (jF Wr x [92,92])∧Hid (V.heap.size + 1 < x∧x < Wr.heap.size)∧Hid (jF Wr y [92,34])∧Hid (V.heap.size + 1 < y∧y < Wr.heap.size))) (fun i _ =>(intOf i + 2).toNat)
   case atStart=>exact .inl ⟨rfl,BD⟩
   case round=>
    rcases hrel with ⟨rfl,HB⟩|⟨rfl,x,cx,HB,HX,HXN⟩|⟨rfl,x,cx,y,cy,HB,HX,HXN,HY,HYN⟩
    ·have k2:=(HB.out.wN.cell (p:=⟨q,2,none⟩) hq).trans h2
     have k3:=(HB.out.wN.cell (p:=⟨q,3,none⟩) hq).trans h3
     have kt:=HB.out.ct
     have k92:=HB.out.C0
     have f256:=HB.out.fg 256
     have f92:=HB.out.fg 92
     clear h0 h1 h2 h3
     have kd:=ach wr 92
     rw [show strOfNums [92]=⟨#[92]⟩ from rfl] at kd
     have kt0:=HB.out.t0
     have kf0:=HB.out.ft 0
     have l1:=HB.out.tl
     have l2:=HB.out.gl
     have l3:V.heap.size < wr.heap.size + 1:=by omega
     have l4:V.heap.size + 1 < wr.heap.size + 1:=by omega
     go_upto_region 34 with fail
     have uu:=Lib.hid ((((HB.out.agu ⟨#[92]⟩).agw 1).below (aD (Below.refl _ _) (.cells #[.int .u8 92] 5))).below (aD (Below.refl _ _) (.cells #[.string ⟨#[92]⟩] 9)))
     generalize ((((wr.setCell ⟨V.heap.size,0,none⟩ (.string ⟨#[92]⟩)).setCell ⟨V.heap.size + 1,256,none⟩ (.slice (some ⟨V.heap.size,0,none⟩) 1 2)).alloc (.cells #[.int .u8 92] 5)).alloc (.cells #[.string ⟨#[92]⟩] 9))=W1 at uu ⊢
     clear kd kt0 kf0 l1 l2 l3 l4 k2 k3 kt k92 f256 f92 HB
     have kc:=Lib.run_convert_string_bytes (P:=Tryz.prog) W1 9 23 5 ⟨#[92,92]⟩ Tryz.underlying9 Tryz.underlying23 Tryz.underlying5
     have hbb:=mo (Below.refl W1.heap.size W1) (Nat.le_refl _) 5 ⟨#[92,92]⟩
     have HBB:=Lib.hid hbb
     have HR:=Lib.hid (jF.made W1 5 ⟨#[92,92]⟩)
     have m1:=(uu.out.below hbb).C0
     have m2:=(uu.out.below hbb).fg 92
     have HLT:=Lib.hid (Jl W1 5 ⟨#[92,92]⟩)
     clear hbb
     generalize Lib.bytesWorld W1 5 ⟨#[92,92]⟩=W2 at kc HBB HR m1 m2 HLT
     generalize grownCap W1 _ _ _=cc at kc
     go_wp2
     go_roundw
     case rel=>exact .inr (.inl ⟨rfl,W1.heap.size,cc,Lib.hid ((uu.out.below HBB.out).agx _),Lib.hid (HR.out.other _ _ _ Fj),Lib.hid ⟨Fj,by have:=HLT.out;simpa using this⟩⟩)
     case measure=>simp [intOf]
    ·have k0:=(HB.out.wN.cell (p:=⟨q,0,none⟩) hq).trans h0
     have k1:=(HB.out.wN.cell (p:=⟨q,1,none⟩) hq).trans h1
     have kt:=HB.out.ct
     have k34:=HB.out.IV
     have f256:=HB.out.fg 256
     have f34:=HB.out.fg 34
     clear h0 h1 h2 h3
     have kd:=ach wr 34
     rw [show strOfNums [34]=⟨#[34]⟩ from rfl] at kd
     have kt1:=HB.out.t1
     have kf1:=HB.out.ft 1
     have l1:=HB.out.tl
     have l2:=HB.out.gl
     have l3:V.heap.size < wr.heap.size + 1:=by omega
     have l4:V.heap.size + 1 < wr.heap.size + 1:=by omega
     go_upto_region 34 with fail
     have e1:=Qv ((wr.setCell ⟨V.heap.size,1,none⟩ (.string ⟨#[34]⟩)).setCell ⟨V.heap.size + 1,256,none⟩ (.slice (some ⟨V.heap.size,0,none⟩) 2 2)) (.cells #[.int .u8 34] 5) (.cells #[.string ⟨#[34]⟩] 9)
     have uu:=Lib.hid (((HB.out.agv ⟨#[34]⟩).agw 2).below e1)
     have HX1:=Lib.hid (((HX.out.other V.heap.size 1 (.string ⟨#[34]⟩) (by have:=HXN.out;omega)).other (V.heap.size + 1) 256 (.slice (some ⟨V.heap.size,0,none⟩) 2 2) (by have:=HXN.out;omega)).below e1 (by have:=HXN.out;simpa using this.2))
     have HS1:=Lib.hid (show wr.heap.size≤((((wr.setCell ⟨V.heap.size,1,none⟩ (.string ⟨#[34]⟩)).setCell ⟨V.heap.size + 1,256,none⟩ (.slice (some ⟨V.heap.size,0,none⟩) 2 2)).alloc (.cells #[.int .u8 34] 5)).alloc (.cells #[.string ⟨#[34]⟩] 9)).heap.size from by simp;omega)
     clear e1
     generalize ((((wr.setCell ⟨V.heap.size,1,none⟩ (.string ⟨#[34]⟩)).setCell ⟨V.heap.size + 1,256,none⟩ (.slice (some ⟨V.heap.size,0,none⟩) 2 2)).alloc (.cells #[.int .u8 34] 5)).alloc (.cells #[.string ⟨#[34]⟩] 9))=W1 at uu HX1 HS1 ⊢
     clear kd kt1 kf1 l1 l2 l3 l4 k0 k1 kt k34 f256 f34 HB HX
     have kc:=Lib.run_convert_string_bytes (P:=Tryz.prog) W1 9 23 5 ⟨#[92,34]⟩ Tryz.underlying9 Tryz.underlying23 Tryz.underlying5
     have hbb:=mo (Below.refl W1.heap.size W1) (Nat.le_refl _) 5 ⟨#[92,34]⟩
     have HBB:=Lib.hid hbb
     have HR:=Lib.hid (jF.made W1 5 ⟨#[92,34]⟩)
     have m1:=(uu.out.below hbb).IV
     have m2:=(uu.out.below hbb).fg 34
     have HLT:=Lib.hid (Jl W1 5 ⟨#[92,34]⟩)
     clear hbb
     generalize Lib.bytesWorld W1 5 ⟨#[92,34]⟩=W2 at kc HBB HR m1 m2 HLT
     generalize grownCap W1 _ _ _=cc at kc
     go_wp2
     go_roundw
     case rel=>exact .inr (.inr ⟨rfl,x,cx,W1.heap.size,cc,Lib.hid ((uu.out.below HBB.out).agy _),Lib.hid ((HX1.out.below HBB.out (by have:=HXN.out;have:=HS1.out;omega)).other _ _ _ (by have:=HXN.out;omega)),Lib.hid ⟨HXN.out.1,by have:=HXN.out;have:=HS1.out;have:=HLT.out;simp;omega⟩,Lib.hid (HR.out.other _ _ _ Fj),Lib.hid ⟨Fj,by have:=HLT.out;simpa using this⟩⟩)
     case measure=>simp [intOf]
    ·go_wp2
     go_ret
     exact ⟨_,rfl,V.heap.size,x,cx,y,cy,HB.out,HX.out,HXN.out,HY.out,HYN.out⟩
end Go.Proofs.YtokpnfljjjjikaaGreatDoor
