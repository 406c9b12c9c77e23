import Derived.Test.YtokpnfljjjjikaaGreatDoorERepl
namespace Go.Proofs.YtokpnfljjjjikaaGreatDoor
open Go.RowKit Go.Proofs.aj.bw Go.Proofs.aj.cj
set_option linter.unusedVariables false
set_option linter.unusedSimpArgs false
def jz (c:Int):Bool:=c == 34 || c == 92
def nQ (c:Int):List Int:=if jz c=true then [92,c] else [c]
def iy (xs:List Int):List Int:=xs.flatMap nQ
theorem nR (xs:List Int):(iy xs).length=xs.length + xs.countP jz:=by
 induction xs with
 |nil=>rfl
 |cons c xs ih=>
  unfold iy at ih ⊢
  rw [List.flatMap_cons,List.length_append,ih,List.countP_cons,List.length_cons]
  unfold nQ
  split
  ·simp;omega
  ·simp;omega
theorem Br (xs:List Int) (h:xs.countP jz=0):iy xs=xs:=by
 induction xs with
 |nil=>rfl
 |cons c xs ih=>
  rw [List.countP_cons] at h
  unfold iy at ih ⊢
  rw [List.flatMap_cons,ih ak]
  unfold nQ
  rw [if_neg (by intro h2;rw [if_pos h2] at h;omega)]
  rfl
theorem xQ (xs:List Int) (k:Nat) (hk:k < xs.length):xs.take (k + 1)=xs.take k ++ [xs.getD k 0]:=by
 rw [List.getD_eq_getElem?_getD,List.getElem?_eq_getElem hk]
 exact List.take_succ_eq_append_getElem hk
theorem Bt (xs:List Int) (k:Nat) (hk:k < xs.length):iy (xs.take (k + 1))=iy (xs.take k) ++ nQ (xs.getD k 0):=by
 rw [xQ xs k hk]
 unfold iy
 rw [List.flatMap_append]
 simp
theorem Bu (xs:List Int) (k:Nat) (hk:k < xs.length):(xs.take (k + 1)).countP jz=(xs.take k).countP jz + (if jz (xs.getD k 0)=true then 1 else 0):=by
 rw [xQ xs k hk,List.countP_append]
 simp [List.countP_cons]
theorem countP_le (xs:List Int) (k:Nat):(xs.take k).countP jz≤k:=Nat.le_trans List.countP_le_length (by rw [List.length_take];omega)
theorem Dr (l:List UInt8):(l.map fun b=>(b.toNat:Int)).countP jz=l.count 92 + l.count 34:=by
 induction l with
 |nil=>rfl
 |cons b l ih=>
  rw [List.map_cons,List.countP_cons,ih,List.count_cons,List.count_cons]
  have h1:jz (b.toNat:Int)=(b == 34 || b == 92):=by
   have:∀ n,n < 256→jz ((UInt8.ofNat n).toNat:Int)=(UInt8.ofNat n == 34 || UInt8.ofNat n == 92):=by decide +kernel
   have:=this b.toNat (UInt8.toNat_lt b)
   rwa [UInt8.ofNat_toNat] at this
  rw [h1]
  by_cases h2:b=34
  ·subst h2;simp;omega
  ·by_cases h3:b=92
   ·subst h3;simp;omega
   ·simp [h2,h3]
theorem Bv (W:World) (a:Addr) (l c:Nat):(binOp .neq 23 (.slice (some a) l c) (.slice none 0 0)).run Tryz.prog W= .ok (.bool true) W:=by kernel_rfl
theorem Bw (W:World):(binOp .neq 23 (.slice none 0 0) (.slice none 0 0)).run Tryz.prog W= .ok (.bool false) W:=by kernel_rfl
theorem Ds (W:World) (m:Nat) (hm:m≤281474976710656):(Instr.makeSlice 23 (.int .i64 (m:Int)) (.int .i64 (m:Int))).run Tryz.prog W= .ok (.slice (some ⟨W.heap.size,0,none⟩) m m) (W.alloc (.cells (Array.replicate m (.int .u8 0)) 5)):=by
 have hi:(Tryz.prog.info? 5).map (fun i=>(i.zero,i.size,i.bytes))=some (some (.int .u8 0),1,1):=by kernel_rfl
 obtain ⟨i,hi,hz⟩:=Option.map_eq_some_iff.1 hi
 simp only [Prod.mk.injEq] at hz
 obtain ⟨hz,hs,hb⟩:=hz
 have h:=run_make (P:=Tryz.prog) W 23 5 i _ Tryz.underlying23 hi hz .i64 .i64 (m:Int) (m:Int) ak ak (by rw [hb];omega) ak
 rw [hs,Int.toNat_natCast,Nat.mul_one,show madeCells (Value.int .u8 0).cells m=Array.replicate m (.int .u8 0) from by
  apply Array.ext
  ·simp [madeCells]
  ·intro j h1 h2
   simp [madeCells,Value.cells,Nat.mod_one]] at h
 exact h
theorem gK.zeros (W:World) (m:Nat):gK (W.alloc (.cells (Array.replicate m (.int .u8 0)) 5)) W.heap.size (List.replicate m 0):=by
 intro j hj
 rw [List.length_replicate] at hj
 refine ⟨?_,bB⟩
 rw [World.cell?_alloc_at _ _ _ _ rfl,Array.getElem?_replicate,if_pos hj]
 simp [List.getD_eq_getElem?_getD,hj]
theorem gK.aba {W:World} {b:Nat} {xs:List Int} {z:Nat} (h:gK W b (xs ++ List.replicate z 0)) (hz: 1≤z) (c:Int):gK (W.setCell ⟨b,xs.length,none⟩ (.int .u8 c)) b ((xs ++ [c]) ++ List.replicate (z - 1) 0):=by
 have h1:=h.set xs.length qJ c
 obtain ⟨z,rfl⟩:∃ y,z=y + 1:=⟨z - 1,ak⟩
 rw [List.set_append_right _ _ (Nat.le_refl _),Nat.sub_self,List.replicate_succ,List.set_cons_zero] at h1
 rw [List.append_assoc]
 exact h1
theorem gK.put {W:World} {b m:Nat} {xs:List Int} (h:gK W b (xs ++ List.replicate (m - xs.length) 0)) (hm:xs.length + 1≤m) (c:Int):gK (W.setCell ⟨b,xs.length,none⟩ (.int .u8 c)) b ((xs ++ [c]) ++ List.replicate (m - (xs ++ [c]).length) 0):=by
 have h1:=h.aba ak c
 rw [show m - (xs ++ [c]).length=m - xs.length - 1 from by rw [List.length_append];simp;omega]
 exact h1
theorem gK.Q8 {W:World} {b m:Nat} {xs:List Int} (h:gK W b (xs ++ List.replicate (m - xs.length) 0)) (hm:xs.length + 2≤m) (p q:Int):gK ((W.setCell ⟨b,xs.length,none⟩ (.int .u8 p)).setCell ⟨b,xs.length + 1,none⟩ (.int .u8 q)) b ((xs ++ [p,q]) ++ List.replicate (m - (xs ++ [p,q]).length) 0):=by
 have h1:=(h.put ak p).put (by rw [List.length_append];simp;omega) q
 rw [List.append_assoc xs [p] [q],show (xs ++ [p]).length=xs.length + 1 from by rw [List.length_append];rfl] at h1
 exact h1
theorem Bx (ty:TypeId) (W:World) (b o dl dc y c:Nat) (p q:Int) (hy:gK W y [p,q]) (h0:(W.cell? ⟨b,o,none⟩).isSome=true) (h1:(W.cell? ⟨b,o + 1,none⟩).isSome=true) (f0:W.frozen? ⟨b,o,none⟩=false) (f1:W.frozen? ⟨b,o + 1,none⟩=false) (hd: 2≤dl):
 (Builtin.copy_ #[23,23] ty #[.slice (some ⟨b,o,none⟩) dl dc,.slice (some ⟨y,0,none⟩) 2 c]).run Tryz.prog W= .ok (goInt 2) ((W.setCell ⟨b,o,none⟩ (.int .u8 p)).setCell ⟨b,o + 1,none⟩ (.int .u8 q)):=
 run_copy_cells (P:=Tryz.prog) W 23 23 ty 5 b o dl dc ⟨y,0,none⟩ 2 c [.int .u8 p,.int .u8 q] Tryz.underlying23 ay (by show 2=min 2 dl;omega)
  (by
    intro j v hj
    match j,hj with
    | 0,hj=>cases hj;rw [add_plain];exact (hy 0 bB).1
    | 1,hj=>cases hj;rw [add_plain];exact (hy 1 bB).1)
  (by
    intro j hj
    match j,hj with
    | 0,_ =>exact h0
    | 1,_ =>exact h1)
  (by
    intro j hj
    match j,hj with
    | 0,_ =>exact f0
    | 1,_ =>exact f1)
  (by intro v hv;simp at hv;rcases hv with rfl|rfl<;>rfl)
theorem qh (x:Int) (h0: 0≤x) (h1:x < 4611686018427387904):IntKind.i64.wrap x=x:=by
 rw [IntKind.wrap_i64]
 omega
theorem Bz (n a:Nat) (h:n≤70368744177664) (h1:a≤n + n):Value.int .i64 (IntKind.i64.wrap ((n:Int) + IntKind.i64.wrap ((a:Int) * IntKind.i64.wrap 1)))= .int .i64 ((n + a:Nat):Int):=by
 rw [qh 1 bg bg,Int.mul_one,qh (a:Int) ak ak,qh _ ak ak]
 rfl
theorem GJ (n a b:Nat) (h:n≤70368744177664) (h1:a≤n) (h2:b≤n):Value.int .i64 (IntKind.i64.wrap ((n:Int) + (a:Int) + IntKind.i64.wrap ((b:Int) * IntKind.i64.wrap 1)))= .int .i64 ((n + a + b:Nat):Int):=by
 rw [qh 1 bg bg,Int.mul_one,qh (b:Int) ak ak,qh _ ak ak]
 rfl
theorem JB (s:ByteArray):strOfNums (s.data.toList.map fun b=>(b.toNat:Int))=s:=by
 unfold strOfNums
 obtain ⟨⟨l⟩⟩:=s
 congr 1
 rw [List.map_map,← Array.toList_inj]
 show List.map _ l=l
 rw [show ((fun n:Int=>UInt8.ofNat n.toNat) ∘fun b:UInt8=>(b.toNat:Int))=id from by funext b;simp]
 simp
theorem xR (s:ByteArray) (k:Nat) (h:k < s.size):(bytesOf s).getD k 0=((s[k]'h).toNat:Int):=by
 have h1:=uZ s (k:Int)
 have h2:=iW s (k:Int) (by simpa using h)
 simp only [Int.toNat_natCast] at h2
 rw [h2,← h1]
 rfl
set_option maxRecDepth 100000 in
set_option maxHeartbeats 4000000 in
theorem BA (s:ByteArray) (hs:s.size≤70368744177664) (W:World) (g t x cx y cy:Nat)
 (hz:∀ j:Nat,j < 256→j≠34→j≠92→W.cell? ⟨g,j,none⟩=some (.slice none 0 0)) (h34:W.cell? ⟨g,34,none⟩=some (.slice (some ⟨y,0,none⟩) 2 cy)) (h92:W.cell? ⟨g,92,none⟩=some (.slice (some ⟨x,0,none⟩) 2 cx))
 (ht:W.cell? ⟨g,256,none⟩=some (.slice (some ⟨t,0,none⟩) 2 2)) (h0:W.cell? ⟨t,0,none⟩=some (.string ⟨#[92]⟩)) (h1:W.cell? ⟨t,1,none⟩=some (.string ⟨#[34]⟩)) (hx:gK W x [92,92]) (hy:gK W y [92,34])
 (lg:g < W.heap.size) (lt:t < W.heap.size) (lx:x < W.heap.size) (ly:y < W.heap.size):
 Calls Tryz.prog 257 #[.pointer (some ⟨g,0,none⟩),.string s] W fun e w'=>e= .returned (.string (strOfNums (iy (bytesOf s))))∧Below W.heap.size W w':=by
 have HZ:=Lib.hid hz
 have Wv:=Lib.hid h34
 have Ww:=Lib.hid h92
 have HX:=Lib.hid hx
 have HY:=Lib.hid hy
 have e92:((⟨#[92]⟩:ByteArray)[0]'bg).toNat=92:=rfl
 have e34:((⟨#[34]⟩:ByteArray)[0]'bg).toNat=34:=rfl
 obtain ⟨n,hn⟩:∃ n,n=(bytesOf s).countP jz:=⟨_,rfl⟩
 have HN:=Lib.hid hn
 have hc:=fun c w=>Tryz.strings_Count_one s c w
 have HC:=Lib.hid hc
 have HL:=Lib.hid (bytesOf_length s)
 have H1:=Lib.hid h1
 have H0:=Lib.hid h0
 clear hz h34 h92 hx hy hn hc h1 h0
 go_enter Tryz.func257,Tryz.ntmps257
 go_upto_if 26 with fail
 go_cut [5,6] (fun v5 v6 wc=>v5= .int .i64 (s.size + n:Nat)∧v6= .bool (decide (0 < n))∧Hid (Below W.heap.size W wc))
 case first=>
  by_cases hsz: 16≤s.size
  ·rw [show decide ((16:Int)≤(s.size:Int))=true from decide_eq_true ak]
   clear hsz
   obtain ⟨a,ha⟩:∃ a,a=s.data.toList.count 92:=⟨_,rfl⟩
   obtain ⟨b,hb⟩:∃ b,b=s.data.toList.count 34:=⟨_,rfl⟩
   have CA:=Lib.hid (fun w=>show Calls Tryz.prog 99 #[.string s,.string ⟨#[92]⟩] w fun e w'=>e= .returned (.int .i64 (a:Nat))∧w'=w from by rw [ha];exact HC.out 92 w)
   have CB:=Lib.hid (fun w=>show Calls Tryz.prog 99 #[.string s,.string ⟨#[34]⟩] w fun e w'=>e= .returned (.int .i64 (b:Nat))∧w'=w from by rw [hb];exact HC.out 34 w)
   have NAB:=Lib.hid (show n=a + b from by rw [HN.out,ha,hb];exact Dr _)
   have la:a≤s.size:=by rw [ha,← dz];exact List.count_le_length
   have lb:b≤s.size:=by rw [hb,← dz];exact List.count_le_length
   clear ha hb HC HN
   have KT:=ht
   go_wp2
   have K92:=Ww.out
   have K34:=Wv.out
   have K0:=H0.out
   have K1:=H1.out
   go_loopw [32,5,6] (fun i u v wr=>((i= .int .i64 0∧u= .int .i64 (s.size:Nat)∧v= .bool false)∨(i= .int .i64 1∧u= .int .i64 (s.size + a:Nat)∧v= .bool (decide (0 < a)))∨(i= .int .i64 2∧u= .int .i64 (s.size + a + b:Nat)∧v= .bool (decide (0 < a + b))))∧Hid (Below W.heap.size W wr)) (fun i _ _ _ =>(2 - intOf i).toNat)
   case atStart=>exact ⟨.inl ⟨rfl,rfl,rfl⟩,Lib.hid (Below.refl _ _)⟩
   case round=>
    obtain ⟨hi,HB⟩:=hrel
    have M92:=(HB.out.cell (p:=⟨g,92,none⟩) lg).trans K92
    have M34:=(HB.out.cell (p:=⟨g,34,none⟩) lg).trans K34
    have M0:=(HB.out.cell (p:=⟨t,0,none⟩) lt).trans K0
    have M1:=(HB.out.cell (p:=⟨t,1,none⟩) lt).trans K1
    clear K92 K34 K0 K1
    rcases hi with ⟨rfl,rfl,rfl⟩|⟨rfl,rfl,rfl⟩|⟨rfl,rfl,rfl⟩
    ·by_cases h:a=0
     ·have h':((a:Int) != 0)=false:=by simp [h]
      go_wp2_with (go_at_call 99;refine (CA.out _).mono ?_;rintro e w1 ⟨rfl,hw1⟩;rw [hw1];clear hw1)
      go_roundw
      case rel=>exact ⟨.inr (.inl ⟨rfl,by rw [h];rfl,by rw [h];rfl⟩),HB⟩
      case measure=>simp [intOf]
     ·have h':((a:Int) != 0)=true:=by simp;exact h
      go_upto_region 9 with (go_at_call 99;refine (CA.out _).mono ?_;rintro e w1 ⟨rfl,hw1⟩;rw [hw1];clear hw1)
      go_region_held3 (fun w'=>w'.cell? ⟨g,92,none⟩=some (.slice (some ⟨x,0,none⟩) 2 cx)∧Hid (Below W.heap.size W w')) (first|exact ⟨M92,Lib.hid (aW HB.out)⟩|(refine ⟨?_,?_⟩<;>assumption)) (fail)
      generalize NG:World.drew wr=w3
      have uq:=Lib.hid (show Below W.heap.size W w3 from NG ▸ aW HB.out)
      clear NG
      rename_i hHeld
      clear hHeld
      go_wp2
      go_roundw
      case rel=>exact ⟨.inr (.inl ⟨rfl,by first|exact Bz s.size a hs ak,by rw [decide_eq_true ak]⟩),uq⟩
      case measure=>simp [intOf]
    ·by_cases h:b=0
     ·have h':((b:Int) != 0)=false:=by simp [h]
      go_wp2_with (go_at_call 99;refine (CB.out _).mono ?_;rintro e w1 ⟨rfl,hw1⟩;rw [hw1];clear hw1)
      go_roundw
      case rel=>exact ⟨.inr (.inr ⟨rfl,by rw [h];rfl,by rw [h];rfl⟩),HB⟩
      case measure=>simp [intOf]
     ·have h':((b:Int) != 0)=true:=by simp;exact h
      go_upto_region 9 with (go_at_call 99;refine (CB.out _).mono ?_;rintro e w1 ⟨rfl,hw1⟩;rw [hw1];clear hw1)
      go_region_held3 (fun w'=>w'.cell? ⟨g,34,none⟩=some (.slice (some ⟨y,0,none⟩) 2 cy)∧Hid (Below W.heap.size W w')) (first|exact ⟨M34,Lib.hid (aW HB.out)⟩|(refine ⟨?_,?_⟩<;>assumption)) (fail)
      generalize NG:World.drew wr=w3
      have uq:=Lib.hid (show Below W.heap.size W w3 from NG ▸ aW HB.out)
      clear NG
      rename_i hHeld
      clear hHeld
      go_wp2
      go_roundw
      case rel=>exact ⟨.inr (.inr ⟨rfl,by first|exact GJ s.size a b hs la lb|exact Bz (s.size + a) b ak ak,by rw [decide_eq_true ak]⟩),uq⟩
      case measure=>simp [intOf]
    ·go_wp2
     go_meet
     case rel=>exact ⟨by rw [NAB.out,Nat.add_assoc],by rw [NAB.out],HB⟩
  ·rw [show decide ((16:Int)≤(s.size:Int))=false from decide_eq_false ak]
   clear hsz
   clear HC
   have q1:=Bv
   have q0:=Bw
   go_wp2
   go_loopw [10,5,6] (fun i u v wr=>∃ k:Nat,k≤s.size∧i= .int .i64 k∧u= .int .i64 (s.size + ((bytesOf s).take k).countP jz:Nat)∧v= .bool (decide (0 < ((bytesOf s).take k).countP jz))∧Hid (Below W.heap.size W wr)) (fun i _ _ _ =>s.size - (intOf i).toNat)
   case atStart=>exact ⟨0,Nat.zero_le _,rfl,rfl,rfl,Lib.hid (Below.refl _ _)⟩
   case round=>
    obtain ⟨k,hk,rfl,rfl,rfl,HB⟩:=hrel
    by_cases hlt:k < s.size
    ·have hle:=countP_le (bytesOf s) k
     have Mp:=Lib.hid (Bu (bytesOf s) k ou)
     rw [xR s k hlt] at Mp
     obtain ⟨d,hd⟩:∃ d,(s[k]'hlt).toNat=d:=⟨_,rfl⟩
     have hd2:(d:Int) < 256:=by have:=UInt8.toNat_lt (s[k]'hlt);omega
     rw [hd] at Mp
     generalize ((bytesOf s).take k).countP jz=m at Mp hle ⊢
     by_cases rR:d=34
     ·subst rR
      have K34:=(HB.out.cell (p:=⟨g,34,none⟩) lg).trans Wv.out
      go_wp2
      go_roundw
      case rel=>exact ⟨k + 1,ak,jl,by rw [Mp.out];go_num,by rw [Mp.out];rfl,HB⟩
      case measure=>simp [intOf];omega
     ·by_cases xk:d=92
      ·subst xk
       have K92:=(HB.out.cell (p:=⟨g,92,none⟩) lg).trans Ww.out
       go_wp2
       go_roundw
       case rel=>exact ⟨k + 1,ak,jl,by rw [Mp.out];go_num,by rw [Mp.out];rfl,HB⟩
       case measure=>simp [intOf];omega
      ·have K:=(HB.out.cell (p:=⟨g,d,none⟩) lg).trans (HZ.out d ak rR xk)
       have HS:=Lib.hid (show jz (d:Int)=false by simp [jz];omega)
       go_wp2
       go_roundw
       case rel=>exact ⟨k + 1,ak,jl,by rw [Mp.out,HS.out];go_num,by rw [Mp.out,HS.out];rfl,HB⟩
       case measure=>simp [intOf];omega
    ·have HA:=Lib.hid (show ((bytesOf s).take k).countP jz=n by rw [List.take_of_length_le pU];exact HN.out.symm)
     go_wp2
     go_meet
     case rel=>exact ⟨by rw [HA.out],by rw [HA.out],HB⟩
 case rest=>
  obtain ⟨rfl,rfl,HB⟩:=hcut
  by_cases h0:n=0
  ·subst h0
   have HS:=Lib.hid (show strOfNums (iy (bytesOf s))=s by
    rw [Br _ HN.out.symm]
    unfold bytesOf
    have:=JB s
    exact this)
   rw [show decide (0 < 0)=false from rfl]
   go_wp2
   go_ret
   exact ⟨by rw [HS.out];rfl,HB.out⟩
  ·rw [show decide (0 < n)=true from decide_eq_true ak]
   obtain ⟨m,hm⟩:∃ m,m=s.size + n:=⟨_,rfl⟩
   have HM:=Lib.hid hm
   rw [← hm]
   have lm:m≤281474976710656:=by
    have h1:=countP_le (bytesOf s) (bytesOf s).length
    rw [List.take_length,← HN.out,HL.out] at h1
    omega
   have hmk:=Ds wc m lm
   clear hm
   go_upto_region 22 with fail
   have sA:=Lib.hid (HB.out.alloc HB.out.size (.cells (Array.replicate m (.int .u8 0)) 5))
   have NU:=Lib.hid (gK.zeros wc m)
   have HG:=Lib.hid (show W.heap.size≤wc.heap.size from HB.out.size)
   clear hmk
   generalize wc.alloc (.cells (Array.replicate m (.int .u8 0)) 5)=W1 at sA NU ⊢
   generalize wc.heap.size=b at NU HG ⊢
   clear HB
   have q1:=Bv
   have q0:=Bw
   go_wp2
   go_loopw [14,13] (fun i j wr=>∃ k:Nat,k≤s.size∧i= .int .i64 k∧j= .int .i64 (iy ((bytesOf s).take k)).length∧Hid (gK wr b (iy ((bytesOf s).take k) ++ List.replicate (m - (iy ((bytesOf s).take k)).length) 0))∧Hid (Below W.heap.size W wr)) (fun i _ _ =>s.size - (intOf i).toNat)
   case atStart=>exact ⟨0,Nat.zero_le _,rfl,rfl,Lib.hid (by simpa [iy] using NU.out),sA⟩
   case round=>
    clear NU sA
    obtain ⟨k,hk,rfl,rfl,HR,HB⟩:=hrel
    by_cases hlt:k < s.size
    ·have HQ:=Lib.hid (Bt (bytesOf s) k ou)
     rw [xR s k hlt] at HQ
     have NV:=Lib.hid (show (iy ((bytesOf s).take (k + 1))).length≤m by
      rw [nR,HM.out,HN.out]
      have h1:((bytesOf s).take (k + 1)).countP jz≤(bytesOf s).countP jz:=(List.take_sublist _ _).countP_le
      rw [List.length_take]
      omega)
     obtain ⟨d,hd⟩:∃ d,(s[k]'hlt).toNat=d:=⟨_,rfl⟩
     have hd2:(d:Int) < 256:=by have:=UInt8.toNat_lt (s[k]'hlt);omega
     rw [hd] at HQ
     rw [HQ.out] at NV
     obtain ⟨X,hX⟩:∃ X,iy ((bytesOf s).take k)=X:=⟨_,rfl⟩
     rw [hX] at HQ NV HR ⊢
     clear hX
     by_cases rR:d=34
     ·subst rR
      have K:=(HB.out.cell (p:=⟨g,34,none⟩) lg).trans Wv.out
      have JC:X.length + 2≤m:=by have:=NV.out;simpa [nQ,jz] using this
      have Py:=Lib.hid (show iy ((bytesOf s).take (k + 1))=X ++ [92,34] from HQ.out.trans (congrArg (X ++ ·) bg))
      clear HQ NV
      go_upto_region 28 with fail
      have b1:(0:Int)≤(X.length:Int):=by omega
      have b2:(X.length:Int)≤(m:Int):=by omega
      have b3:X.length≤m:=by omega
      have b4: ¬ m=X.length:=by omega
      have b5: ¬ X.length=m:=by omega
      have KC:=(((HB.out.drew.setCell (p:=⟨b,X.length,none⟩) HG.out (.int .u8 92)).setCell (p:=⟨b,X.length + 1,none⟩) HG.out (.int .u8 34)).cell (p:=⟨g,34,none⟩) lg).trans Wv.out
      have Q9:=Lib.hid ((HB.out.drew.setCell (p:=⟨b,X.length,none⟩) HG.out (.int .u8 92)).setCell (p:=⟨b,X.length + 1,none⟩) HG.out (.int .u8 34))
      have hcp:=Bx 3 wr.drew b X.length (m - X.length) (m - X.length) y cy 92 34 (fun j hj=>(HY.out.below HB.out ly) j hj) Ei Eh (HR.out X.length qJ).2 (HR.out (X.length + 1) qJ).2 ak
      go_region_held3 (fun w'=>w'.cell? ⟨g,34,none⟩=some (.slice (some ⟨y,0,none⟩) 2 cy)∧Hid (Below W.heap.size W w')) (first|exact ⟨K,Lib.hid (aW HB.out)⟩|exact ⟨KC,Q9⟩|(refine ⟨?_,?_⟩<;>assumption)) (fail)
      all_goals (
       rename_i hHeld
       clear hHeld hcp KC K
       have uq:=Lib.hid (((HB.out.setCell (p:=⟨b,X.length,none⟩) HG.out (.int .u8 92)).setCell (p:=⟨b,X.length + 1,none⟩) HG.out (.int .u8 34)).drew)
       have O6:=Lib.hid (show gK (((wr.setCell ⟨b,X.length,none⟩ (.int .u8 92)).setCell ⟨b,X.length + 1,none⟩ (.int .u8 34)).drew) b _ from fun j hj=>(HR.out.Q8 JC 92 34) j hj)
       generalize (((wr.setCell ⟨b,X.length,none⟩ (.int .u8 92)).setCell ⟨b,X.length + 1,none⟩ (.int .u8 34)).drew)=w3 at uq O6 ⊢
       clear Q9
       go_wp2
       go_roundw
       case rel=>exact ⟨k + 1,ak,jl,CC,Lib.hid (by rw [Py.out];exact O6.out),uq⟩
       case measure=>simp [intOf];omega)
     ·by_cases xk:d=92
      ·subst xk
       have K:=(HB.out.cell (p:=⟨g,92,none⟩) lg).trans Ww.out
       have JC:X.length + 2≤m:=by have:=NV.out;simpa [nQ,jz] using this
       have Py:=Lib.hid (show iy ((bytesOf s).take (k + 1))=X ++ [92,92] from HQ.out.trans (congrArg (X ++ ·) bg))
       clear HQ NV
       go_upto_region 28 with fail
       have b1:(0:Int)≤(X.length:Int):=by omega
       have b2:(X.length:Int)≤(m:Int):=by omega
       have b3:X.length≤m:=by omega
       have b4: ¬ m=X.length:=by omega
       have b5: ¬ X.length=m:=by omega
       have KC:=(((HB.out.drew.setCell (p:=⟨b,X.length,none⟩) HG.out (.int .u8 92)).setCell (p:=⟨b,X.length + 1,none⟩) HG.out (.int .u8 92)).cell (p:=⟨g,92,none⟩) lg).trans Ww.out
       have Q9:=Lib.hid ((HB.out.drew.setCell (p:=⟨b,X.length,none⟩) HG.out (.int .u8 92)).setCell (p:=⟨b,X.length + 1,none⟩) HG.out (.int .u8 92))
       have hcp:=Bx 3 wr.drew b X.length (m - X.length) (m - X.length) x cx 92 92 (fun j hj=>(HX.out.below HB.out lx) j hj) Ei Eh (HR.out X.length qJ).2 (HR.out (X.length + 1) qJ).2 ak
       go_region_held3 (fun w'=>w'.cell? ⟨g,92,none⟩=some (.slice (some ⟨x,0,none⟩) 2 cx)∧Hid (Below W.heap.size W w')) (first|exact ⟨K,Lib.hid (aW HB.out)⟩|exact ⟨KC,Q9⟩|(refine ⟨?_,?_⟩<;>assumption)) (fail)
       all_goals (
        rename_i hHeld
        clear hHeld hcp KC K
        have uq:=Lib.hid (((HB.out.setCell (p:=⟨b,X.length,none⟩) HG.out (.int .u8 92)).setCell (p:=⟨b,X.length + 1,none⟩) HG.out (.int .u8 92)).drew)
        have O6:=Lib.hid (show gK (((wr.setCell ⟨b,X.length,none⟩ (.int .u8 92)).setCell ⟨b,X.length + 1,none⟩ (.int .u8 92)).drew) b _ from fun j hj=>(HR.out.Q8 JC 92 92) j hj)
        generalize (((wr.setCell ⟨b,X.length,none⟩ (.int .u8 92)).setCell ⟨b,X.length + 1,none⟩ (.int .u8 92)).drew)=w3 at uq O6 ⊢
        clear Q9
        go_wp2
        go_roundw
        case rel=>exact ⟨k + 1,ak,jl,CC,Lib.hid (by rw [Py.out];exact O6.out),uq⟩
        case measure=>simp [intOf];omega)
      ·have K:=(HB.out.cell (p:=⟨g,d,none⟩) lg).trans (HZ.out d ak rR xk)
       have HS:=Lib.hid (show nQ (d:Int)= [(d:Int)] by unfold nQ;rw [if_neg (by simp [jz];omega)])
       have JC:X.length + 1≤m:=by have:=NV.out;rw [HS.out,List.length_append] at this;simpa using this
       have Py:=Lib.hid (show iy ((bytesOf s).take (k + 1))=X ++ [(d:Int)] from HQ.out.trans (congrArg (X ++ ·) HS.out))
       clear HQ NV HS
       have c0:=(HR.out X.length qJ).1
       have f0:=(HR.out X.length qJ).2
       have uq:=Lib.hid (HB.out.setCell (p:=⟨b,X.length,none⟩) HG.out (.int .u8 (d:Int)))
       have O6:=Lib.hid (HR.out.put JC (d:Int))
       have e1:((X.length:Int) < (m:Int))=True:=eq_true ak
       go_wp2
       go_roundw
       case rel=>exact ⟨k + 1,ak,jl,CC,Lib.hid (by rw [Py.out];exact O6.out),uq⟩
       case measure=>simp [intOf];omega
    ·have HE:=Lib.hid (show (bytesOf s).take k=bytesOf s from List.take_of_length_le pU)
     have hlen:(iy (bytesOf s)).length=m:=by rw [nR,HL.out,← HN.out,HM.out]
     have kd:=jP (P:=Tryz.prog) (c:=m) (w:=wr) Tryz.underlying23 Tryz.underlying5 Tryz.underlying9 (show gw wr .u8 (some ⟨b,0,none⟩) m (iy (bytesOf s)) by
      have h2:=HR.out
      rw [HE.out,hlen,Nat.sub_self] at h2
      have h3:=gK.reads (by simpa using h2) (by rw [hlen];omega)
      rw [hlen] at h3
      exact h3)
     clear hlen
     go_wp2
     go_ret
     exact ⟨rfl,HB.out⟩
end Go.Proofs.YtokpnfljjjjikaaGreatDoor
