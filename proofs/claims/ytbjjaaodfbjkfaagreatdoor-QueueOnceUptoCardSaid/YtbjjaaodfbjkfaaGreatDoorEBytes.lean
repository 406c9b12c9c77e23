import Derived.Test.YtbjjaaodfbjkfaaGreatDoorWMore
namespace Go.Proofs.YtbjjaaodfbjkfaaGreatDoor
open Go.RowKit Go.Proofs.ak.bR Go.Proofs.ak.cZ
def xY (W:World) (g:Nat) (xs:List Int):Prop:=
 ∀ j,j < xs.length→W.cell? ⟨g,j,none⟩=some (.int .u8 (xs.getD j 0))∧W.frozen? ⟨g,j,none⟩=false
theorem xY.made (W:World) (e:TypeId) (s:ByteArray):xY (Lib.bytesWorld W e s) W.heap.size (bytesOf s):=by
 intro j hj
 rw [bytesOf_length] at hj
 refine ⟨?_,?_⟩
 ·rw [Lib.bytesWorld_cell W e s j hj]
  have h':j < s.data.toList.length:=by rw [jc];exact hj
  simp [bytesOf,List.getD_eq_getElem?_getD,List.getElem?_eq_getElem h']
 ·have h2:=Lib.bytesWorld_at_new W e s
  unfold World.frozen?
  rw [h2]
  have:s.size≤(Lib.bytesCells W e s).size:=by simp [Lib.bytesCells]
  simp;omega
theorem xY.set {W:World} {g:Nat} {xs:List Int} (h:xY W g xs) (k:Nat) (hk:k < xs.length) (x:Int):
 xY (W.setCell ⟨g,k,none⟩ (.int .u8 x)) g (xs.set k x):=by
 intro j hj
 rw [List.length_set] at hj
 obtain ⟨hc,hf⟩:=h j hj
 refine ⟨?_,by rw [World.frozen?_setCell];exact hf⟩
 by_cases e:j=k
 ·subst e
  rw [World.cell?_setCell_same' _ _ _ (by rw [hc];rfl)]
  simp [List.getD_eq_getElem?_getD,List.getElem?_set_self hk]
 ·rw [World.cell?_setCell_other W (a:=⟨g,k,none⟩) (b:=⟨g,j,none⟩) _ (by intro h2;injection h2 with _ h3;exact e h3.symm)]
  rw [hc]
  simp [List.getD_eq_getElem?_getD,List.getElem?_set_ne (Ne.symm e)]
theorem xY.reads {W:World} {g:Nat} {xs:List Int} (h:xY W g xs) (hn:xs.length≤9223372036854775807):jP W .u8 (some ⟨g,0,none⟩) xs.length xs:=
 ⟨rfl,hn,fun _ =>⟨_,rfl,fun j hj=>by rw [add_plain];exact (h j hj).1⟩⟩
theorem xY.below {W W1:World} {g:Nat} {xs:List Int} (h:xY W g xs) (hb:Below W.heap.size W W1) (hg:g < W.heap.size):xY W1 g xs:=
 fun j hj=>⟨(hb.cell (p:=⟨g,j,none⟩) hg).trans (h j hj).1,(hb.frozen (p:=⟨g,j,none⟩) hg).trans (h j hj).2⟩
def qU (f:Int→Int) (xs:List Int) (k:Nat):List Int:=(xs.take k).map f ++ xs.drop k
theorem um (f:Int→Int) (xs:List Int) (k:Nat):(qU f xs k).length=xs.length:=by
 unfold qU;rw [List.length_append,List.length_map,List.length_take,List.length_drop];omega
theorem Mp (f:Int→Int) (xs:List Int):qU f xs 0=xs:=by simp [qU]
theorem Rt (f:Int→Int) (xs:List Int) (k:Nat) (h:xs.length≤k):qU f xs k=xs.map f:=by
 unfold qU;rw [List.take_of_length_le h,List.drop_of_length_le h,List.append_nil]
theorem KI (f:Int→Int) (xs:List Int) (k:Nat) (h:k < xs.length):(qU f xs k).getD k 0=xs.getD k 0:=by
 unfold qU
 rw [List.getD_eq_getElem?_getD,List.getD_eq_getElem?_getD,List.getElem?_append_right (by rw [List.length_map,List.length_take];omega)]
 rw [List.length_map,List.length_take,List.getElem?_drop]
 congr 2;omega
theorem D4 (f:Int→Int) (xs:List Int) (k:Nat) (h:k < xs.length):qU f xs (k + 1)=(qU f xs k).set k (f (xs.getD k 0)):=by
 unfold qU
 have e:xs.drop k=xs[k] :: xs.drop (k + 1):=List.drop_eq_getElem_cons h
 rw [e,List.take_succ_eq_append_getElem h,List.map_append,List.set_append_right _ _ (by rw [List.length_map,List.length_take];omega)]
 rw [List.length_map,List.length_take,show k - min k xs.length=0 from by omega]
 rw [List.set_cons_zero,List.append_assoc,List.getD_eq_getElem?_getD,List.getElem?_eq_getElem h]
 rfl
theorem Mq (f:Int→Int) (xs:List Int) (k:Nat) (h:k < xs.length) (hf:f (xs.getD k 0)=xs.getD k 0):qU f xs (k + 1)=qU f xs k:=by
 rw [D4 f xs k h,hf,← KI f xs k h]
 have hk:k < (qU f xs k).length:=by rw [um];exact h
 rw [List.getD_eq_getElem?_getD,List.getElem?_eq_getElem hk]
 exact List.set_getElem_self hk
theorem sO (s:ByteArray) (k:Nat): 0≤(bytesOf s).getD k 0∧(bytesOf s).getD k 0≤255:=by
 have h:=Mb s (k:Int)
 unfold rd at h
 rw [show ((k:Int)).toNat=k from by simp] at h
 rw [h]
 exact Tn s k
end Go.Proofs.YtbjjaaodfbjkfaaGreatDoor
