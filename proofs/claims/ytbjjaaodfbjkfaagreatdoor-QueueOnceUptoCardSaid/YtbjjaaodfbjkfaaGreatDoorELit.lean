import Derived.Test.YtbjjaaodfbjkfaaGreatDoorEPu
import Derived.Test.YtbjjaaodfbjkfaaGreatDoorEStr
set_option maxHeartbeats 4000000
set_option maxRecDepth 100000
namespace Go.Proofs.YtbjjaaodfbjkfaaGreatDoor
open Go.RowKit Go.Proofs.ak.bR Go.Proofs.ak.cZ
def wk (o:Option Int) (e:Ending):Prop:=
 (∃ n,o=some n∧e= .returned (.tuple #[.int .u64 n,.nilIface]))∨(o=none∧∃ (n:Int) (te:Nat) (pe:Value),e= .returned (.tuple #[.int .u64 n,.iface te pe]))
theorem nW.named {o:Option Int} {e:Ending} (h:nW o e):∃ (n:Int) (v:Value),e= .returned (.tuple #[.int .u64 n,v])∧((o=some n∧v= .nilIface)∨(o=none∧∃ c:Int,(c=1∨c=2)∧v= .iface 267 (.int .i64 c))):=by
 rcases h with ⟨n,ho,rfl⟩|⟨ho,n,c,hc,rfl⟩
 ·exact ⟨n,_,rfl,.inl ⟨ho,rfl⟩⟩
 ·exact ⟨n,_,rfl,.inr ⟨ho,c,hc,rfl⟩⟩
theorem wk.named {o:Option Int} {e:Ending} (h:wk o e):∃ (n:Int) (v:Value),e= .returned (.tuple #[.int .u64 n,v])∧((o=some n∧v= .nilIface)∨(o=none∧∃ (te:Nat) (pe:Value),v= .iface te pe)):=by
 rcases h with ⟨n,ho,rfl⟩|⟨ho,n,te,pe,rfl⟩
 ·exact ⟨n,_,rfl,.inl ⟨ho,rfl⟩⟩
 ·exact ⟨n,_,rfl,.inr ⟨ho,te,pe,rfl⟩⟩
theorem zK (b z:Int) (o:Option Int) (s:ByteArray) (hs:s.size≤281474976710656) (w:World) (hG:bq w)
 (hc:Calls Tryz.prog 244 #[.string s,.int .i64 b,.int .i64 z] w fun e w'=>nW o e∧Below w.heap.size w w'):
 Calls Tryz.prog 216 #[.string s,.int .i64 b,.int .i64 z] w fun e w'=>wk o e∧Below w.heap.size w w':=by
 have HC:=Lib.hid hc
 have HG:=Lib.hid hG
 clear hc hG
 have HS:=Lib.hid hs
 clear hs
 go_enter Tryz.func216,Tryz.ntmps216
 go_wp2_with (go_at_call 244;refine HC.out.mono ?_;rintro e w1 ⟨he,hb⟩;obtain ⟨n,v,rfl,hv⟩:=he.named;have HV:=Lib.hid hv;have HB:=Lib.hid hb;clear he hv hb)
 have hv:=HV.out
 clear HV
 rcases hv with ⟨ho,rfl⟩|⟨ho,c,hcc,rfl⟩
 ·have HO:=Lib.hid ho
  clear ho
  go_simp
  go_wp2
  go_ret2
  exact ⟨.inl ⟨n,HO.out,rfl⟩,HB.out⟩
 ·have hg1:=HG.out.below HB.out
  have HO:=Lib.hid ho
  clear ho
  obtain ⟨ev1,hv1,he1⟩:=hg1.syn
  obtain ⟨ev2,hv2,he2⟩:=hg1.rng
  have qi:=Lib.hid (fun fn=>Tryz.strconv_toError_syntax fn s b z ev1 w1 HS.out hv1 he1)
  have SA:=Lib.hid (fun fn=>Tryz.strconv_toError_range fn s b z ev2 w1 HS.out hv2 he2)
  clear hg1 hv1 hv2 he1 he2
  rcases hcc with rfl|rfl
  ·go_simp
   go_wp2_with (go_at_call 245;refine (SA.out _).mono ?_;rintro e w2 ⟨N,rfl,_,_,hb2⟩;have Vr:=Lib.hid hb2;clear hb2)
   go_ret2
   exact ⟨.inr ⟨HO.out,_,_,_,rfl⟩,jT HB.out HB.out.size Vr.out⟩
  ·go_simp
   go_wp2_with (go_at_call 245;refine (qi.out _).mono ?_;rintro e w2 ⟨N,rfl,_,_,hb2⟩;have Vr:=Lib.hid hb2;clear hb2)
   go_ret2
   exact ⟨.inr ⟨HO.out,_,_,_,rfl⟩,jT HB.out HB.out.size Vr.out⟩
theorem Wc (s:ByteArray) (hs:s.size≤281474976710656) (w:World) (hG:bq w):
 Calls Tryz.prog 216 #[.string s,.int .i64 10,.int .i64 8] w fun e w'=>wk (pu 10 255 s) e∧Below w.heap.size w w':=by
 by_cases h0:s.size=0
 ·obtain rfl:s=⟨#[]⟩:=by
   obtain ⟨d⟩:=s
   have:d.size=0:=h0
   simp at this
   rw [this]
  refine zK 10 8 _ _ hs w hG ((Mu w).mono ?_)
  rintro e w' ⟨rfl,rfl⟩
  exact ⟨.inr ⟨by unfold pu;rfl,0,2,.inr rfl,rfl⟩,Below.refl _ _⟩
 ·refine zK 10 8 _ _ hs w hG ?_
  unfold pu
  rw [if_neg h0]
  exact Rv s az az w
theorem Wd (s:ByteArray) (hs:s.size≤281474976710656) (w:World) (hG:bq w):
 Calls Tryz.prog 216 #[.string s,.int .i64 16,.int .i64 16] w fun e w'=>wk (pu 16 65535 s) e∧Below w.heap.size w w':=by
 by_cases h0:s.size=0
 ·obtain rfl:s=⟨#[]⟩:=by
   obtain ⟨d⟩:=s
   have:d.size=0:=h0
   simp at this
   rw [this]
  refine zK 16 16 _ _ hs w hG ((Mv w).mono ?_)
  rintro e w' ⟨rfl,rfl⟩
  exact ⟨.inr ⟨by unfold pu;rfl,0,2,.inr rfl,rfl⟩,Below.refl _ _⟩
 ·refine zK 16 16 _ _ hs w hG ?_
  unfold pu
  rw [if_neg h0]
  exact Rw s az az w
theorem TX (b m:Int) (s:ByteArray) (n:Int) (hm: 0≤m) (h:pu b m s=some n):n≤m:=by
 unfold pu at h
 split at h
 ·cases h
 ·have:∀ (l:List Int) (a:Int),a≤m→∀ r,vS b m l a=some r→r≤m:=by
   intro l
   induction l with
   |nil=>intro a ha r hr;simp [vS] at hr;omega
   |cons c cs ih=>
    intro a ha r hr
    unfold vS at hr
    split at hr
    ·cases hr
    ·split at hr
     ·cases hr
     ·exact ih _ az r hr
  exact this _ 0 hm n h
def gY.f (x:ByteArray):Option Bool:=
 if x.size≤281474976710656 then some ((pu 10 255 x).isNone || decide (3 < x.size)) else none
theorem gY.calls (a0:ByteArray) (r:Bool) (w:World) (hG:bq w) (h:gY.f a0=some r):
 Calls Tryz.prog 215 #[.string a0] w fun e w'=>e= .returned (.bool r)∧Below w.heap.size w w':=by
 unfold gY.f at h
 by_cases hs:a0.size≤281474976710656
 case neg=>rw [if_neg hs] at h;cases h
 rw [if_pos hs] at h
 obtain rfl:=Option.some.inj h
 clear h
 have HC:=Lib.hid (Wc a0 hs w hG)
 clear hG
 go_enter Tryz.func215,Tryz.ntmps215
 go_wp2_with (go_at_call 216;refine HC.out.mono ?_;rintro e w1 ⟨he,hb⟩;obtain ⟨n,v,rfl,hv⟩:=he.named;have HV:=Lib.hid hv;have HB:=Lib.hid hb;clear he hv hb)
 have hv:=HV.out
 clear HV
 rcases hv with ⟨ho,rfl⟩|⟨ho,te,pe,rfl⟩
 ·have hr:=TX 10 255 a0 n bC ho
  have HR:=Lib.hid (show ((pu 10 255 a0).isNone || decide (3 < a0.size))=decide (3 < a0.size) by rw [ho];rfl)
  clear ho
  by_cases h3: 3 < a0.size
  ·go_simp
   go_wp2
   go_ret
   exact ⟨by first|rfl|(rw [HR.out,decide_eq_true h3];rfl),HB.out⟩
  ·go_simp
   go_wp2
   go_ret
   exact ⟨by (try rw [HR.out,decide_eq_false h3]);(show Ending.returned (.bool (decide (3 < (a0.size:Int)) || decide (255 < n)))=_);rw [decide_eq_false az,decide_eq_false az];rfl,HB.out⟩
 ·have HR:=Lib.hid (show ((pu 10 255 a0).isNone || decide (3 < a0.size))=true by rw [ho];rfl)
  clear ho
  go_simp
  go_wp2
  go_ret
  exact ⟨by first|rfl|(rw [HR.out];rfl),HB.out⟩
theorem oI (c:UInt8):∀ l x,x∈pieces c l→x.length≤l.length
 | [],x,h=>by simp [pieces] at h;simp [h]
 |b :: l,x,h=>by
  unfold pieces at h
  split at h
  ·rcases List.mem_cons.mp h with rfl|h
   ·simp
   ·have:=oI c l x h
    simp;omega
  ·split at h
   ·simp at h;simp [h]
   ·rename_i p ps hp
    rcases List.mem_cons.mp h with rfl|h
    ·have:=oI c l p (by rw [hp];exact List.mem_cons_self ..)
     simp;omega
    ·have:=oI c l x (by rw [hp];exact List.mem_cons_of_mem _ h)
     simp;omega
theorem KR (c:UInt8) (s x:ByteArray) (h:x∈(pieces c s.data.toList).map cS):x.size≤s.size:=by
 obtain ⟨l,hl,rfl⟩:=List.mem_map.mp h
 exact oI c _ l hl
def nB (x:ByteArray):Bool:=(pu 16 65535 x).isNone || decide (4 < x.size)
def fO.f (s:ByteArray):Option Int:=
 if s.size < 4294967281 then some (if s.size=0 then 0 else if ((pieces 58 s.data.toList).map cS).any nB then -1 else ((pieces 58 s.data.toList).length:Int)) else none
theorem TY {α:Type} (p:α→Bool) (xs:List α) (k:Nat) {x:α} (hx:xs[k]? =some x) (h:(xs.take k).any p=false):(xs.take (k + 1)).any p=p x:=by
 rw [List.take_add_one,hx]
 simp [h]
theorem fO.calls (a0:ByteArray) (r:Int) (w:World) (hG:bq w) (h:fO.f a0=some r):
 Calls Tryz.prog 243 #[.string a0] w fun e w'=>e= .returned (.int .i64 r)∧Below w.heap.size w w':=by
 unfold fO.f at h
 by_cases hs:a0.size < 4294967281
 case neg=>rw [if_neg hs] at h;cases h
 rw [if_pos hs] at h
 obtain rfl:=Option.some.inj h
 clear h
 have HG:=Lib.hid hG
 by_cases h0:a0.size=0
 ·obtain rfl:a0=⟨#[]⟩:=by
   obtain ⟨d⟩:=a0
   have:d.size=0:=h0
   simp at this
   rw [this]
  clear hG h0 hs
  go_enter Tryz.func243,Tryz.ntmps243
  go_wp2
  go_ret
  exact ⟨rfl,Below.refl _ _⟩
 ·have hf:strings_Split.f a0 ⟨#[58]⟩=some ((pieces 58 a0.data.toList).map cS):=by
   unfold strings_Split.f
   rw [show one? ⟨#[58]⟩=some 58 from rfl]
   simp only [if_pos hs]
  have HC:=Lib.hid (strings_Split.calls a0 ⟨#[58]⟩ _ w hG hf)
  have HL0:=Lib.hid (nA 58 a0.data.toList)
  have HXS:=Lib.hid (fun x (hx:x∈(pieces 58 a0.data.toList).map cS)=>KR 58 a0 x hx)
  have HS:=Lib.hid hs
  clear hG hf hs
  rw [if_neg h0]
  have hne:a0.toList.isEmpty=false:=by
   rw [List.isEmpty_eq_false_iff];intro h
   rw [ByteArray.toList_eq] at h
   have h2:a0.data.toList= []:=h;have h3:=jc a0;rw [h2] at h3;simp at h3;omega
  obtain ⟨xs,hxs⟩:∃ xs,xs=(pieces 58 a0.data.toList).map cS:=⟨_,rfl⟩
  have hlen:xs.length≤4294967282:=by
   have h1:=List.count_le_length (a:=(58:UInt8)) (l:=a0.data.toList)
   have h2:a0.data.toList.length=a0.size:=rfl
   have:=HL0.out
   have:=HS.out
   rw [hxs,List.length_map]
   omega
  have HN:=Lib.hid (show ((pieces 58 a0.data.toList).length:Int)=(xs.length:Int) from by rw [hxs,List.length_map])
  rw [← hxs] at HC HXS ⊢
  rw [HN.out]
  clear hxs HN HL0 h0
  generalize hr:(if xs.any nB=true then (-1:Int) else (xs.length:Int))=r
  have yZ:=Lib.hid hr
  clear hr
  go_enter Tryz.func243,Tryz.ntmps243
  go_wp2_with (go_at_call 141;refine HC.out.mono ?_;rintro e w1 ⟨v0,rfl,hr,hb⟩;obtain ⟨A0,c0,rfl⟩:=Kd.dm hr;have HR:=Lib.hid hr;have HB:=Lib.hid hb;clear hr hb)
  go_loopw [14] (fun i wr=>∃ k:Nat,k≤xs.length∧i= .int .i64 k∧Hid ((xs.take k).any nB=false)∧Hid (Kd.R Kd.string 9 wr w.heap.size (fun _ =>True) (.slice A0 xs.length c0) xs)∧Hid (Below w.heap.size w wr)) (fun i _ =>xs.length - (intOf i).toNat)
  case atStart=>exact ⟨0,Nat.zero_le _,rfl,Lib.hid cF,HR,HB⟩
  case round=>
   clear HR HB
   obtain ⟨k,hk,rfl,HP,HR,HB⟩:=hrel
   by_cases hlt:k < xs.length
   ·obtain ⟨ad,e1,hc⟩:=Kd.j5 (Kd.ck HR.out).2.2 (k:Int) az az
    cases e1
    obtain ⟨x,hx⟩:∃ x,xs[k]? =some x:=⟨xs[k],List.getElem?_eq_getElem hlt⟩
    rw [show nu ByteArray.empty xs (k:Int)=x from by simp [nu,hx]] at hc
    rw [show ((k:Int)).toNat=k from by omega] at hc
    have HM:=Lib.hid (List.mem_of_getElem? hx)
    have HC2:=Lib.hid (Wd x (by have:=HXS.out x HM.out;have:=HS.out;omega) wr (HG.out.below HB.out))
    have HT:=Lib.hid (TY nB xs k hx HP.out)
    have HY:=Lib.hid (fun hb:nB x=true=>(show r= -1 from yZ.out.symm.trans (if_pos (List.any_eq_true.mpr ⟨x,HM.out,hb⟩))))
    clear hx
    go_wp2_with (go_at_call 216;refine HC2.out.mono ?_;rintro e w2 ⟨he,hb⟩;obtain ⟨n,v,rfl,hv⟩:=he.named;have HV:=Lib.hid hv;have Vr:=Lib.hid hb;clear he hv hb)
    have hv:=HV.out
    clear HV
    rcases hv with ⟨ho,rfl⟩|⟨ho,te,pe,rfl⟩
    ·have HX:=Lib.hid (show nB x=decide (4 < x.size) by unfold nB;rw [ho];rfl)
     clear ho
     by_cases h4: 4 < x.size
     ·have HZ:=Lib.hid (HY.out (by rw [HX.out,decide_eq_true h4]))
      go_simp
      go_wp2
      go_ret
      exact ⟨zh,jT HB.out HB.out.size Vr.out⟩
     ·have HZ:=Lib.hid (show (xs.take (k + 1)).any nB=false by rw [HT.out,HX.out,decide_eq_false h4])
      go_simp
      go_wp2
      go_roundw
      case rel=>exact ⟨k + 1,az,by go_num,HZ,Lib.hid (Kd.bH HR.out (jT (Below.refl _ _) (Nat.le_refl _) Vr.out)),Lib.hid (jT HB.out HB.out.size Vr.out)⟩
      case measure=>simp [intOf];omega
    ·have HZ:=Lib.hid (HY.out (by unfold nB;rw [ho];rfl))
     clear ho
     go_simp
     go_wp2
     go_ret
     exact ⟨zh,jT HB.out HB.out.size Vr.out⟩
   ·have HZ:=Lib.hid (show r=xs.length from yZ.out.symm.trans (if_neg (by rw [← List.take_of_length_le (l:=xs) (i:=k) az,HP.out];decide)))
    go_wp2
    go_ret
    exact ⟨zh,HB.out⟩
end Go.Proofs.YtbjjaaodfbjkfaaGreatDoor
