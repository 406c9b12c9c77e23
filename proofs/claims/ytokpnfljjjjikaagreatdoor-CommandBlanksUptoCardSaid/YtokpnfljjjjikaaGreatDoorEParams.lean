import Derived.Test.YtokpnfljjjjikaaGreatDoorQCbx10
import Derived.Test.YtokpnfljjjjikaaGreatDoorQCbx5
namespace Go.Proofs.YtokpnfljjjjikaaGreatDoor.nK
open Go.RowKit Go.Proofs.aj.bQ Go.Proofs.aj.fR Go.Proofs.aj.cM
set_option linter.unusedSimpArgs false
def bK.l (k:Nat):List ByteArray→List gw→Option (Option (List gw))
 | [],ps=>some (some ps)
 |x :: xs,ps=>(strings_Cut.f x ⟨#[61]⟩).bind fun t=>(cu.f t.1).bind fun g=>(bH.f k g t.2.1 t.2.2).bind fun b=>if b=true then bK.l k xs (ps ++ [⟨g,t.2.1,t.2.2⟩]) else some none
def bK.e (xs:List ByteArray):Option (List gw)→List gw×Bool
 |none=>([],false)
 |some ps=>(ps,(xs.getD 0 ⟨#[]⟩).toList.isEmpty)
def bK.f (k:Nat) (s:ByteArray):Option (List gw×Bool):=
 if s.toList.isEmpty=true then some ([],true) else (strings_Split.f s ⟨#[32]⟩).bind fun xs=>(bK.l k (xs.drop 1) []).bind fun o=>some (bK.e xs o)
theorem bK.fJ (k:Nat):∀ xs ps,cH (bK.l k xs ps) (bK.l (k + 1) xs ps)
 | [],_ =>cH.refl _
 |x :: xs,ps=>by
  unfold bK.l
  exact cH.bind (cH.refl _) fun _ =>cH.bind (cH.refl _) fun _ =>cH.bind (bH.mono _ _ _ _) fun _ =>cH.ite (bK.fJ k xs _) (cH.refl _)
theorem bK.mono:∀ s k,cH (bK.f k s) (bK.f (k + 1) s):=by
 intro s k
 unfold bK.f
 exact cH.ite (cH.refl _) (cH.bind (cH.refl _) fun _ =>cH.bind (bK.fJ _ _ _) fun _ =>cH.refl _)
structure PH (w W:World) (A:Option Addr) (c:Nat) (xs:List ByteArray) (v:Value) (ps:List gw):Prop where
 bl:Below w.heap.size w W
 hs:Kd.R Kd.string 9 W w.heap.size (fun _ =>True) (.slice A xs.length c) xs
 hp:Kd.R zN 58 W w.heap.size (fun _ =>True) v ps
section
variable {w W W1:World} {A:Option Addr} {c:Nat} {xs:List ByteArray} {v:Value} {ps:List gw}
theorem PH.below (H:PH w W A c xs v ps) (hb:Below W.heap.size W W1):PH w W1 A c xs v ps:=⟨bR H.bl H.bl.size hb,Kd.fB H.hs hb,Kd.fB H.hp hb⟩
theorem PH.at (H:PH w W A c xs v ps) (k:Nat) (hk:k < xs.length):∃ g x,A=some ⟨g,0,none⟩∧xs[k]? =some x∧W.cell? ⟨g,k,none⟩=some (.string x):=by
 obtain ⟨ad,e1,hc⟩:=Kd.jk (Kd.iy H.hs).2.2 (k:Int) aq aq
 have hA:∃ g,A=some ⟨g,0,none⟩:=by
  obtain ⟨_,inner,⟨_,ho⟩,_⟩:=H.hs
  rcases ho with ⟨h1,_⟩|⟨g,cap,cur,h1,_⟩
  ·injection h1 with h1 h2;rw [h1] at e1;cases e1
  ·injection h1 with h1 h2;exact ⟨g,h1⟩
 obtain ⟨g,rfl⟩:=hA
 obtain rfl:=Option.some.inj e1
 refine ⟨g,xs[k],rfl,List.getElem?_eq_getElem hk,?_⟩
 have h1:jZ ByteArray.empty xs (k:Int)=xs[k]:=by simp [jZ,hk]
 have h2:((k:Int)).toNat=k:=by omega
 rw [h1,h2,add_plain] at hc
 exact hc
theorem PH.app (H:PH w W A c xs v ps) {v1:Value} {n:gw} (ho:Kd.R zN 58 W1 w.heap.size (fun _ =>True) v1 (ps ++ [n])) (hb:Below w.heap.size W W1) (hg:W.grownBy W1 v.ownBlock):PH w W1 A c xs v1 (ps ++ [n]):=by
 refine ⟨bR H.bl (Nat.le_refl _) hb,?_,ho⟩
 exact Kd.gL (Kd.WU (Kd.Uv H.hs (Kd.WV H.hp) bG) hg (fun _ hk=>hk.2)) (fun _ _ =>trivial)
end
set_option maxRecDepth 100000 in
set_option maxHeartbeats 8000000 in
theorem bK.calls (k:Nat) (a0:ByteArray) (r1:List gw) (r2:Bool) (w:World) (hG:aQ w) (h:bK.f k a0=some (r1,r2)):
 Calls Tryz.prog 141 #[.string a0] w fun e w'=>∃ Rz:Value,e= .returned (.tuple #[Rz,.bool r2])∧Kd.R zN 58 w' w.heap.size (fun _ =>True) Rz r1∧Below w.heap.size w w':=by
 unfold bK.f at h
 by_cases h0:a0.toList.isEmpty=true
 ·rw [if_pos h0] at h
  simp only [Option.some.injEq,Prod.mk.injEq] at h
  obtain ⟨rfl,rfl⟩:=h
  clear hG
  go_enter Tryz.func141,Tryz.ntmps141
  go_wp2
  go_ret2
  exact ⟨_,rfl,Kd.eX _ _ _ _ _,Below.refl _ _⟩
 ·rw [if_neg h0] at h
  replace h0:=Bool.eq_false_iff.mpr h0
  obtain ⟨xs,A1,h⟩:=Option.bind_eq_some_iff.mp h
  obtain ⟨o,A2,h⟩:=Option.bind_eq_some_iff.mp h
  try dsimp only at A1 A2 h
  have hx: 1≤xs.length∧xs.length≤4294967282:=by
   unfold strings_Split.f at A1
   rw [show one? ⟨#[32]⟩=some 32 from rfl] at A1
   simp only at A1
   split at A1
   ·rename_i hs
    obtain rfl:=Option.some.inj A1
    have h1:=kZ 32 a0.data.toList
    have h2:a0.data.toList.count 32≤a0.data.toList.length:=List.count_le_length ..
    have h3:a0.data.toList.length=a0.size:=rfl
    rw [List.length_map,h1]
    omega
   ·cases A1
  obtain ⟨hx1,hx2⟩:=hx
  have HG:=Lib.hid hG
  have pS:=Lib.hid A1
  have qu:=Lib.hid A2
  have HO:=Lib.hid (Option.some.inj h)
  have HX2:=Lib.hid hx2
  clear hG A1 A2 h hx2
  have e1:decide ((1:Int)≤(xs.length:Int))=true:=decide_eq_true aq
  go_enter Tryz.func141,Tryz.ntmps141
  go_wp2_with (go_at_call 75;refine (strings_Split.calls a0 ⟨#[32]⟩ xs w HG.out pS.out).mono ?_;rintro e w1 ⟨v0,rfl,hr,hb⟩;obtain ⟨A0,c0,rfl⟩:=Kd.fI hr;have HP:=Lib.hid (PH.mk hb hr (Kd.eX zN 58 w1 w.heap.size (fun _ =>True)));obtain ⟨g0,x0,e2,hx0,hc0⟩:=HP.out.at 0 hx1;cases e2;clear hr hb hx0 hc0)
  case inl=>
   have aiv:c0=1:=by assumption
   subst aiv
   go_loopw [4,19] (fun v i wr=>∃ (j:Nat) (ps:List gw),i= .int .i64 j∧j + 1≤xs.length∧ps.length=j∧Hid (bK.l k (xs.drop (j + 1)) ps=some o)∧Hid (PH w wr (some ⟨g0,0,none⟩) 1 xs v ps)) (fun _ i _ =>xs.length - (intOf i).toNat)
   case atStart=>exact ⟨0,[],rfl,hx1,rfl,qu,HP⟩
   case round=>
    clear HP qu
    obtain ⟨j,ps,rfl,hj,hps,HL,HP⟩:=hrel
    by_cases hlt:j + 1 < xs.length
    ·exact absurd (Kd.iy HP.out.hs).2.1 aq
    ·obtain ⟨g2,x,e2,hx,hc⟩:=HP.out.at 0 hx1
     cases e2
     have hL:=HL.out
     rw [List.drop_of_length_le aq] at hL
     obtain rfl:=Option.some.inj hL
     have hO:=HO.out
     unfold bK.e at hO
     rw [List.getD_eq_getElem?_getD,hx] at hO
     obtain ⟨rfl,rfl⟩:=Prod.mk.inj hO
     clear HL HO hL hO hx
     have e3:decide ((j:Int) < ((xs.length - 1:Nat):Int))=false:=decide_eq_false aq
     go_wp2
     go_quiet (fail)
     go_wp2
     go_ret2
     exact ⟨_,rfl,(HP.out.below (aM (Below.refl _ _) _)).hp,(HP.out.below (aM (Below.refl _ _) _)).bl⟩
  case inr=>
   go_loopw [4,19] (fun v i wr=>∃ (j:Nat) (ps:List gw),i= .int .i64 j∧j + 1≤xs.length∧ps.length=j∧Hid (bK.l k (xs.drop (j + 1)) ps=some o)∧Hid (PH w wr (some ⟨g0,0,none⟩) c0 xs v ps)) (fun _ i _ =>xs.length - (intOf i).toNat)
   case atStart=>exact ⟨0,[],rfl,hx1,rfl,qu,HP⟩
   case round=>
    clear HP qu
    obtain ⟨j,ps,rfl,hj,hps,HL,HP⟩:=hrel
    by_cases hlt:j + 1 < xs.length
    ·obtain ⟨g2,x,e2,hx,hc⟩:=HP.out.at (j + 1) hlt
     cases e2
     have hL:=HL.out
     rw [List.drop_eq_getElem_cons hlt] at hL
     rw [List.getElem?_eq_getElem hlt] at hx
     rw [Option.some.inj hx] at hL
     clear HL hx
     unfold bK.l at hL
     obtain ⟨⟨t1,t2,t3⟩,B1,hL⟩:=Option.bind_eq_some_iff.mp hL
     obtain ⟨g,B2,hL⟩:=Option.bind_eq_some_iff.mp hL
     obtain ⟨b,B3,hL⟩:=Option.bind_eq_some_iff.mp hL
     dsimp only at B2 B3 hL
     have su:=Lib.hid B1
     have iE:=Lib.hid B2
     have BG:=Lib.hid B3
     have HL:=Lib.hid hL
     clear B1 B2 B3 hL
     rw [show j + 1=0 + 1 + j by omega] at hc
     have e3:decide ((j:Int) < ((xs.length - 1:Nat):Int))=true:=decide_eq_true aq
     cases b with
     |true=>
      go_wp2_with (first
       |(go_at_call 91;refine (strings_Cut.calls x ⟨#[61]⟩ t1 t2 t3 _ (HG.out.below HP.out.bl) su.out).mono ?_;rintro e w2 ⟨rfl,n,rfl⟩)
       |(go_at_call 93;refine (cu.calls t1 g _ iE.out).mono ?_;rintro e w3 ⟨rfl,hb3⟩;have aaZ:=Lib.hid hb3;clear hb3)
       |(go_at_call 138;refine (bH.calls k g t2 t3 true _ BG.out).mono ?_;rintro e w4 ⟨rfl,hb4⟩;have hbk:=(hb4.block w3.heap.size aV).trans (heap_alloc_new w3 _);have aiw:w4.cell? ⟨w3.heap.size,0,none⟩=some (.string g):=(af hbk 0).trans rfl;have aix:w4.cell? ⟨w3.heap.size,1,none⟩=some (.string t2):=(af hbk 1).trans rfl;have aiy:w4.cell? ⟨w3.heap.size,2,none⟩=some (.bool t3):=(af hbk 2).trans rfl;have h1:=aM (Below.refl wr.heap.size wr) n;have h2:=bR h1 h1.size aaZ.out;have h3:=aG h2 (.cells #[.string g,.string t2,.bool t3] 58);have HP4:=Lib.hid (HP.out.below (bR h3 h3.size hb4));clear hb4 hbk h1 h2 h3)
       |((with_reducible refine kS (b:= .append) (xs:=#[.tmp 37,.tmp 39]) rfl ?_);at_builtin;refine Kd.qx zN w.heap.size rfl (.tmp 37) (.tmp 39) 33 58 (.agg #[.string ⟨#[]⟩,.string ⟨#[]⟩,.bool false]) 40 rfl Tryz.underlying33 aaB rfl bG aq _ ps ⟨g,t2,t3⟩ [.string g,.string t2,.bool t3] (fun _ =>True) (fun _ =>False) rfl sA ?aP (fun _ hk=>hk.elim) ?aF ?aO (Below.refl _ _) ?aS ?aL ?_;(case aP=>exact Iz _ _ _ _);(case aF=>exact (fun _ _ =>trivial));(case aO=>exact HP4.out.hp);(case aS=>exact HP4.out.bl.size);(case aL=>have:=HX2.out;omega);intro v3 w5 ho hb hg hat;obtain ⟨A3,c3,rfl⟩:=Kd.fI ho;have nQ:=Lib.hid (HP4.out.app ho hb hg);clear ho hb hg hat))
      have hx2:=HX2.out
      have hw:wrap64 ((j:Int) + 1)=((j + 1:Nat):Int):=by unfold wrap64;omega
      go_roundw
      case rel=>exact ⟨j + 1,ps ++ [⟨g,t2,t3⟩],by rw [hw],aq,by simp [hps],Lib.hid (by have h:=HL.out;rw [if_pos trivial] at h;exact h),Lib.hid (by have h:=nQ.out;rw [List.length_append,hps] at h;exact h)⟩
      case measure=>rw [hw];simp [intOf];omega
     |false=>
      go_wp2_with (first
       |(go_at_call 91;refine (strings_Cut.calls x ⟨#[61]⟩ t1 t2 t3 _ (HG.out.below HP.out.bl) su.out).mono ?_;rintro e w2 ⟨rfl,n,rfl⟩)
       |(go_at_call 93;refine (cu.calls t1 g _ iE.out).mono ?_;rintro e w3 ⟨rfl,hb3⟩;have aaZ:=Lib.hid hb3;clear hb3)
       |(go_at_call 138;refine (bH.calls k g t2 t3 false _ BG.out).mono ?_;rintro e w4 ⟨rfl,hb4⟩;have hbk:=(hb4.block w3.heap.size aV).trans (heap_alloc_new w3 _);have aiw:w4.cell? ⟨w3.heap.size,0,none⟩=some (.string g):=(af hbk 0).trans rfl;have aix:w4.cell? ⟨w3.heap.size,1,none⟩=some (.string t2):=(af hbk 1).trans rfl;have aiy:w4.cell? ⟨w3.heap.size,2,none⟩=some (.bool t3):=(af hbk 2).trans rfl;have h1:=aM (Below.refl wr.heap.size wr) n;have h2:=bR h1 h1.size aaZ.out;have h3:=aG h2 (.cells #[.string g,.string t2,.bool t3] 58);have HP4:=Lib.hid (HP.out.below (bR h3 h3.size hb4));clear hb4 hbk h1 h2 h3))
      have hL:=HL.out
      rw [if_neg bG] at hL
      obtain rfl:=Option.some.inj hL
      have hO:=HO.out
      obtain ⟨rfl,rfl⟩:=Prod.mk.inj hO
      go_ret2
      exact ⟨_,rfl,Kd.eX _ _ _ _ _,HP4.out.bl⟩
    ·obtain ⟨g2,x,e2,hx,hc⟩:=HP.out.at 0 hx1
     cases e2
     have hL:=HL.out
     rw [List.drop_of_length_le aq] at hL
     obtain rfl:=Option.some.inj hL
     have hO:=HO.out
     unfold bK.e at hO
     rw [List.getD_eq_getElem?_getD,hx] at hO
     obtain ⟨rfl,rfl⟩:=Prod.mk.inj hO
     clear HL HO hL hO hx
     have e3:decide ((j:Int) < ((xs.length - 1:Nat):Int))=false:=decide_eq_false aq
     go_wp2
     go_quiet (fail)
     go_wp2
     go_ret2
     exact ⟨_,rfl,(HP.out.below (aM (Below.refl _ _) _)).hp,(HP.out.below (aM (Below.refl _ _) _)).bl⟩
end Go.Proofs.YtokpnfljjjjikaaGreatDoor.nK
