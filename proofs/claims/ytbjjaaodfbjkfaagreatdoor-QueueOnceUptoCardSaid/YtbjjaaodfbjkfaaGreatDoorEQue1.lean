import Derived.Test.YtbjjaaodfbjkfaaGreatDoorQQux0
import Derived.Lib.Hide
import Derived.Lib.SliceRun
import Derived.Shelf.RegionOpenPlain
set_option maxHeartbeats 4000000
set_option maxRecDepth 1000000
namespace Go.Proofs.YtbjjaaodfbjkfaaGreatDoor.mU
open Go.RowKit Go.Proofs.ak.bR Go.Proofs.ak.dz Go.Proofs.ak.cZ
set_option linter.unusedVariables false
set_option linter.unusedSimpArgs false
abbrev Ml:=pE
abbrev KW:=Fw
theorem adv:(Tryz.prog.info? 34).map (fun i=>(i.zero,i.size,i.bytes))=some (some (.agg #[.int .i64 0,.bool false,.slice none 0 0,.string ⟨#[]⟩,.string ⟨#[]⟩,.bool false,.slice none 0 0,.slice none 0 0,.int .i64 0]),9,136):=by kernel_rfl
def lG (id:Int):List Ml→Nat→Int
 | [],_ =>-1
 |m :: l,k=>if m.f0=id then (k:Int) else lG id l (k + 1)
theorem adw (x0:Int) (x1:Bool) (v2:Value) (x3 x4:ByteArray) (x5:Bool) (v6 v7:Value) (x8:Int) (id:Int) (g:Nat) (w:World) (hc:w.cell? ⟨g,1,none⟩=some (.int .i64 id)):
 Calls Tryz.prog 105 #[.agg #[.int .i64 x0,.bool x1,v2,.string x3,.string x4,.bool x5,v6,v7,.int .i64 x8],.pointer (some ⟨g,0,none⟩)] w fun e w'=>e= .returned (.bool (decide (x0=id)))∧Below w.heap.size w w':=by
 have hc2:=(World.cell?_alloc_lt w (.cells #[.int .i64 x0,.bool x1,v2,.string x3,.string x4,.bool x5,v6,v7,.int .i64 x8] 34) _ (World.block_lt_of_cell? w _ hc)).trans hc
 by_cases h:x0=id
 ·have e1:decide (x0=id)=true:=decide_eq_true h
  have e2:(x0 == id)=true:=by simpa using h
  have H:=Lib.hid h
  clear h
  go_enter Tryz.func105,Tryz.ntmps105
  go_wp2
  go_ret
  exact ⟨by simp [H.out],b9 (Below.refl _ _) _⟩
 ·have e1:decide (x0=id)=false:=decide_eq_false h
  have e2:(x0 == id)=false:=by simpa using h
  have H:=Lib.hid h
  clear h
  go_enter Tryz.func105,Tryz.ntmps105
  go_wp2
  go_ret
  exact ⟨by simp [H.out],b9 (Below.refl _ _) _⟩
theorem uA (xs:List Ml) (id:Int) (A:Option Addr) (c:Nat) (g:Nat) (w:World) (hR:Kd.C KW w A xs.length xs) (hc:w.cell? ⟨g,1,none⟩=some (.int .i64 id)):
 Calls Tryz.prog 104 #[.slice A xs.length c,.func (.func 105) #[] #[.pointer (some ⟨g,0,none⟩)]] w fun e w'=>e= .returned (.int .i64 (lG id xs 0))∧Below w.heap.size w w':=by
 have hu:=Tryz.underlying34
 have hn:=hR.2.1
 have HR:=Lib.hid hR
 have HC:=Lib.hid hc
 clear hR hc
 obtain ⟨r,hr⟩:∃ r,r=lG id xs 0:=⟨_,rfl⟩
 rw [← hr]
 have H0:=Lib.hid hr
 clear hr
 go_enter Tryz.func104,Tryz.ntmps104
 go_wp2
 go_loopw [8] (fun i wr=>∃ k:Nat,k≤xs.length∧i= .int .i64 k∧Hid (lG id (xs.drop k) k=r)∧Hid (Below w.heap.size w wr)) (fun i _ =>xs.length - (intOf i).toNat)
 case atStart=>exact ⟨0,Nat.zero_le _,rfl,Lib.hid (by rw [H0.out];rfl),Lib.hid (Below.refl _ _)⟩
 case round=>
  obtain ⟨k,hk,rfl,HP,HB⟩:=hrel
  by_cases hlt:k < xs.length
  ·have hT:=HP.out
   rw [List.drop_eq_getElem_cons hlt,show xs[k]=aj xs (k:Int) by simp [aj,hlt]] at hT
   unfold lG at hT
   have HT:=Lib.hid hT
   have hx:=qw HR.out (k:Int) az az
   clear HP hT
   generalize aj xs (k:Int)=x at hx HT
   rw [Int.toNat_natCast] at hx
   obtain ⟨ad,A2,c2,A6,c6,A7,c7,rfl,hx0,hx1,hx2,hx3,ET,BF,LR,SC,Zi,-⟩:=hx
   replace hx0:=(HB.out.cell (World.block_lt_of_cell? w _ hx0)).trans hx0
   replace hx1:=(HB.out.cell (World.block_lt_of_cell? w _ hx1)).trans hx1
   replace hx2:=(HB.out.cell (World.block_lt_of_cell? w _ hx2)).trans hx2
   replace hx3:=(HB.out.cell (World.block_lt_of_cell? w _ hx3)).trans hx3
   replace ET:=(HB.out.cell (World.block_lt_of_cell? w _ ET)).trans ET
   replace BF:=(HB.out.cell (World.block_lt_of_cell? w _ BF)).trans BF
   replace LR:=(HB.out.cell (World.block_lt_of_cell? w _ LR)).trans LR
   replace SC:=(HB.out.cell (World.block_lt_of_cell? w _ SC)).trans SC
   replace Zi:=(HB.out.cell (World.block_lt_of_cell? w _ Zi)).trans Zi
   have HCR:=Lib.hid ((HB.out.cell (World.block_lt_of_cell? w _ HC.out)).trans HC.out)
   have HK:=Lib.hid (fun v2 v6 v7=>adw x.f0 x.f1.f0 v2 x.f1.f2.f0 x.f1.f2.f1 x.f1.f2.f2 v6 v7 x.f4 id g wr HCR.out)
   by_cases hb:x.f0=id
   ·rw [show decide (x.f0=id)=true from decide_eq_true hb] at HK
    have HE:=Lib.hid (HT.out.symm.trans (if_pos hb))
    clear hb HT
    go_wp2_with (go_at_call 105;refine (HK.out _ _ _).mono ?_;rintro e w1 ⟨rfl,hb1⟩;have qc:=Lib.hid (dL HB.out HB.out.size hb1);clear hb1)
    go_ret
    exact ⟨by rw [HE.out];rfl,qc.out⟩
   ·rw [show decide (x.f0=id)=false from decide_eq_false hb] at HK
    have HE:=Lib.hid ((if_neg hb).symm.trans HT.out)
    clear hb HT
    go_wp2_with (go_at_call 105;refine (HK.out _ _ _).mono ?_;rintro e w1 ⟨rfl,hb1⟩;have qc:=Lib.hid (dL HB.out HB.out.size hb1);clear hb1)
    go_roundw
    case rel=>exact ⟨k + 1,az,by go_num,HE,qc⟩
    case measure=>simp [intOf];omega
  ·have HZ:=Lib.hid (show r= -1 by rw [← HP.out,List.drop_of_length_le az];rfl)
   go_wp2
   go_ret
   exact ⟨zh,HB.out⟩
theorem Ux {α:Type} {d:Kd α} {e:Nat} {w:World} {base:Nat} {ok:Nat→Prop} {g n cap:Nat} {xs:List α} (h:Kd.S d e w base ok (.slice (some ⟨g,0,none⟩) n cap) xs) (vs:List Value) (o:Nat) (ho:n * d.sz≤o) (hv:o + vs.length≤cap * d.sz):
 Kd.S d e (w.setCells g o vs) base ok (.slice (some ⟨g,0,none⟩) n cap) xs∧w.grownBy (w.setCells g o vs) (some g):=by
 obtain ⟨f,h0,inner,⟨hl,ho'⟩,hr⟩:=h
 replace ho:n * (Kd.tag f d).sz≤o:=ho
 replace hv:o + vs.length≤cap * (Kd.tag f d).sz:=hv
 have hgr:w.grownBy (w.setCells g o vs) (some g):=by
  obtain ⟨s1,s2,s3,s4⟩:=pS g vs o w
  exact ⟨s1,s2,s3,by rw [s4];exact Nat.le_refl _,fun k _ hk=>qI vs o k (fun e=>hk (by rw [e]))⟩
 refine ⟨⟨f,h0,inner,⟨hl,?_⟩,hr.vL (fun p c hp=>Kd.VE hp hgr (fun k hk=>hk.2))⟩,hgr⟩
 rcases ho' with ⟨h1,_⟩|⟨g',cap',cur,h1,hb,hh,hnc,hcm,hcs,ht⟩
 ·cases h1
 ·injection h1 with h1 h2 h3
  injection h1 with h1
  injection h1 with h1
  subst h1 h3
  obtain ⟨cur',c1,c2,c3⟩:=qJ vs o w cur hh (by rw [hcs];exact hv)
  have hz:xs.zipIdx.length=n:=h2.symm
  refine .inr ⟨g,cap,cur',by rw [hz],hb,c1,hnc,hcm,by rw [c2,hcs],?_⟩
  rw [c3,← ht,hz,List.append_assoc,List.take_append_of_le_length (by rw [List.length_take,Array.length_toList,hcs];omega),List.take_take,Nat.min_eq_left ho]
def zMl:List Value:=[.int .i64 0,.bool false,.slice none 0 0,.string ⟨#[]⟩,.string ⟨#[]⟩,.bool false,.slice none 0 0,.slice none 0 0,.int .i64 0]
theorem Zj:∀ u∈zMl,u.oneCell'=true:=by decide
theorem RG (w:World) (ty:TypeId) (g o c:Nat) (hc:∀ j,j < 9→(w.cell? ⟨g,o + j,none⟩).isSome=true) (hf:∀ j,j < 9→w.frozen? ⟨g,o + j,none⟩=false):
 (Builtin.clear_ #[38] ty #[.slice (some ⟨g,o,none⟩) 1 c]).run Tryz.prog w= .ok (.tuple #[]) (w.setCells g o zMl):=by
 have hst:=run_storeCells_cells (P:=Tryz.prog) g o zMl 0 w (by simpa [zMl] using hc) (by simpa [zMl] using hf) Zj
 simp only [Nat.add_zero] at hst
 have hzc:(Builtin.zeroCells (Value.agg #[.int .i64 0,.bool false,.slice none 0 0,.string ⟨#[]⟩,.string ⟨#[]⟩,.bool false,.slice none 0 0,.slice none 0 0,.int .i64 0]).cells 1).toList=zMl:=by kernel_rfl
 simp [Builtin.clear_,run_underlying Tryz.underlying38,Tryz.zeroValue34,hzc,hst]
theorem Fz {g n cap base:Nat} {e:TypeId} {size:Nat} {w:World} {xs:List Value} (h:w.ownsRow base e size (.slice (some ⟨g,0,none⟩) n cap) n xs) (o:Nat) (ho:o < cap * size):(w.cell? ⟨g,o,none⟩).isSome=true∧w.frozen? ⟨g,o,none⟩=false:=by
 rcases h.2 with ⟨h1,_⟩|⟨g',cap',cur,h1,hb,hh,hnc,hcm,hcs,ht⟩
 ·cases h1
 ·injection h1 with h1 h2 h3
  injection h1 with h1
  injection h1 with h1
  subst h1 h3
  rw [af hh]
  exact ⟨by simp [hcs,ho],aa hh _⟩
theorem KX {α:Type} {P:Program} {ops:Array Oper} {o:Oper} {a:Act} {Q:Exit→Act→World→Prop} {Kc:Act→World→Prop} {E:Prop} (d:Kd α) {w0 W:World} (base:Nat) (hg:o.guard=none) (s x:Operand) (t e:TypeId) (ho:o.op= .call {callee:= .builtin .append,args:=#[s,x],argTypes:=#[t,t]})
 (ht:P.underlying t=some (.slice e)) (hinfo:(P.info? e).map (·.size)=some d.sz) {g n c k m c2:Nat} {A:Option Addr} {xs:List α} {ok:Nat→Prop}
 (hs:a.eval s= .slice (some ⟨g,0,none⟩) k c) (hx:a.eval x= .slice A m c2) (hA:A=if c=k + 1 then some ⟨g,0,none⟩ else (some (⟨g,0,none⟩:Addr)).map (·.add ((k + 1) * d.sz))) (hm:m=n - (k + 1))
 (HO:Kd.S d e W base ok (.slice (some ⟨g,0,none⟩) n c) xs) (hk:k < n) (HB:Below base w0 W) (hbase:base≤W.heap.size)
 (h:∀ w1,Kd.S d e w1 base ok (.slice (some ⟨g,0,none⟩) (n - 1) c) (xs.eraseIdx k)→Below base w0 w1→W.grownBy w1 (some g)→Kc (a.put o.dst (.slice (some ⟨g,0,none⟩) (n - 1) c)) w1):
 if Region.wanted o (yielded ops a.tmps)=true then Oper.wp P o a W Kc Q else E:=by
 have hw:Region.wanted o (yielded ops a.tmps)=true:=by simp [Region.wanted,hg]
 have h1:=Kd.E1 (Q:=Q) d base hw s x t e ho ht hinfo hs hx hA hm HO hk HB hbase h
 rw [if_pos hw] at h1 ⊢
 exact h1
theorem Iw (xs:List Ml) (g cap i base:Nat) (w0 w:World) (hS:Kd.S KW 34 w base (fun _ =>True) (.slice (some ⟨g,0,none⟩) xs.length cap) xs) (hi:i < xs.length) (hB:Below base w0 w) (hbase:base≤w.heap.size):
 Calls Tryz.prog 107 #[.slice (some ⟨g,0,none⟩) xs.length cap,.int .i64 i,.int .i64 ((i:Int) + 1)] w fun e w'=>e= .returned (.slice (some ⟨g,0,none⟩) (xs.length - 1) cap)∧Kd.S KW 34 w' base (fun _ =>True) (.slice (some ⟨g,0,none⟩) (xs.length - 1) cap) (xs.eraseIdx i)∧Below base w0 w'∧w.grownBy w' (some g):=by
 obtain ⟨hn,hcap,hC⟩:=Kd.fu hS
 have hmax:cap≤9223372036854775807:=by
  obtain ⟨inner,hl,ho⟩:=Kd.abf hS
  rcases ho with ⟨h1,_⟩|⟨g',cap',cur,h1,hb,hh,hnc,hcm,hcs,ht⟩
  ·cases h1
  ·injection h1 with h1 h2 h3
   subst h3
   simpa [maxLen] using hcm
 have HS:=Lib.hid (Kd.TC hS)
 have HB:=Lib.hid (fS hB)
 have HBs:=Lib.hid hbase
 clear hS hB hbase hC hn
 have HI:=Lib.hid (show (Tryz.prog.info? 34).map (·.size)=some KW.sz by kernel_rfl)
 have HA:=Lib.hid (show (if cap=i + 1 then some (⟨g,0,none⟩:Addr) else some ⟨g,(i + 1) * 9,none⟩)=if cap=i + 1 then some ⟨g,0,none⟩ else (some (⟨g,0,none⟩:Addr)).map (·.add ((i + 1) * KW.sz)) by congr 1;show some (⟨g,(i + 1) * 9,none⟩:Addr)=some ((⟨g,0,none⟩:Addr).add ((i + 1) * 9));rw [add_plain])
 have hic:i≤cap:=by omega
 have hjc:i + 1≤cap:=by omega
 have hb1:(0:Int)≤(i:Int) + 1:=by omega
 have hb2:(i:Int) + 1≤(xs.length:Int):=by omega
 go_enter Tryz.func107,Tryz.ntmps107
 go_wp2_with fail
 go_region_law (refine KX KW base rfl (.tmp 22) (.tmp 25) 38 34 rfl Tryz.underlying38 HI.out (g:=g) (n:=xs.length) (c:=cap) (k:=i) (m:=xs.length - (i + 1)) (c2:=cap - (i + 1)) (A:=if cap=i + 1 then some ⟨g,0,none⟩ else some ⟨g,(i + 1) * 9,none⟩) (by simp [Act.eval,Act.put]) (by simp [Act.eval,Act.put]) HA.out rfl HS.out hi HB.out HBs.out ?_;intro w1 hs1 hb1 hg1;have HS1:=Lib.hid hs1;have qc:=Lib.hid hb1;have HG1:=Lib.hid hg1;clear hs1 hb1 hg1)
 have hp1:xs.length - 1≤cap:=by omega
 have hp2:(0:Int)≤((xs.length - 1:Nat):Int):=by omega
 have hp3:((xs.length - 1:Nat):Int)≤(xs.length:Int):=by omega
 have hp4:(cap=xs.length - 1)=False:=eq_false az
 have hcl:∀ ty,(Builtin.clear_ #[38] ty #[.slice (some ⟨g,(xs.length - 1) * 9,none⟩) (xs.length - (xs.length - 1)) (cap - (xs.length - 1))]).run Tryz.prog w1= .ok (.tuple #[]) (w1.setCells g ((xs.length - 1) * 9) zMl):=by
  intro ty
  rw [show xs.length - (xs.length - 1)=1 by omega]
  obtain ⟨inner,ho⟩:=Kd.abf HS1.out
  have hll:(xs.eraseIdx i).length=xs.length - 1:=by rw [List.length_eraseIdx,if_pos hi]
  rw [hll] at ho
  exact RG w1 ty g ((xs.length - 1) * 9) _ (fun j hj=>(Fz ho _ (show (xs.length - 1) * 9 + j < cap * 9 by omega)).1) (fun j hj=>(Fz ho _ (show (xs.length - 1) * 9 + j < cap * 9 by omega)).2)
 obtain ⟨s1,s2⟩:=Ux HS1.out zMl ((xs.length - 1) * 9) (Nat.le_refl _) (show (xs.length - 1) * 9 + 9≤cap * 9 by omega)
 have hgb:base≤g:=Kd.kH HS1.out g rfl
 have H3:=Lib.hid (qc.out.grown s2 (Nat.le_trans HBs.out HG1.out.size) (fun k hk=>by obtain rfl:=Option.some.inj hk;exact hgb))
 have H4:=Lib.hid (World.grownBy.trans (World.grownBy.trans (mL (fS (Below.refl _ w)) _) HG1.out) s2)
 have H2:=Lib.hid s1
 clear s1 s2 hgb
 go_wp2_with fail
 case inl h=>
  go_ret
  exact ⟨rfl,by have h2:=H2.out;rw [h] at h2;exact h2,H3.out,H4.out⟩
 case inr h=>
  go_ret
  exact ⟨rfl,H2.out,H3.out,H4.out⟩
end Go.Proofs.YtbjjaaodfbjkfaaGreatDoor.mU
