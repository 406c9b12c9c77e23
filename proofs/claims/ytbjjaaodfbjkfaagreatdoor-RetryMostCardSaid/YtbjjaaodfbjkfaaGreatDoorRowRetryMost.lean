/- RetryMost: the row and its card. -/
import Derived.Test.YtbjjaaodfbjkfaaGreatDoorCards
import Derived.Test.YtbjjaaodfbjkfaaGreatDoorTie
import Derived.Test.YtbjjaaodfbjkfaaGreatDoorPurePMost
import Derived.ProofKit
import Derived.OpenShut
import Derived.ShutString
import Derived.Deep.DeepWitnessRowRef
import Derived.Stop.LaidErr
import Derived.Test.YtbjjaaodfbjkfaaGreatDoorWSized
set_option maxRecDepth 1000000
namespace Go.Proofs.YtbjjaaodfbjkfaaGreatDoor.retryMost
open Go.ChangeShapes Go.WideShapes Go.ChangeAt Go.RowKit
open Go.ChangeMaps (open_string shut_string)
open Go.Proofs.aj.bQ (kY)
set_option linter.unusedVariables false
set_option linter.unusedSimpArgs false
theorem own:ownKnob Tryz.prog.godebug=none:=by kernel_rfl
theorem laidOut:laidOutB Tryz.prog=true:=by kernel_rfl
def acO (k:IntKind) (w:World) (a:Option Addr) (len cap:Nat) (zs:List Int):Prop:=
 (a=none∧len=0∧cap=0∧zs= [])∨
 ∃ x,a=some x∧len≤cap∧cap≤maxLen∧zs.length=cap∧(∀ i,i < zs.length→w.cell? (x.add i)=some (.int k (zs.getD i 0)))∧∀ n∈zs,(Lit.int k n).wf=true
theorem star: "*" ++ "errors.errorString" = "*errors.errorString":=by decide
theorem TY (u:TypeId) (h:Tryz.prog.typeName? 3 u=some "*errors.errorString"):u=298:=
 typeName_ptr_named (nm:= "errors.errorString") (by rw [star];kernel_rfl) aR bE u (by rw [star];exact h)
theorem KA {W:World} (hL:laidMetH Tryz.prog Rows.retryMostRow.laid W) (hS:W.ShapedOpen Tryz.prog):bp W:=by
 have hL':laidMet Tryz.prog Rows.retryMostRow.laid W:=hL
 obtain ⟨a0,s0,hv0,_⟩:=laid_sentinel (g:=4) hL'.tail.tail.tail.tail aR aR Tryz.underlying180 TY Tryz.underlying298 Tryz.underlying300 rfl rfl Tryz.underlying9 aR aR
 obtain ⟨a1,s1,hv1,_⟩:=laid_sentinel (g:=3) hL'.tail.tail.tail.tail.tail aR aR Tryz.underlying180 TY Tryz.underlying298 Tryz.underlying300 rfl rfl Tryz.underlying9 aR aR
 refine ⟨cell_of_shapedOpen_int (zero:=#[.int .i64 0]) hS (of_decide_eq_true aR) aR aR aR aR Tryz.underlying3,⟨_,by simpa using World.var?_cell (show Tryz.prog.globalNamed "strconv.ErrSyntax" =some 3 by kernel_rfl) hv1 0,.inr ⟨_,_,rfl⟩⟩,⟨_,by simpa using World.var?_cell (show Tryz.prog.globalNamed "strconv.ErrRange" =some 4 by kernel_rfl) hv0 0,.inr ⟨_,_,rfl⟩⟩⟩
noncomputable def wo (os:Os):World:=
 let N:=(World.settled Tryz.prog os).heap.size
 let w0:=World.holding Tryz.prog os ⟨#[.cells #[.string ⟨#[118,97,108,117,101,32,111,117,116,32,111,102,32,114,97,110,103,101]⟩] 300,.cells #[.string ⟨#[105,110,118,97,108,105,100,32,115,121,110,116,97,120]⟩] 300],#[],[]⟩
 let put (h:Array Obj) (g:Nat) (cs:Array Value):Array Obj:=h.modify g fun
  | .cells _ t frozen=> .cells cs t frozen
  |o=>o
 {w0 with heap:=(put (put (put (put (put (put (put w0.heap 6 #[Value.int .u8 0,Value.int .u8 1,Value.int .u8 28,Value.int .u8 2,Value.int .u8 29,Value.int .u8 14,Value.int .u8 24,Value.int .u8 3,Value.int .u8 30,Value.int .u8 22,Value.int .u8 20,Value.int .u8 15,Value.int .u8 25,Value.int .u8 17,Value.int .u8 4,Value.int .u8 8,Value.int .u8 31,Value.int .u8 27,Value.int .u8 13,Value.int .u8 23,Value.int .u8 21,Value.int .u8 19,Value.int .u8 16,Value.int .u8 7,Value.int .u8 26,Value.int .u8 12,Value.int .u8 18,Value.int .u8 6,Value.int .u8 11,Value.int .u8 5,Value.int .u8 10,Value.int .u8 9]) 7 #[Value.int .u8 0,Value.int .u8 1,Value.int .u8 56,Value.int .u8 2,Value.int .u8 57,Value.int .u8 49,Value.int .u8 28,Value.int .u8 3,Value.int .u8 61,Value.int .u8 58,Value.int .u8 42,Value.int .u8 50,Value.int .u8 38,Value.int .u8 29,Value.int .u8 17,Value.int .u8 4,Value.int .u8 62,Value.int .u8 47,Value.int .u8 59,Value.int .u8 36,Value.int .u8 45,Value.int .u8 43,Value.int .u8 51,Value.int .u8 22,Value.int .u8 53,Value.int .u8 39,Value.int .u8 33,Value.int .u8 30,Value.int .u8 24,Value.int .u8 18,Value.int .u8 12,Value.int .u8 5,Value.int .u8 63,Value.int .u8 55,Value.int .u8 48,Value.int .u8 27,Value.int .u8 60,Value.int .u8 41,Value.int .u8 37,Value.int .u8 16,Value.int .u8 46,Value.int .u8 35,Value.int .u8 44,Value.int .u8 21,Value.int .u8 52,Value.int .u8 32,Value.int .u8 23,Value.int .u8 11,Value.int .u8 54,Value.int .u8 26,Value.int .u8 40,Value.int .u8 15,Value.int .u8 34,Value.int .u8 20,Value.int .u8 31,Value.int .u8 10,Value.int .u8 25,Value.int .u8 14,Value.int .u8 19,Value.int .u8 9,Value.int .u8 13,Value.int .u8 8,Value.int .u8 7,Value.int .u8 6]) 5 #[Value.int .u64 1,Value.int .u64 10,Value.int .u64 100,Value.int .u64 1000,Value.int .u64 10000,Value.int .u64 100000,Value.int .u64 1000000,Value.int .u64 10000000,Value.int .u64 100000000,Value.int .u64 1000000000,Value.int .u64 10000000000,Value.int .u64 100000000000,Value.int .u64 1000000000000,Value.int .u64 10000000000000,Value.int .u64 100000000000000,Value.int .u64 1000000000000000,Value.int .u64 10000000000000000,Value.int .u64 100000000000000000,Value.int .u64 1000000000000000000,Value.int .u64 10000000000000000000]) 2 #[Value.int .u8 128,Value.int .u8 191,Value.int .u8 160,Value.int .u8 191,Value.int .u8 128,Value.int .u8 159,Value.int .u8 144,Value.int .u8 191,Value.int .u8 128,Value.int .u8 143,Value.int .u8 0,Value.int .u8 0,Value.int .u8 0,Value.int .u8 0,Value.int .u8 0,Value.int .u8 0,Value.int .u8 0,Value.int .u8 0,Value.int .u8 0,Value.int .u8 0,Value.int .u8 0,Value.int .u8 0,Value.int .u8 0,Value.int .u8 0,Value.int .u8 0,Value.int .u8 0,Value.int .u8 0,Value.int .u8 0,Value.int .u8 0,Value.int .u8 0,Value.int .u8 0,Value.int .u8 0]) 4 #[.iface 298 (.pointer (some ⟨N + 0,0,none⟩))]) 3 #[.iface 298 (.pointer (some ⟨N + 1,0,none⟩))]) 1 (Go.Pinned.utf8FirstZ.map fun (z:Nat)=>Value.int .u8 (z:Int)).toArray)}
theorem TZ (os:Os):laidMet Tryz.prog Rows.retryMostRow.laid ((wo os).forCall (fun _ _ =>0) ⟨#[],#[.slice none 0 0,.int .u16 0,.int .u32 0,.slice none 0 0],[]⟩).memory:=
 laidMet_of_run' 8 aR aR
theorem I7 (os:Os) {H:Type} (enc:TypeId×Value→H):
 (OpenSpec.ofChange Rows.retryMostSpec).preRow enc Tryz.prog Tryz.f3 Rows.retryMostRow.domain false Rows.retryMostRow.laid ((wo os).forCall (fun _ _ =>0) ⟨#[],#[.slice none 0 0,.int .u16 0,.int .u32 0,.slice none 0 0],[]⟩).memory #[.slice none 0 0,.int .u16 0,.int .u32 0,.slice none 0 0]:=by
 have hw:(DataW.whole enc Tryz.prog ((wo os).forCall (fun _ _ =>0) ⟨#[],#[.slice none 0 0,.int .u16 0,.int .u32 0,.slice none 0 0],[]⟩).memory Tryz.f3.params.toList Rows.retryMostSpec.vars false #[.slice none 0 0,.int .u16 0,.int .u32 0,.slice none 0 0].toList 8).map (fun x=>(x.1,x.2.1))=
  some ([.nil,.lit (.int .u16 0),.lit (.int .u32 0),.nil],[]):=by kernel_rfl
 obtain ⟨⟨x1,x2,x3⟩,hx,hx1⟩:=Option.map_eq_some_iff.1 hw
 simp only [Prod.mk.injEq] at hx1
 obtain ⟨rfl,rfl⟩:=hx1
 exact OpenSpec.preRow_of_cond 8 hx aR (fun k hk=>by cases hk<;>kernel_rfl) aR (TZ os)
set_option maxHeartbeats 2000000 in
theorem lifted (os:Os) (started:os.Started) (H:Type) (enc:TypeId×Value→H) (F:Stop.Interp):
 ReturnsInHanded {} Tryz.checked os 3 .any ((OpenSpec.ofChange Rows.retryMostSpec).preRow enc Tryz.prog Tryz.f3 Rows.retryMostRow.domain false Rows.retryMostRow.laid) (((OpenSpec.ofChange Rows.retryMostSpec).at F).post enc Tryz.prog Tryz.f3 false true false false):=by
 refine returnsInHanded_of_row (C:=Tryz.checked) (s:=OpenSpec.ofChange Rows.retryMostSpec) own started aR Tryz.func3
  (witness_row_atRef (enc:=enc) (C:=Tryz.checked) false (wo os) #[.slice none 0 0,.int .u16 0,.int .u32 0,.slice none 0 0] rfl aR aR aR (I7 os enc)) ?_
 intro W base args ds gs before acP hW hcnd hcond aqJ hL hS _
 have hG:=KA hL hS
 clear hcnd hcond hL hS
 have hsz:(DataW.weightsEach Tryz.prog (Tryz.f3.params.toList ++ Rows.retryMostSpec.plain.varTypes Tryz.prog) (ds ++ gs)).all (·≤reachBytes)=true:=aqJ
 have hval:∀ (j:Nat) t v,Tryz.f3.params[j]? =some t→args[j]? =some v→Value.okWide Tryz.prog W .any base t v:=acP
 have hW':=hW
 obtain ⟨p,q,hA0,hV,rfl,hfz,hnd⟩:=hW
 have hA:DataW.TrodAll enc Tryz.prog W 0 (fun _ =>true) true Tryz.f3.params.toList args.toList ds p:=hA0
 rw [Tryz.params3] at hA hval hsz
 obtain ⟨v0,vs0,d0,ds0,p0,q0,hargs,rfl,rfl,h0,r0⟩:=trodAll_cons hA
 obtain ⟨v1,vs1,d1,ds1,p1,q1,rfl,rfl,rfl,h1,r1⟩:=trodAll_cons r0
 obtain ⟨v2,vs2,d2,ds2,p2,q2,rfl,rfl,rfl,h2,r2⟩:=trodAll_cons r1
 obtain ⟨v3,vs3,d3,ds3,p3,q3,rfl,rfl,rfl,h3,r3⟩:=trodAll_cons r2
 obtain ⟨rfl,rfl,rfl⟩:=trodAll_nil r3
 obtain rfl:args= #[v0,v1,v2,v3]:=by cases args;simp_all
 obtain ⟨rfl,rfl⟩:=trodVars_none hV
 obtain ⟨a0,IZ,I0,rfl⟩:=okWide_slice Tryz.underlying22 (hval 0 22 v0 rfl rfl)
 have k0:=h0
 have lt0:∀ x∈p0,x.block < W.heap.size:=by obtain ⟨m,hm⟩:=k0;exact DataW.trod_lt m _ _ _ hm
 obtain ⟨z0,w0⟩:∃ zs,acO .u8 W a0 IZ I0 zs:=by
  obtain ⟨fuel,hf⟩:=h0
  rcases open_ints Tryz.underlying22 Tryz.underlying5 aR hf with ⟨hcs,_⟩|⟨x,l,c,zs,hcs,_,hl,hm,hz,_,hcell,hwz⟩
  ·simp [Value.cells] at hcs
   obtain ⟨rfl,rfl,rfl⟩:=hcs
   exact ⟨[],.inl ⟨rfl,rfl,rfl,rfl⟩⟩
  ·simp [Value.cells] at hcs
   obtain ⟨rfl,rfl,rfl⟩:=hcs
   exact ⟨zs,.inr ⟨_,rfl,hl,hm,by simpa using hz,hcell,hwz⟩⟩
 have y0:IZ * 1≤140737488351232:=Go.Proofs.aj.bQ.Ca hsz (j:=0) (t:=22) rfl rfl Tryz.underlying22 Tryz.underlying5 aR aR h0
 obtain ⟨a1,rfl,rfl,rfl,w1⟩:=open_int Tryz.underlying23 (hval 1 23 v1 rfl rfl) h1
 obtain ⟨a2,rfl,rfl,rfl,w2⟩:=open_int Tryz.underlying24 (hval 2 24 v2 rfl rfl) h2
 obtain ⟨a3,I1,I2,rfl⟩:=okWide_slice Tryz.underlying22 (hval 3 22 v3 rfl rfl)
 have k3:=h3
 have lt3:∀ x∈p3,x.block < W.heap.size:=by obtain ⟨m,hm⟩:=k3;exact DataW.trod_lt m _ _ _ hm
 obtain ⟨z3,w3⟩:∃ zs,acO .u8 W a3 I1 I2 zs:=by
  obtain ⟨fuel,hf⟩:=h3
  rcases open_ints Tryz.underlying22 Tryz.underlying5 aR hf with ⟨hcs,_⟩|⟨x,l,c,zs,hcs,_,hl,hm,hz,_,hcell,hwz⟩
  ·simp [Value.cells] at hcs
   obtain ⟨rfl,rfl,rfl⟩:=hcs
   exact ⟨[],.inl ⟨rfl,rfl,rfl,rfl⟩⟩
  ·simp [Value.cells] at hcs
   obtain ⟨rfl,rfl,rfl⟩:=hcs
   exact ⟨zs,.inr ⟨_,rfl,hl,hm,by simpa using hz,hcell,hwz⟩⟩
 have y3:I1 * 1≤140737488351232:=Go.Proofs.aj.bQ.Ca hsz (j:=3) (t:=22) rfl rfl Tryz.underlying22 Tryz.underlying5 aR aR h3
 clear hA0 acP aqJ hsz
 refine (qb.aq.walk O0.RetryMost a0 IZ I0 z0 a1 a2 a3 I1 I2 z3 W w0 y0 w1 w2 w3 y3 hG).mono fun e W' ⟨he,bel⟩=>?_
 subst he
 exact ⟨_,rfl,_,_,_,[],_,[],hW',trodAll_mk1 (shut_bool Tryz.underlying4 _),(trodAll_cons_mk (Below.trod laidOut aR (of_decide_eq_true aR) k0 bel lt0) (trodAll_cons_mk (shut_int Tryz.underlying23 w1) (trodAll_cons_mk (shut_int Tryz.underlying24 w2) (trodAll_cons_mk (Below.trod laidOut aR (of_decide_eq_true aR) k3 bel lt3) trodAll_mk0)))),rfl,bel.frame _,fun h=>by cases h⟩
theorem afv:laidOutB Tryz.pinned.checked.prog=true:=by kernel_rfl
theorem aaW:mapsRowed Tryz.pinned.checked.prog=true:=by kernel_rfl
theorem aaX:(Rows.retryMostRow.inPlace == Tryz.pinned.checked.prog.inPlace 3)=true:=by kernel_rfl
theorem aqK:(Rows.retryMostRow.unfollowed == Tryz.pinned.checked.prog.unfollowed 3)=true:=by kernel_rfl
theorem aqL:(Rows.retryMostRow.recurses == Tryz.pinned.checked.prog.recurses 3)=true:=by kernel_rfl
theorem aaY:(Rows.retryMostRow.named == Tryz.pinned.checked.prog.varsNamed 3)=true:=by kernel_rfl
theorem closed:joinedFacts Tryz.pinned.checked.prog 3 Tryz.f3 (OpenSpec.ofChange Rows.retryMostSpec).bare Rows.retryMostRow=true:=by
 unfold joinedFacts
 rw [afv,aaW,aaX,aqK,aqL,aaY]
 kernel_rfl
theorem said:Rows.RetryMostSaid:=
 OpenClaim.holds_of_cond 3 Tryz.f3 rfl rfl rfl rfl rfl rfl rfl ⟨rfl,rfl,rfl,rfl,rfl⟩ rfl rfl rfl rfl rfl aR Tryz.func3 closed
  (of_decide_eq_true aR) (by unfold Func.isWrapper;first|(rw [if_pos (by decide +kernel)];kernel_rfl)|(rw [if_neg (by decide +kernel)];exact ⟨rfl,rfl⟩))
  (fun os started H enc _ F=>by rw [OpenClaim.pre_eq_preRow];exact lifted os started H enc F)
theorem plain (f:FuncId) (fn:Func) (hf:Tryz.pinned.checked.prog.funcNamed "franking/frankinglaw28.RetryMost" =some f) (hfn:Tryz.pinned.checked.prog.funcs[f]? =some fn):
 true=Tryz.pinned.checked.prog.looks []∧∀ (j:Nat) t,fn.params[j]? =some t→Tryz.pinned.checked.prog.wantsStandIn t=false:=by
 obtain rfl:f=3:=Option.some.inj ((show Tryz.prog.funcNamed "franking/frankinglaw28.RetryMost" =some 3 by kernel_rfl).symm.trans hf)|>.symm
 obtain rfl:fn=Tryz.f3:=(Option.some.inj (Tryz.func3.symm.trans hfn)).symm
 refine ⟨aR,fun j t ht=>?_⟩
 rw [Tryz.params3] at ht
 have hall:∀ u,u∈(#[22,23,24,22]:Array TypeId)→Tryz.prog.wantsStandIn u=false:=by
  intro u hu
  simp at hu
  rcases hu with rfl|rfl|rfl|rfl<;>kernel_rfl
 exact hall t (Array.mem_of_getElem? ht)
theorem card:Rows.RetryMostCardSaid:=
 Claim7.holds_tied_plain_at .later [] _ _ _ _ said (fun _ h=>by cases h) aR (fun _ h=>by cases h) retryMost_row_tie rfl ⟨rfl,rfl⟩ aR rfl plain aR
end Go.Proofs.YtbjjaaodfbjkfaaGreatDoor.retryMost
namespace Go.Proofs.YtbjjaaodfbjkfaaGreatDoor
theorem retryMost_card:Rows.RetryMostCardSaid:=retryMost.card
end Go.Proofs.YtbjjaaodfbjkfaaGreatDoor
