/- CommandBlanks: the row, where what is read is of bulk at most 1048576, and its card. -/
import Derived.Test.YtokpnfljjjjikaaGreatDoorCards
import Derived.Test.YtokpnfljjjjikaaGreatDoorTie
import Derived.Test.YtokpnfljjjjikaaGreatDoorPLaws
import Derived.ProofKit
import Derived.ShutString
import Derived.SizedLaws
import Derived.Deep.DeepWitnessRowRef
import Derived.Test.YtokpnfljjjjikaaGreatDoorPArgs
set_option maxRecDepth 1000000
namespace Go.Proofs.YtokpnfljjjjikaaGreatDoor.commandBlanks
open Go.ChangeShapes Go.WideShapes Go.ChangeAt Go.RowKit
open Go.ChangeMaps (open_string shut_string)
open Go.Proofs.aj.bQ (dh)
set_option linter.unusedVariables false
set_option linter.unusedSimpArgs false
theorem own:ownKnob Tryz.prog.godebug=none:=by kernel_rfl
theorem star: "*" ++ "errors.errorString" = "*errors.errorString":=by decide
theorem WD (u:TypeId) (h:Tryz.prog.typeName? 3 u=some "*errors.errorString"):u=212:=
 typeName_ptr_named (nm:= "errors.errorString") (by rw [star];kernel_rfl) av bG u (by rw [star];exact h)
theorem PM {W:World} (hL:laidMetH Tryz.prog Rows.commandBlanksUptoRow.laid W) (hS:W.ShapedOpen Tryz.prog):aQ W:=by
 have hL':laidMet Tryz.prog Rows.commandBlanksUptoRow.laid W:=hL
 obtain ⟨a0,s0,hv0,_⟩:=laid_sentinel (g:=6) hL'.tail.tail.tail.tail av av Tryz.underlying75 WD Tryz.underlying212 Tryz.underlying214 rfl rfl Tryz.underlying9 av av
 obtain ⟨a1,s1,hv1,_⟩:=laid_sentinel (g:=5) hL'.tail.tail.tail.tail.tail av av Tryz.underlying75 WD Tryz.underlying212 Tryz.underlying214 rfl rfl Tryz.underlying9 av av
 refine ⟨WC hL'.tail.tail.tail.tail.tail.tail,cell_of_shapedOpen_int (zero:=#[.int .i64 0]) hS (of_decide_eq_true av) av av av av Tryz.underlying3,⟨_,by simpa using World.var?_cell (show Tryz.prog.globalNamed "strconv.ErrSyntax" =some 5 by kernel_rfl) hv1 0,.inr ⟨_,_,rfl⟩⟩,⟨_,by simpa using World.var?_cell (show Tryz.prog.globalNamed "strconv.ErrRange" =some 6 by kernel_rfl) hv0 0,.inr ⟨_,_,rfl⟩⟩⟩
noncomputable def yV (os:Os):World:=
 let N:=(World.settled Tryz.prog os).heap.size
 let w0:=World.holding Tryz.prog os ⟨#[.cells #[.string ⟨#[118,97,108,117,101,32,111,117,116,32,111,102,32,114,97,110,103,101]⟩] 214,.cells #[.string ⟨#[105,110,118,97,108,105,100,32,115,121,110,116,97,120]⟩] 214,.cells #[.string ⟨#[]⟩,.string ⟨#[72,69,76,79]⟩,.string ⟨#[69,72,76,79]⟩,.string ⟨#[77,65,73,76]⟩,.string ⟨#[82,67,80,84]⟩,.string ⟨#[68,65,84,65]⟩,.string ⟨#[82,83,69,84]⟩,.string ⟨#[86,82,70,89]⟩,.string ⟨#[69,88,80,78]⟩,.string ⟨#[78,79,79,80]⟩,.string ⟨#[72,69,76,80]⟩,.string ⟨#[81,85,73,84]⟩] 9],#[],[]⟩
 let put (h:Array Obj) (g:Nat) (cs:Array Value):Array Obj:=h.modify g fun
  | .cells _ t frozen=> .cells cs t frozen
  |o=>o
 {w0 with heap:=(put (put (put (put (put (put (put (put w0.heap 8 #[Value.int .u8 0,Value.int .u8 1,Value.int .u8 28,Value.int .u8 2,Value.int .u8 29,Value.int .u8 14,Value.int .u8 24,Value.int .u8 3,Value.int .u8 30,Value.int .u8 22,Value.int .u8 20,Value.int .u8 15,Value.int .u8 25,Value.int .u8 17,Value.int .u8 4,Value.int .u8 8,Value.int .u8 31,Value.int .u8 27,Value.int .u8 13,Value.int .u8 23,Value.int .u8 21,Value.int .u8 19,Value.int .u8 16,Value.int .u8 7,Value.int .u8 26,Value.int .u8 12,Value.int .u8 18,Value.int .u8 6,Value.int .u8 11,Value.int .u8 5,Value.int .u8 10,Value.int .u8 9]) 9 #[Value.int .u8 0,Value.int .u8 1,Value.int .u8 56,Value.int .u8 2,Value.int .u8 57,Value.int .u8 49,Value.int .u8 28,Value.int .u8 3,Value.int .u8 61,Value.int .u8 58,Value.int .u8 42,Value.int .u8 50,Value.int .u8 38,Value.int .u8 29,Value.int .u8 17,Value.int .u8 4,Value.int .u8 62,Value.int .u8 47,Value.int .u8 59,Value.int .u8 36,Value.int .u8 45,Value.int .u8 43,Value.int .u8 51,Value.int .u8 22,Value.int .u8 53,Value.int .u8 39,Value.int .u8 33,Value.int .u8 30,Value.int .u8 24,Value.int .u8 18,Value.int .u8 12,Value.int .u8 5,Value.int .u8 63,Value.int .u8 55,Value.int .u8 48,Value.int .u8 27,Value.int .u8 60,Value.int .u8 41,Value.int .u8 37,Value.int .u8 16,Value.int .u8 46,Value.int .u8 35,Value.int .u8 44,Value.int .u8 21,Value.int .u8 52,Value.int .u8 32,Value.int .u8 23,Value.int .u8 11,Value.int .u8 54,Value.int .u8 26,Value.int .u8 40,Value.int .u8 15,Value.int .u8 34,Value.int .u8 20,Value.int .u8 31,Value.int .u8 10,Value.int .u8 25,Value.int .u8 14,Value.int .u8 19,Value.int .u8 9,Value.int .u8 13,Value.int .u8 8,Value.int .u8 7,Value.int .u8 6]) 7 #[Value.int .u64 1,Value.int .u64 10,Value.int .u64 100,Value.int .u64 1000,Value.int .u64 10000,Value.int .u64 100000,Value.int .u64 1000000,Value.int .u64 10000000,Value.int .u64 100000000,Value.int .u64 1000000000,Value.int .u64 10000000000,Value.int .u64 100000000000,Value.int .u64 1000000000000,Value.int .u64 10000000000000,Value.int .u64 100000000000000,Value.int .u64 1000000000000000,Value.int .u64 10000000000000000,Value.int .u64 100000000000000000,Value.int .u64 1000000000000000000,Value.int .u64 10000000000000000000]) 3 #[Value.int .u8 128,Value.int .u8 191,Value.int .u8 160,Value.int .u8 191,Value.int .u8 128,Value.int .u8 159,Value.int .u8 144,Value.int .u8 191,Value.int .u8 128,Value.int .u8 143,Value.int .u8 0,Value.int .u8 0,Value.int .u8 0,Value.int .u8 0,Value.int .u8 0,Value.int .u8 0,Value.int .u8 0,Value.int .u8 0,Value.int .u8 0,Value.int .u8 0,Value.int .u8 0,Value.int .u8 0,Value.int .u8 0,Value.int .u8 0,Value.int .u8 0,Value.int .u8 0,Value.int .u8 0,Value.int .u8 0,Value.int .u8 0,Value.int .u8 0,Value.int .u8 0,Value.int .u8 0]) 6 #[.iface 212 (.pointer (some ⟨N + 0,0,none⟩))]) 5 #[.iface 212 (.pointer (some ⟨N + 1,0,none⟩))]) 0 #[.slice (some ⟨N + 2,0,none⟩) 12 12]) 2 (Go.Pinned.utf8FirstZ.map fun (z:Nat)=>Value.int .u8 (z:Int)).toArray)}
theorem WE (os:Os):laidMet Tryz.prog Rows.commandBlanksUptoRow.laid ((yV os).forCall (fun _ _ =>0) ⟨#[],#[.agg #[.int .u8 0,.string ByteArray.empty,.bool false,.slice none 0 0,.string ByteArray.empty,.string ByteArray.empty,.bool false,.slice none 0 0]],[]⟩).memory:=
 laidMet_of_run' 8 av av
theorem Ny (os:Os) {H:Type} (enc:TypeId×Value→H):
 (Rows.OpenSpec.upto Rows.commandBlanksSpec).preRow enc Tryz.prog Tryz.f10 Rows.commandBlanksUptoRow.domain false Rows.commandBlanksUptoRow.laid ((yV os).forCall (fun _ _ =>0) ⟨#[],#[.agg #[.int .u8 0,.string ByteArray.empty,.bool false,.slice none 0 0,.string ByteArray.empty,.string ByteArray.empty,.bool false,.slice none 0 0]],[]⟩).memory #[.agg #[.int .u8 0,.string ByteArray.empty,.bool false,.slice none 0 0,.string ByteArray.empty,.string ByteArray.empty,.bool false,.slice none 0 0]]:=by
 have hw:(DataW.whole enc Tryz.prog ((yV os).forCall (fun _ _ =>0) ⟨#[],#[.agg #[.int .u8 0,.string ByteArray.empty,.bool false,.slice none 0 0,.string ByteArray.empty,.string ByteArray.empty,.bool false,.slice none 0 0]],[]⟩).memory Tryz.f10.params.toList Rows.commandBlanksSpec.vars false #[.agg #[.int .u8 0,.string ByteArray.empty,.bool false,.slice none 0 0,.string ByteArray.empty,.string ByteArray.empty,.bool false,.slice none 0 0]].toList 8).map (fun x=>(x.1,x.2.1))=
  some ([.agg [.lit (.int .u8 0),.lit (.string []),.agg [.lit (.bool false),.nil,.agg [.lit (.string []),.lit (.string []),.lit (.bool false)]],.nil]],[]):=by kernel_rfl
 obtain ⟨⟨x1,x2,x3⟩,hx,hx1⟩:=Option.map_eq_some_iff.1 hw
 simp only [Prod.mk.injEq] at hx1
 obtain ⟨rfl,rfl⟩:=hx1
 exact OpenSpec.preRow_of_cond 8 hx av (fun k hk=>by cases hk;kernel_rfl) av (WE os)
set_option maxHeartbeats 2000000 in
theorem lifted (os:Os) (started:os.Started) (H:Type) (enc:TypeId×Value→H) (F:Stop.Interp):
 ReturnsInHanded {} Tryz.checked os 10 .any ((Rows.OpenSpec.upto Rows.commandBlanksSpec).preRow enc Tryz.prog Tryz.f10 Rows.commandBlanksUptoRow.domain false Rows.commandBlanksUptoRow.laid) (((Rows.OpenSpec.upto Rows.commandBlanksSpec).at F).post enc Tryz.prog Tryz.f10 false true false false):=by
 refine returnsInHanded_of_row (C:=Tryz.checked) (s:=Rows.OpenSpec.upto Rows.commandBlanksSpec) own started av Tryz.func10
  (witness_row_atRef (enc:=enc) (C:=Tryz.checked) false (yV os) #[.agg #[.int .u8 0,.string ByteArray.empty,.bool false,.slice none 0 0,.string ByteArray.empty,.string ByteArray.empty,.bool false,.slice none 0 0]] rfl av av av (Ny os enc)) ?_
 intro W base args ds gs before aaq hW hcnd hcond aeL hL hS _
 have hk:=hcond _ rfl
 have hG:=PM hL hS
 clear hcnd hcond hL hS
 have hsz:(DataW.weightsEach Tryz.prog (Tryz.f10.params.toList ++ Rows.commandBlanksSpec.plain.varTypes Tryz.prog) (ds ++ gs)).all (·≤reachBytes)=true:=aeL
 have hval:∀ (j:Nat) t v,Tryz.f10.params[j]? =some t→args[j]? =some v→Value.okWide Tryz.prog W .any base t v:=aaq
 have hW':=hW
 obtain ⟨p,q,hA0,hV,rfl,hfz,hnd⟩:=hW
 have hA:DataW.TrodAll enc Tryz.prog W 0 (fun _ =>true) true Tryz.f10.params.toList args.toList ds p:=hA0
 rw [Tryz.params10] at hA hval hsz
 obtain ⟨v0,vs0,d0,ds0,p0,q0,hargs,rfl,rfl,h0,r0⟩:=trodAll_cons hA
 obtain ⟨rfl,rfl,rfl⟩:=trodAll_nil r0
 obtain rfl:args= #[v0]:=by cases args;simp_all
 obtain ⟨rfl,rfl⟩:=trodVars_none hV
 have k0:=h0
 have lt0:∀ x∈p0,x.block < W.heap.size:=by obtain ⟨m,hm⟩:=k0;exact DataW.trod_lt m _ _ _ hm
 obtain ⟨vb,ar,a0,A0,c0,R0,lo0,acf,aeM,rd0,A2,c2,P0,pd0,rfl,hC0,hc0,hD0,hd0,rfl,aeN,aeO,hwf⟩:=Lg.WB (hval 0 35 v0 rfl rfl) h0
 clear hA0 aaq aeL hsz
 have hb:=of_decide_eq_true hk
 simp only [List.append_nil,List.cons_append,List.nil_append,Rows.uptoBulkAll,Rows.uptoBulk] at hb
 clear hk
 obtain ⟨kk,hf⟩:=jo.zM vb (by have:=hwf;simp [Lit.wf,IntKind.min,IntKind.max,IntKind.bits,IntKind.signed] at this;omega) ar a0 R0 lo0 acf aeM P0 (by have:=dh ar;omega) (by have:=(BD.Hu aeN).1;omega) (fun y hy=>by have:=(BD.Hu aeN).2 y hy;omega) (by have:=dh lo0;omega) (by have:=dh acf;omega) (by have:=(Lg.Db aeO).1;omega) (fun p hp=>by have:=(Lg.Db aeO).2 p hp;omega)
 refine (nK.aB.calls kk vb ar a0 A0 c0 R0 lo0 acf aeM A2 c2 P0 true W hC0 hc0 hD0 hd0 hG hf).mono fun e W' ⟨he,vN⟩=>?_
 subst he
 exact ⟨_,rfl,_,_,_,[],_,[],hW',trodAll_mk1 (shut_bool Tryz.underlying4 _),(trodAll_cons_mk (Below.trod BD.laidOut av (of_decide_eq_true av) k0 vN lt0) trodAll_mk0),rfl,vN.frame _,fun h=>by cases h⟩
theorem said:Rows.CommandBlanksUptoSaid:=
 OpenClaim.holds_of_cond 10 Tryz.f10 rfl rfl rfl rfl rfl rfl rfl ⟨rfl,rfl,rfl,rfl,rfl⟩ rfl rfl rfl rfl rfl av Tryz.func10 av
  (of_decide_eq_true av) (by unfold Func.isWrapper;first|(rw [if_pos gh];kernel_rfl)|(rw [if_neg gh];exact ⟨rfl,rfl⟩))
  (fun os started H enc _ F=>by rw [OpenClaim.pre_eq_preRow];exact lifted os started H enc F)
theorem plain (f:FuncId) (fn:Func) (hf:Tryz.pinned.checked.prog.funcNamed "franking/frankinglaw16.CommandBlanks" =some f) (hfn:Tryz.pinned.checked.prog.funcs[f]? =some fn):
 true=Tryz.pinned.checked.prog.looks []∧∀ (j:Nat) t,fn.params[j]? =some t→Tryz.pinned.checked.prog.wantsStandIn t=false:=by
 obtain rfl:f=10:=Option.some.inj ((show Tryz.prog.funcNamed "franking/frankinglaw16.CommandBlanks" =some 10 by kernel_rfl).symm.trans hf)|>.symm
 obtain rfl:fn=Tryz.f10:=(Option.some.inj (Tryz.func10.symm.trans hfn)).symm
 refine ⟨av,fun j t ht=>?_⟩
 rw [Tryz.params10] at ht
 have hall:∀ u,u∈(#[35]:Array TypeId)→Tryz.prog.wantsStandIn u=false:=by
  intro u hu
  simp at hu
  rcases hu with rfl<;>kernel_rfl
 exact hall t (Array.mem_of_getElem? ht)
theorem card:Rows.CommandBlanksUptoCardSaid:=
 Claim7.holds_tied_plain_at .later [] _ _ _ _ said (fun _ h=>by cases h) av (fun _ h=>by cases h) commandBlanksUpto_row_tie rfl ⟨rfl,rfl⟩ av rfl plain av
end Go.Proofs.YtokpnfljjjjikaaGreatDoor.commandBlanks
namespace Go.Proofs.YtokpnfljjjjikaaGreatDoor
theorem commandBlanks_upto_card:Rows.CommandBlanksUptoCardSaid:=commandBlanks.card
end Go.Proofs.YtokpnfljjjjikaaGreatDoor
