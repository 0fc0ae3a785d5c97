/- InferAsks: each call returns true, and leaves its arguments. Conditions: variables az laid. -/
import Derived.Test.YtnpoohbeicakkaaGreatDoorZBA
import Derived.Test.YtnpoohbeicakkaaGreatDoorZBB
import Derived.Test.YtnpoohbeicakkaaGreatDoorZBH
import Derived.Test.YtnpoohbeicakkaaGreatDoorCards
import Derived.Test.YtnpoohbeicakkaaGreatDoorTie
import Derived.LaidMore
import Derived.Deep.DeepHandedRow
import Derived.Deep.DeepWitnessRowRef
set_option linter.unusedVariables false
set_option linter.unusedSimpArgs false
set_option maxRecDepth 100000
namespace Go.Proofs.YtnpoohbeicakkaaGreatDoor
open Go Zv
variable {d:D}
theorem own:ownKnob Tryz.prog.godebug=none:=by kernel_rfl
theorem kids:Kids Tryz.prog (· < Tryz.prog.types.size):=kids_rows (by kernel_rfl) (by kernel_rfl)
theorem slicesB:((List.range Tryz.prog.types.size).all fun t=>match Tryz.prog.underlying t with|some (.slice e)=>Nat.blt 0 (Tryz.prog.cellsOf e)|_=>true)=true:=by kernel_rfl
theorem slices_pos:∀t e,t<Tryz.prog.types.size→Tryz.prog.underlying t=some (.slice e)→0<Tryz.prog.cellsOf e:=fun t e ht hu=>by
 have h:=cF.1 slicesB t (List.mem_range.2 ht);rw[hu]at h;simpa[Nat.blt_eq]using h
def laidL:List (String×DataW Unit):=[("unicode/utf8.acceptRanges",Rows.laid_unicode_utf8_acceptRanges),("invigilator/prims.numbers",Rows.laid_invigilator_prims_numbers),("invigilator/prims.alike",Rows.laid_invigilator_prims_alike),("unicode/utf8.first",Rows.laid_unicode_utf8_first)]
theorem dg0:dOf (H:=Unit) Rows.laid_invigilator_prims_numbers=g0:=by kernel_rfl
theorem dg1:dOf (H:=Unit) Rows.laid_invigilator_prims_alike=g1:=by kernel_rfl
theorem dg2:dOf (H:=Unit) Rows.laid_unicode_utf8_first=g2:=by kernel_rfl
theorem dg3:dOf (H:=Unit) Rows.laid_unicode_utf8_acceptRanges=g3:=by kernel_rfl
theorem globs{W:World}(h:laidMetH Tryz.prog laidL W):GRel TE NoM W:=by
 obtain⟨ps,h⟩:=laid_of (by kernel_rfl) h
 have h0:=yG (P:=Tryz.prog) (m:=4) (g:=0) (n := "invigilator/prims.numbers") (l:=[.sl [.str]]) (d:=Rows.laid_invigilator_prims_numbers) (by kernel_rfl) rfl (by kernel_rfl) h (by simp[laidL])
 have h1:=yG (P:=Tryz.prog) (m:=4) (g:=1) (n := "invigilator/prims.alike") (l:=[.sl [.str]]) (d:=Rows.laid_invigilator_prims_alike) (by kernel_rfl) rfl (by kernel_rfl) h (by simp[laidL])
 have h2:=yG (P:=Tryz.prog) (m:=4) (g:=2) (n := "unicode/utf8.first") (l:=(List.replicate 256 [TY.int .u8]).flatten) (d:=Rows.laid_unicode_utf8_first) (by kernel_rfl) rfl (by kernel_rfl) h (by simp[laidL])
 have h3:=yG (P:=Tryz.prog) (m:=4) (g:=3) (n := "unicode/utf8.acceptRanges") (l:=(List.replicate 16 [TY.int .u8,TY.int .u8]).flatten) (d:=Rows.laid_unicode_utf8_acceptRanges) (by kernel_rfl) rfl (by kernel_rfl) h (by simp[laidL])
 rw[dg0]at h0;rw[dg1]at h1;rw[dg2]at h2;rw[dg3]at h3;intro p hp;have hp:p∈GG:=hp;simp only[GG,cH,List.not_mem_nil,or_false]at hp;rcases hp with rfl|rfl|rfl|rfl
 ·exact⟨fun h=>h,h0.1,h0.2⟩
 ·exact⟨fun h=>h,h1.1,h1.2⟩
 ·exact⟨fun h=>h,h2.1,h2.2⟩
 ·exact⟨fun h=>h,h3.1,h3.2⟩
theorem one_str:∀{rows:List (List D)},(∀r∈rows,TY.oks [.str] r)→∃ss:List (List UInt8),rows=ss.map fM
 | [],_=>⟨[],rfl⟩
 | r::rows,h=>by
  obtain⟨ss,rfl⟩:=one_str (rows:=rows) (fun r hr=>h r (by simp[hr]))
  have h0:=h r (by simp)
  simp only[TY.oks,TY.ok]at h0;obtain⟨d,r',rfl,⟨s,rfl,_⟩,rfl⟩:=h0;exact⟨s::ss,rfl⟩
theorem one_u8':∀{rows:List (List D)},(∀r∈rows,TY.oks [.int .u8] r)→∃us:List Nat,rows=us.map u8C∧∀u∈us,u<256
 | [],_=>⟨[],rfl,fun u hu=>by cases hu⟩
 | r::rows,h=>by
  obtain⟨us,rfl,hu⟩:=one_u8' (rows:=rows) (fun r hr=>h r (by simp[hr]))
  have h0:=h r (by simp)
  simp only[TY.oks,TY.ok]at h0;obtain⟨d,r',rfl,⟨n,rfl,h1,h2⟩,rfl⟩:=h0;have h1:0≤n:=h1;have h2:n≤255:=h2;refine⟨n.toNat::us,?_,fun u hx=>?_⟩
  ·simp only[bS,u8C];rw[show((n.toNat:Nat):Int)=n by omega]
  ·rcases cH.1 hx with rfl|hx
   ·omega
   ·exact hu u hx
theorem one_var:∀{rows:List (List D)},(∀r∈rows,TY.oks [.str,.int .i64,.int .i64,.int .i64,.int .i64,.int .i64] r)→∃l:List Vr,rows=l.map vrC
 | [],_=>⟨[],rfl⟩
 | r::rows,h=>by
  obtain⟨ts,rfl⟩:=one_var (rows:=rows) (fun r hr=>h r (by simp[hr]))
  have h0:=h r (by simp)
  simp only[TY.oks,TY.ok]at h0;obtain⟨d,r',rfl,⟨s,rfl,_⟩,d,r',rfl,⟨a,rfl,_⟩,d,r',rfl,⟨b,rfl,_⟩,d,r',rfl,⟨c,rfl,_⟩,d,r',rfl,⟨e,rfl,_⟩,d,r',rfl,⟨f,rfl,_⟩,rfl⟩:=h0;exact⟨⟨s,⟨a,b,c,e,f⟩⟩::ts,rfl⟩
theorem one_node:∀{rows:List (List D)},(∀r∈rows,TY.oks [.int .i64,.int .i64,.int .i64,.str,.str,.int .i64,.int .i64] r)→∃l:List Nd,rows=l.map bK
 | [],_=>⟨[],rfl⟩
 | r::rows,h=>by
  obtain⟨ts,rfl⟩:=one_node (rows:=rows) (fun r hr=>h r (by simp[hr]))
  have h0:=h r (by simp)
  simp only[TY.oks,TY.ok]at h0;obtain⟨d,r',rfl,⟨a,rfl,_⟩,d,r',rfl,⟨b,rfl,_⟩,d,r',rfl,⟨c,rfl,_⟩,d,r',rfl,⟨s,rfl,_⟩,d,r',rfl,⟨s',rfl,_⟩,d,r',rfl,⟨e,rfl,_⟩,d,r',rfl,⟨f,rfl,_⟩,rfl⟩:=h0;exact⟨⟨a,b,c,s,s',e,f⟩::ts,rfl⟩
theorem in_strs(h:TY.ok (.sl [.str]) d):∃ss,Sl 1 fM ss d:=by
 simp only[TY.ok]at h;rcases h with rfl|⟨rows,rfl,_,h⟩
 ·exact⟨[],fun r hr=>by simp at hr,.inl ⟨rfl,rfl⟩⟩
 ·obtain⟨ss,rfl⟩:=one_str h;exact⟨ss,fun r hr=>by simp only[cY]at hr;obtain⟨s,_,rfl⟩:=hr;rfl,.inr ⟨false,rfl⟩⟩
theorem in_u8s(h:TY.ok (.sl [.int .u8]) d):∃us,Sl 1 u8C us d∧fY us:=by
 simp only[TY.ok]at h;rcases h with rfl|⟨rows,rfl,_,h⟩
 ·exact⟨[],⟨fun r hr=>by simp at hr,.inl ⟨rfl,rfl⟩⟩,fun u hu=>by cases hu⟩
 ·obtain⟨us,rfl,hu⟩:=one_u8' h;exact⟨us,⟨fun r hr=>by simp only[cY]at hr;obtain⟨s,_,rfl⟩:=hr;rfl,.inr ⟨false,rfl⟩⟩,hu⟩
theorem in_vars(h:TY.ok (.sl [.str,.int .i64,.int .i64,.int .i64,.int .i64,.int .i64]) d):∃l,Sl 6 vrC l d:=by
 simp only[TY.ok]at h;rcases h with rfl|⟨rows,rfl,_,h⟩
 ·exact⟨[],fun r hr=>by simp at hr,.inl ⟨rfl,rfl⟩⟩
 ·obtain⟨ts,rfl⟩:=one_var h;exact⟨ts,fun r hr=>by simp only[cY]at hr;obtain⟨s,_,rfl⟩:=hr;rfl,.inr ⟨false,rfl⟩⟩
theorem in_nodes(h:TY.ok (.sl [.int .i64,.int .i64,.int .i64,.str,.str,.int .i64,.int .i64]) d):∃l,Sl 7 bK l d:=by
 simp only[TY.ok]at h;rcases h with rfl|⟨rows,rfl,_,h⟩
 ·exact⟨[],fun r hr=>by simp at hr,.inl ⟨rfl,rfl⟩⟩
 ·obtain⟨ts,rfl⟩:=one_node h;exact⟨ts,fun r hr=>by simp only[cY]at hr;obtain⟨s,_,rfl⟩:=hr;rfl,.inr ⟨false,rfl⟩⟩
theorem one_def:∀{rows:List (List D)},(∀r∈rows,TY.oks [.str,.sl [.str],.sl [.int .i64,.int .i64,.int .i64,.str,.str,.int .i64,.int .i64]] r)→∃l:List Zv.Fd,rows=l.map fdC∧∀x∈l,FdIn x
 | [],_=>⟨[],rfl,fun x hx=>by cases hx⟩
 | r::rows,h=>by
  obtain⟨ts,rfl,hts⟩:=one_def (rows:=rows) (fun r hr=>h r (by simp[hr]))
  have h0:=h r (by simp)
  simp only[TY.oks]at h0;obtain⟨d,r',rfl,hs,d1,r',rfl,h1,d2,r',rfl,h2,rfl⟩:=h0;simp only[TY.ok]at hs;obtain⟨s,rfl,_⟩:=hs;obtain⟨ps,hp⟩:=in_strs h1;obtain⟨l,hl⟩:=in_nodes h2;exact⟨⟨s,ps,l,d1,d2⟩::ts,rfl,fun x hx=>by
   rcases cH.1 hx with rfl|hx
   ·exact⟨hp,hl⟩
   ·exact hts x hx⟩
theorem in_defs(h:TY.ok (.sl [.str,.sl [.str],.sl [.int .i64,.int .i64,.int .i64,.str,.str,.int .i64,.int .i64]]) d):∃l,Sl 3 fdC l d∧∀x∈l,FdIn x:=by
 rw[TY.ok]at h;rcases h with rfl|⟨rows,rfl,_,h⟩
 ·exact⟨[],⟨fun r hr=>by simp at hr,.inl ⟨rfl,rfl⟩⟩,fun x hx=>by cases hx⟩
 ·obtain⟨ts,rfl,hts⟩:=one_def h;exact⟨ts,⟨fun r hr=>by simp only[cY]at hr;obtain⟨s,_,rfl⟩:=hr;rfl,.inr ⟨false,rfl⟩⟩,hts⟩
noncomputable def laidWorld(os:Os):World:=
 {World.doorLaid Tryz.prog 400 os with heap:=(World.doorLaid Tryz.prog 400 os).heap.modify 2 fun
   | .cells _ t frozen=>.cells (Go.Pinned.utf8FirstZ.map fun(n:Nat)=>Value.int .u8 (n:Int)).toArray t frozen
   | o=>o }
theorem laid_met(os:Os)(args:Array Value):laidMet Tryz.prog laidL ((laidWorld os).forCall (fun _ _=>0) ⟨#[],args,[]⟩).memory:=
 laidMet_of_run' 8 (by kernel_rfl) (by kernel_rfl)
theorem e0a:a0=[.str abc]:=by kernel_rfl
theorem e0d:d0 = .tup [.agg cells,.bool true]:=by kernel_rfl
theorem k239:callable TE.P 239=true∧zJ TE 239 [.str abc] (.tup [.agg cells,.bool true])∧(D.tup [.agg cells,.bool true]).flat=true:=by
 have h:=m0;rw[e0a,e0d]at h;exact h
theorem kk:lAll (fun f l=>zM TE f l) id KT:=⟨⟨k239,trivial⟩,⟨⟨m106,trivial⟩,trivial⟩⟩
theorem spec45:SpOK TE 45 (spSort 46):=sort_spec (by kernel_rfl) sort45
theorem pokB:POK TE BX:=pok (E:=TE) (ml:=ML) (kt:=KT) (X:=XX) bb trivial mixed kk ⟨spec45,⟨spec158,trivial⟩⟩
namespace inferAsks
open Go.ChangeShapes Go.WideShapes Go.ChangeAt Go.RowKit
theorem hfn7:Tryz.prog.funcs[7]?=some Tryz.f7:=by kernel_rfl
theorem args7:argsOf Tryz.prog 9 Tryz.f7.params.toList=some [(true,[.sl [.str],.sl [.int .u8],.sl [.str,.int .i64,.int .i64,.int .i64,.int .i64,.int .i64],.sl [.str,.sl [.str],.sl [.int .i64,.int .i64,.int .i64,.str,.str,.int .i64,.int .i64]]]),(false,[.sl [.int .i64,.int .i64,.int .i64,.str,.str,.int .i64,.int .i64]]),(false,[.int .i64])]:=by kernel_rfl
theorem contract(H:Type)(enc:TypeId×Value→H)(W:World)(base:Nat)(args:Array Value)(ds gs:List (DataW H))(before:List MemPlace)
  (Lw:∀(j:Nat) t v,Tryz.f7.params[j]?=some t→args[j]?=some v→Value.okWide Tryz.prog W .any base t v)
  (hW:DataW.Whole enc Tryz.prog Tryz.f7.params.toList Rows.inferAsksSpec.vars false W args.toList ds gs before) (hL:laidMetH Tryz.prog laidL W) :
  Calls Tryz.prog 7 args W fun e W'=>∃v,e = .returned v∧Rows.inferAsksSpec.post enc Tryz.prog Tryz.f7 false true false false W args v W':=by
 have hW0:=hW;obtain⟨p,q,hA,_⟩:=hW0;obtain⟨xs,hv,hdp,Av⟩:=args_in args7 hA (fun j t v ht hv=>Lw j t v (by simpa using ht) (by simpa using hv))
 simp only[AOks]at Av;obtain⟨d1,r1,rfl,⟨cs,rfl,Fc⟩,d2,r2,rfl,h2,d3,r3,rfl,h3,rfl⟩:=Av;simp only[TY.oks]at Fc;obtain⟨da,ra,rfl,ha,db,rb,rfl,hb,dc,rc,rfl,hc,dd,rd,rfl,hd,rfl⟩:=Fc;simp only[AOk,TY.oks]at h2 h3;obtain⟨d2',r2',e2,h2,rfl⟩:=h2;simp only[List.cons.injEq,and_true]at e2;subst e2;obtain⟨d3',r3',e3,h3,rfl⟩:=h3;simp only[List.cons.injEq,and_true]at e3;subst e3;simp only[TY.ok]at h3
 obtain⟨o,rfl,_⟩:=h3;obtain⟨ss,hs⟩:=in_strs ha;obtain⟨us,hu,hu8⟩:=in_u8s hb;obtain⟨vs,hvs⟩:=in_vars hc;obtain⟨fs,Gr,We⟩:=in_defs hd;obtain⟨x,hx⟩:=in_nodes h2;have h:=c7 0 hs hu hu8 hvs Gr We hx o;have hp:zJ TE 7 _ (.bool true):=pure_of_wev (lw_ok pokB ps ms KK MM 410) h;exact row_true (E:=TE) (t:=4) kids slices_pos (by decide +kernel) rfl (fun d0 hd=>by
  match d0,hd with
  | [a,b,c],_=>rfl) (by kernel_rfl) (by kernel_rfl) hW hp (globs hL) hv
theorem reads(os:Os){H:Type}(enc:TypeId×Value→H):∃Hi,DataW.whole enc Tryz.prog ((laidWorld os).forCall (fun _ _=>0) ⟨#[],#[.agg #[.slice none 0 0,.slice none 0 0,.slice none 0 0,.slice none 0 0],.slice none 0 0,.int .i64 0],[]⟩).memory Tryz.f7.params.toList Rows.inferAsksSpec.vars false #[Value.agg #[.slice none 0 0,.slice none 0 0,.slice none 0 0,.slice none 0 0],.slice none 0 0,.int .i64 0].toList 8=some ([.agg [.agg [.nil,.nil],.nil,.nil],.nil,.lit (.int .i64 0)],[],Hi):=
 ⟨[],by kernel_rfl⟩
theorem lifted(os:Os)(Hf:os.Started)(H:Type)(enc:TypeId×Value→H)(F:Stop.Interp):
  ReturnsInHanded {} Tryz.checked os 7 .any ((OpenSpec.ofChange Rows.inferAsksSpec).preRow enc Tryz.prog Tryz.f7 Rows.inferAsksRow.domain false Rows.inferAsksRow.laid) (((OpenSpec.ofChange Rows.inferAsksSpec).at F).post enc Tryz.prog Tryz.f7 false true false false):=by
 obtain⟨Hi,hx⟩:=reads os enc;refine returnsInHanded_of_row (C:=Tryz.checked) (s:=OpenSpec.ofChange Rows.inferAsksSpec) own Hf (by kernel_rfl) hfn7
  (witness_row_atRef (enc:=enc) (C:=Tryz.checked) false (laidWorld os) #[.agg #[.slice none 0 0,.slice none 0 0,.slice none 0 0,.slice none 0 0],.slice none 0 0,.int .i64 0] rfl (by kernel_rfl) (by kernel_rfl) (by kernel_rfl)
   (OpenSpec.preRow_of_cond 7 hx (by kernel_rfl) (fun k hk=>by cases hk) (by kernel_rfl) (laid_met os _))) ?_
 intro W base args ds gs before Lw hW _ _ _ hL _ _;exact contract H enc W base args ds gs before Lw hW hL
end inferAsks
end Go.Proofs.YtnpoohbeicakkaaGreatDoor
