/- The law TopSooner answers true, whatever its arguments, and each argument reads behind the call as it read before. -/
import Derived.Test.YtcgippbplkagkaaGreatTxt4
import Derived.WalkKit
import Derived.ProofKit
import Derived.ShutString
import Derived.ChangeOld
set_option linter.all false
namespace Go.Proofs.YtcgippbplkagkaaGreat.topSoonerDone
open Go Go.Abs Go.ChangeShapes Go.WideShapes Go.ChangeAt Go.RowKit
theorem own:ownKnob Tryz.prog.godebug=none:=by kernel_rfl
theorem laidOut:laidOutB Tryz.prog=true:=by kernel_rfl
theorem ty0:zD Tryz.prog 20 28=some (.struct [(.struct [(.int .i64),(.int .i64),(.int .i64),(.int .i64)]),(.slice 5 (.struct [(.int .i64),(.int .i64),(.int .i64),(.int .i64),(.int .i64)])),(.int .i64),(.int .i64),(.int .i64),(.slice 3 (.struct [(.int .i64),(.int .i64),(.int .i64)]))]):=by kernel_rfl
theorem ty1:zD Tryz.prog 20 31=some (.struct [.str,(.slice 1 (.int .i64))]):=by kernel_rfl
theorem ty2:zD Tryz.prog 20 34=some (.struct [(.int .i64),(.slice 4 (.struct [(.int .i64),(.int .i64),(.struct [(.int .i64),(.int .i64)])]))]):=by kernel_rfl
theorem ty3:zD Tryz.prog 20 5=some (.int .u8):=by kernel_rfl
theorem ty4:zD Tryz.prog 20 5=some (.int .u8):=by kernel_rfl
theorem ty5:zD Tryz.prog 20 5=some (.int .u8):=by kernel_rfl
theorem ty6:zD Tryz.prog 20 35=some (.int .u16):=by kernel_rfl
theorem BW{W:World}:∀b Q,T9 Tryz.prog b Q→∃c t v,W.heap[b]?=some (.cells c t (0,0))∧c[0]?=some v∧v.oneCell'=true∧Q (.cells c t (0,0)):=by
 rintro b Q (⟨hn,rfl⟩ | ⟨hn,rfl⟩ | ⟨hn,rfl⟩ | ⟨hn,rfl⟩)
 ·exact absurd ((show Tryz.prog.globalNamed "strconv.ErrSyntax" = none from by kernel_rfl).symm.trans hn) (by simp)
 ·exact absurd ((show Tryz.prog.globalNamed "strconv.ErrRange" = none from by kernel_rfl).symm.trans hn) (by simp)
 ·exact absurd ((show Tryz.prog.globalNamed "internal/strconv.uint64pow10" = none from by kernel_rfl).symm.trans hn) (by simp)
 ·exact absurd ((show Tryz.prog.globalNamed "internal/bytealg.MaxLen" = none from by kernel_rfl).symm.trans hn) (by simp)
set_option maxRecDepth 100000 in
theorem lifted(os:Os)(started:os.Started)(H:Type)(enc:TypeId×Value→H):
  ReturnsInHanded {} Tryz.checked os 3 .any (Rows.topSoonerSpec.pre6 enc Tryz.prog Tryz.f3 Rows.topSoonerRow.domain false) (Rows.topSoonerSpec.post enc Tryz.prog Tryz.f3 false true false false):=by
 refine returnsInHanded_of_change (C:=Tryz.checked) own started (by kernel_rfl) Tryz.func3
  (ChangeSpec.witness6 (enc:=enc) (C:=Tryz.checked) false ⟨#[],#[.agg #[.int .i64 0,.int .i64 0,.int .i64 0,.int .i64 0,.slice none 0 0,.int .i64 0,.int .i64 0,.int .i64 0,.slice none 0 0],.agg #[.string ⟨#[]⟩,.slice none 0 0],.agg #[.int .i64 0,.slice none 0 0],.int .u8 0,.int .u8 0,.int .u8 0,.int .u16 0],[]⟩ 8 (by kernel_rfl) (by kernel_rfl) (by kernel_rfl) (by kernel_rfl)) ?_
 intro W base args ds gs before hval0 hW hcnd _;have hval:∀(j:Nat) t v,Tryz.f3.params[j]?=some t→args[j]?=some v→Value.okWide Tryz.prog W .any base t v:=hval0;have hW':=hW;obtain⟨p,q,hA0,hV,rfl,hfz,hnd⟩:=hW;have hA:DataW.TrodAll enc Tryz.prog W 0 (fun _=>true) true Tryz.f3.params.toList args.toList ds p:=hA0;rw[Tryz.params3]at hA hval;obtain⟨v0,vs0,d0,ds0,p0,q0,hargs,rfl,rfl,h0,r0⟩:=trodAll_cons hA;obtain⟨v1,vs1,d1,ds1,p1,q1,rfl,rfl,rfl,h1,r1⟩:=trodAll_cons r0;obtain⟨v2,vs2,d2,ds2,p2,q2,rfl,rfl,rfl,h2,r2⟩:=trodAll_cons r1;obtain⟨v3,vs3,d3,ds3,p3,q3,rfl,rfl,rfl,h3,r3⟩:=trodAll_cons r2;obtain⟨v4,vs4,d4,ds4,p4,q4,rfl,rfl,rfl,h4,r4⟩:=trodAll_cons r3;obtain⟨v5,vs5,d5,ds5,p5,q5,rfl,rfl,rfl,h5,r5⟩:=trodAll_cons r4;obtain⟨v6,vs6,d6,ds6,p6,q6,rfl,rfl,rfl,h6,r6⟩:=trodAll_cons r5;obtain⟨rfl,rfl,rfl⟩:=trodAll_nil r6;obtain rfl:args = #[v0,v1,v2,v3,v4,v5,v6]:=by cases args;simp_all
 obtain⟨rfl,rfl⟩:=trodVars_none hV;have k0:=h0;have lt0:∀x∈p0,x.block<W.heap.size:=by obtain⟨m,hm⟩:=k0;exact DataW.trod_lt m _ _ _ hm
 obtain⟨x0,a0,t0⟩:=oT ty0 (hval 0 28 v0 rfl rfl) h0;have k1:=h1;have lt1:∀x∈p1,x.block<W.heap.size:=by obtain⟨m,hm⟩:=k1;exact DataW.trod_lt m _ _ _ hm
 obtain⟨x1,a1,t1⟩:=oT ty1 (hval 1 31 v1 rfl rfl) h1;have k2:=h2;have lt2:∀x∈p2,x.block<W.heap.size:=by obtain⟨m,hm⟩:=k2;exact DataW.trod_lt m _ _ _ hm
 obtain⟨x2,a2,t2⟩:=oT ty2 (hval 2 34 v2 rfl rfl) h2;have k3:=h3;have lt3:∀x∈p3,x.block<W.heap.size:=by obtain⟨m,hm⟩:=k3;exact DataW.trod_lt m _ _ _ hm
 obtain⟨x3,a3,t3⟩:=oT ty3 (hval 3 5 v3 rfl rfl) h3;have k4:=h4;have lt4:∀x∈p4,x.block<W.heap.size:=by obtain⟨m,hm⟩:=k4;exact DataW.trod_lt m _ _ _ hm
 obtain⟨x4,a4,t4⟩:=oT ty4 (hval 4 5 v4 rfl rfl) h4;have k5:=h5;have lt5:∀x∈p5,x.block<W.heap.size:=by obtain⟨m,hm⟩:=k5;exact DataW.trod_lt m _ _ _ hm
 obtain⟨x5,a5,t5⟩:=oT ty5 (hval 5 5 v5 rfl rfl) h5;have k6:=h6;have lt6:∀x∈p6,x.block<W.heap.size:=by obtain⟨m,hm⟩:=k6;exact DataW.trod_lt m _ _ _ hm
 obtain⟨x6,a6,t6⟩:=oT ty6 (hval 6 35 v6 rfl rfl) h6;obtain⟨σ',hl⟩:=z6 x0 x1 x2 x3 x4 x5 x6 t0 t1 t2 t3 t4 t5 t6;refine(E6 TT mixed hl (W:=W) (vs := #[v0,v1,v2,v3,v4,v5,v6]) BW (.cons _ _ _ _ a0 (.cons _ _ _ _ a1 (.cons _ _ _ _ a2 (.cons _ _ _ _ a3 (.cons _ _ _ _ a4 (.cons _ _ _ _ a5 (.cons _ _ _ _ a6 .nil)))))))).mono fun e W' ⟨he,bel⟩=>?_
 subst he;exact⟨_,rfl,_,_,_,[],_,[],hW',trodAll_mk1 (shut_bool (t:=4) (by kernel_rfl) _),(trodAll_cons_mk (Below.trod laidOut (by kernel_rfl) (of_decide_eq_true (by kernel_rfl)) k0 bel lt0) (trodAll_cons_mk (Below.trod laidOut (by kernel_rfl) (of_decide_eq_true (by kernel_rfl)) k1 bel lt1) (trodAll_cons_mk (Below.trod laidOut (by kernel_rfl) (of_decide_eq_true (by kernel_rfl)) k2 bel lt2) (trodAll_cons_mk (Below.trod laidOut (by kernel_rfl) (of_decide_eq_true (by kernel_rfl)) k3 bel lt3) (trodAll_cons_mk (Below.trod laidOut (by kernel_rfl) (of_decide_eq_true (by kernel_rfl)) k4 bel lt4) (trodAll_cons_mk (Below.trod laidOut (by kernel_rfl) (of_decide_eq_true (by kernel_rfl)) k5 bel lt5) (trodAll_cons_mk (Below.trod laidOut (by kernel_rfl) (of_decide_eq_true (by kernel_rfl)) k6 bel lt6) (trodAll_mk0)))))))),rfl,bel.frame _,fun h=>by cases h⟩
theorem abX:Rows.topSoonerRow.holds Tryz.pinned (OpenSpec.ofChange Rows.topSoonerSpec) :=
 OpenClaim.holds_of_wide 3 Tryz.f3 rfl rfl rfl rfl rfl rfl rfl ⟨rfl,rfl,rfl,rfl,rfl⟩ rfl rfl rfl rfl rfl (by kernel_rfl) Tryz.func3 (by kernel_rfl)
  (of_decide_eq_true (by kernel_rfl)) (by unfold Func.isWrapper;first | (rw[if_pos (by decide +kernel)];kernel_rfl) | (rw[if_neg (by decide +kernel)];exact⟨rfl,rfl⟩))
  (fun os started H enc _=>lifted os started H enc)
end Go.Proofs.YtcgippbplkagkaaGreat.topSoonerDone
namespace Go.Proofs.YtcgippbplkagkaaGreat
theorem topSooner_holds:Rows.TopSoonerSaid:=topSoonerDone.abX
#print axioms topSooner_holds
end Go.Proofs.YtcgippbplkagkaaGreat
