import Derived.Test.YtcgippbplkagkaaGreatBase14
import Derived.Test.YtcgippbplkagkaaGreatTxt3
set_option linter.all false
namespace Go.Abs
open Go
theorem wW{α:Type}{T:Ty}{w:Nat}{f:α→List D}{Q:α→Prop}(h:∀ds,T.has ds→∃a,ds=f a∧Q a){d:D}(hd:(Ty.slice w T).has [d]):
  ∃l:List α,d=.aE l.length (l.flatMap f)∧l.length≤maxLen∧∀a∈l,Q a:=by
 simp only[Ty.has,ek,and_true]at hd;obtain⟨xs,rfl,hl,hx⟩:=hd;have key:∀xs:List (List D),(∀x∈xs,x.length=w∧T.has x)→∃l:List α,xs.flatten=l.flatMap f∧l.length=xs.length∧∀a∈l,Q a:=by
  intro xs;induction xs with
  |nil=>intro _;exact⟨[],rfl,rfl,by simp⟩
  |cons x xs ih =>
   intro hx;obtain⟨l,h1,h2,h3⟩:=ih fun y hy=>hx y (by simp[hy])
   obtain⟨a,rfl,ha⟩:=h x (hx x (by simp)).2;exact⟨a::l,by simp[h1],by simp[h2],fun b hb=>by
    rcases bj.1 hb with rfl | hb
    ·exact ha
    ·exact h3 b hb⟩
 obtain⟨l,h1,h2,h3⟩:=key xs hx;exact⟨l,by rw[h1,h2],by omega,h3⟩
theorem wf_u8{n:Int}(h:(Lit.int .u8 n).wf=true):0≤n∧n≤255:=by
 simp only[Lit.wf,ak,av]at h;exact h
theorem wf_u16{n:Int}(h:(Lit.int .u16 n).wf=true):0≤n∧n≤65535:=by
 simp only[Lit.wf,ak,av]at h;exact h
theorem JQ{d:D}(h:(Ty.int .u8).vJ d):∃n:Int,d=.int .u8 n∧0≤n∧n≤255:=by
 simp only[Ty.vJ,Ty.has,ek,and_true]at h;obtain⟨n,rfl,hw⟩:=h;exact⟨n,rfl,wf_u8 hw⟩
theorem Wl{d:D}(h:(Ty.int .u16).vJ d):∃n:Int,d=.int .u16 n∧0≤n∧n≤65535:=by
 simp only[Ty.vJ,Ty.has,ek,and_true]at h;obtain⟨n,rfl,hw⟩:=h;exact⟨n,rfl,wf_u16 hw⟩
theorem tj{w:Nat}{e:Ty}{ds:List D}(h:(Ty.slice w e).has ds):∃d,ds=[d]:=by
 simp only[Ty.has]at h;obtain⟨xs,rfl,_⟩:=h;exact⟨_,rfl⟩
end Go.Abs
namespace Go.Proofs.YtcgippbplkagkaaGreat
open Go Go.Abs Go.Rock Go.Inj
variable {σ:SK}
theorem KR{ds:List D}(h:(Ty.int .i64).has ds):∃x:Int,ds=bx x∧True:=by
 obtain⟨n,rfl,hw⟩:=h;exact⟨n,rfl,trivial⟩
theorem Va{ds:List D}(h:(Ty.slice 1 (.int .i64)).has ds):∃r:List Int,ds=kK r∧r.length≤maxLen:=by
 obtain⟨d,rfl⟩:=tj h;obtain⟨l,rfl,hl,_⟩:=wW (fun ds h=>KR h) h;exact⟨l,rfl,hl⟩
theorem ZQ{ds:List D}(h:(Ty.struct [.int .i64,.int .i64,.int .i64,.int .i64,.int .i64]).has ds):∃x:Rw,ds=x.enc∧True:=by
 obtain⟨_,_,rfl,⟨a,rfl,_⟩,_,_,rfl,⟨b,rfl,_⟩,_,_,rfl,⟨c,rfl,_⟩,_,_,rfl,⟨d,rfl,_⟩,_,_,rfl,⟨e,rfl,_⟩,rfl⟩:=h;exact⟨⟨a,b,c,d,e⟩,rfl,trivial⟩
theorem KC{ds:List D}(h:(Ty.struct [.int .i64,.int .i64,.int .i64]).has ds):∃x:aT,ds=x.enc∧True:=by
 obtain⟨_,_,rfl,⟨a,rfl,_⟩,_,_,rfl,⟨b,rfl,_⟩,_,_,rfl,⟨c,rfl,_⟩,rfl⟩:=h;exact⟨⟨a,b,c⟩,rfl,trivial⟩
theorem aap{ds:List D}(h:(Ty.struct [.int .i64,.int .i64,.struct [.int .i64,.int .i64]]).has ds):∃x:TA,ds=x.enc∧True:=by
 obtain⟨_,_,rfl,⟨a,rfl,_⟩,_,_,rfl,⟨b,rfl,_⟩,_,_,rfl,⟨_,_,rfl,⟨c,rfl,_⟩,_,_,rfl,⟨d,rfl,_⟩,rfl⟩,rfl⟩:=h;exact⟨⟨a,b,c,d⟩,rfl,trivial⟩
theorem U2{ds:List D}(h:(Ty.struct [.int .i64,.int .i64,.int .i64,.int .i64]).has ds):∃x:ej,ds=x.enc:=by
 obtain⟨_,_,rfl,⟨a,rfl,_⟩,_,_,rfl,⟨b,rfl,_⟩,_,_,rfl,⟨c,rfl,_⟩,_,_,rfl,⟨d,rfl,_⟩,rfl⟩:=h;exact⟨⟨a,b,c,d⟩,rfl⟩
theorem Uj{d:D}(h:(Ty.struct [.struct [.int .i64,.int .i64,.int .i64,.int .i64],.slice 5 (.struct [.int .i64,.int .i64,.int .i64,.int .i64,.int .i64]),.int .i64,.int .i64,.int .i64,.slice 3 (.struct [.int .i64,.int .i64,.int .i64])]).vJ d):
  ∃b:bC,d=.agg [.int .i64 b.f.x,.int .i64 b.f.y,.int .i64 b.f.z,.int .i64 b.f.k,.aE b.bY.length (b.bY.flatMap Rw.enc),.int .i64 b.aS,.int .i64 b.lift,.int .i64 b.deep,.aE b.af.length (b.af.flatMap aT.enc)]∧b.bY.length≤maxLen∧b.af.length≤maxLen:=by
 obtain⟨ds,rfl,h⟩:=h;obtain⟨_,_,rfl,hf,_,_,rfl,ht,_,_,rfl,⟨s,rfl,_⟩,_,_,rfl,⟨u,rfl,_⟩,_,_,rfl,⟨v,rfl,_⟩,_,_,rfl,hw,rfl⟩:=h;obtain⟨f,rfl⟩:=U2 hf;obtain⟨d1,rfl⟩:=tj ht;obtain⟨d2,rfl⟩:=tj hw;obtain⟨t,rfl,hl1,_⟩:=wW (fun ds h=>ZQ h) ht;obtain⟨w,rfl,hl2,_⟩:=wW (fun ds h=>KC h) hw;exact⟨⟨f,t,s,u,v,w⟩,rfl,hl1,hl2⟩
theorem z6(x0 x1 x2 x3 x4 x5 x6:D)(t0:(Ty.struct [.struct [.int .i64,.int .i64,.int .i64,.int .i64],.slice 5 (.struct [.int .i64,.int .i64,.int .i64,.int .i64,.int .i64]),.int .i64,.int .i64,.int .i64,.slice 3 (.struct [.int .i64,.int .i64,.int .i64])]).vJ x0)
  (t1:(Ty.struct [.str,.slice 1 (.int .i64)]).vJ x1) (t2:(Ty.struct [.int .i64,.slice 4 (.struct [.int .i64,.int .i64,.struct [.int .i64,.int .i64]])]).vJ x2)
  (t3:(Ty.int .u8).vJ x3) (t4:(Ty.int .u8).vJ x4) (t5:(Ty.int .u8).vJ x5) (t6:(Ty.int .u16).vJ x6):
  ∃σ',bG T (.call false j4 [x0,x1,x2,x3,x4,x5,x6] [[]])=some (.val (.bool true) σ'):=by
 obtain⟨b,rfl,hb1,hb2⟩:=Uj t0;obtain⟨ds,rfl,_,_,rfl,⟨nm,rfl,hn⟩,_,_,rfl,h2,rfl⟩:=t1;obtain⟨vs,rfl,hv⟩:=Va h2;obtain⟨ds,rfl,_,_,rfl,⟨ts,rfl,_⟩,_,_,rfl,h3,rfl⟩:=t2;obtain⟨dl,rfl⟩:=tj h3;obtain⟨tl,rfl,hl,_⟩:=wW (fun ds h=>aap h) h3;obtain⟨k3,rfl,hk3⟩:=JQ t3;obtain⟨k4,rfl,hk4⟩:=JQ t4;obtain⟨k5,rfl,hk5⟩:=JQ t5;obtain⟨k6,rfl,hk6⟩:=Wl t6;have hm:maxLen≤9223372036854775807:=by decide
 have:=Cx (b:=b) (m:=⟨nm,vs⟩) (ts:=ts) (tl:=tl) (u:=k3.toNat) (v:=k4.toNat) (s:=k5.toNat) (r0:=k6) (by omega) (by omega) (by omega) hk6 (by omega) (by omega) ⟨by simp only;omega,by simp only;omega⟩ (by omega);rw[cf hk3.1,cf hk4.1,cf hk5.1]at this;exact this
end Go.Proofs.YtcgippbplkagkaaGreat
