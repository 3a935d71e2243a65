import Derived.Test.YtfgljaglidhjiaaGreatDoorTxt5
import Derived.Test.YtfgljaglidhjiaaGreatDoorTxt2
set_option linter.all false
namespace Go.Proofs.YtfgljaglidhjiaaGreatDoor
open List(length_flatMap map_take)
open Go Go.Abs Go.Rock Go.Book
variable {σ:SK}
def doR(F:List Abs.aE)(b:Bk)(er:List Int)(σ:SK)(r:Bk×Int):R:=if r.2=0 then .val (.dV []) (F::r.1.bj σ.length er::σ)else .gf (rf r.2) (F::b.bj σ.length er::σ)
theorem vh{F:List Abs.aE}{b:Bk}{er:List Int}{r:Bk×Int}{q:Q}(h1:∀b' e,r=(b',e)→e=0→lim T q=some (.val (.dV []) (F::b'.bj σ.length er::σ)))(h2:∀b' e,r=(b',e)→e≠0→lim T q=some (.gf (rf e) (F::b.bj σ.length er::σ))):
  lim T q=some (doR F b er σ r):=by
 obtain⟨b',e⟩:=r;unfold doR;by_cases he:e=0
 ·rw[if_pos he];exact h1 b' e rfl he
 ·rw[if_neg he];exact h2 b' e rfl he
theorem yZ{l:List Int}{n:Nat}(h:l.length=n+1):∃a r,l=a::r∧r.length=n:=by
 cases l with
 |nil=>simp at h
 |cons a r=>exact⟨a,r,rfl,by simpa using h⟩
theorem aeM{l:List Int}(h:l.length=3):∃a0 a1 a2,l=[a0,a1,a2]:=by
 obtain⟨a0,r0,e0,h0⟩:=yZ (n:=2) h;obtain⟨a1,r1,e1,h1⟩:=yZ (n:=1) h0;obtain⟨a2,r2,e2,h2⟩:=yZ (n:=0) h1;have e:=bY.1 h2;exact⟨a0,a1,a2,by rw[e0,e1,e2,e]⟩
theorem aeN{l:List Int}(h:l.length=4):∃a0 a1 a2 a3,l=[a0,a1,a2,a3]:=by
 obtain⟨a0,r0,e0,h0⟩:=yZ (n:=3) h;obtain⟨a1,r1,e1,h1⟩:=yZ (n:=2) h0;obtain⟨a2,r2,e2,h2⟩:=yZ (n:=1) h1;obtain⟨a3,r3,e3,h3⟩:=yZ (n:=0) h2;have e:=bY.1 h3;exact⟨a0,a1,a2,a3,by rw[e0,e1,e2,e3,e]⟩
theorem aro{l:List Int}(h:l.length=10):∃a0 a1 a2 a3 a4 a5 a6 a7 a8 a9,l=[a0,a1,a2,a3,a4,a5,a6,a7,a8,a9]:=by
 obtain⟨a0,r0,e0,h0⟩:=yZ (n:=9) h;obtain⟨a1,r1,e1,h1⟩:=yZ (n:=8) h0;obtain⟨a2,r2,e2,h2⟩:=yZ (n:=7) h1;obtain⟨a3,r3,e3,h3⟩:=yZ (n:=6) h2;obtain⟨a4,r4,e4,h4⟩:=yZ (n:=5) h3;obtain⟨a5,r5,e5,h5⟩:=yZ (n:=4) h4;obtain⟨a6,r6,e6,h6⟩:=yZ (n:=3) h5;obtain⟨a7,r7,e7,h7⟩:=yZ (n:=2) h6;obtain⟨a8,r8,e8,h8⟩:=yZ (n:=1) h7;obtain⟨a9,r9,e9,h9⟩:=yZ (n:=0) h8;have e:=bY.1 h9;exact⟨a0,a1,a2,a3,a4,a5,a6,a7,a8,a9,by rw[e0,e1,e2,e3,e4,e5,e6,e7,e8,e9,e]⟩
theorem Dk{w:Wd}{n:Nat}(h:HD w n=true)(hs:w.step=0):(n:Int)=w.least:=by
 simp only[HD,ck,af,au]at h;omega
theorem GC{w:Wd}{n:Nat}(h:HD w n=true)(hs:0<w.step)(hl:0≤w.least):w.least≤n∧((n:Int)-w.least)%w.step=0:=by
 simp only[HD,ck,af,au]at h;rcases h with h | ⟨h1,h2,h3⟩
 ·refine⟨by omega,?_⟩;rw[h];simp
 ·refine⟨by omega,?_⟩;rwa[Int.tmod_eq_emod_of_nonneg (by omega)]at h3
theorem Ok.one{b:cz}{m:cU}{az:List (List Int)}(hb:b.valid=true)(hf:Bd b m=true)(hp:wI b az=0)(hn:m.name.length≤1000000000):Ok b [m] az:=by
 have hbv:=Bv.of hb;have hfit:fits b m=true:=by simp only[Bd,af]at hf;exact hf.2
 have hfv:=Fv.of hf;have hm:b.f.ar [m]=0:=by
  have h:=hfit;simp only[fits,af,au]at h;have h1:=h.1;unfold ig at h1;rw[if_pos hbv.fv]at h1;exact h1
 obtain⟨p1,p2⟩:=Am hp;exact⟨hbv,hb,by simp,hm,by simpa using hfit,by simpa using hfv,by intro x hx;simp at hx;subst hx;exact⟨hn,hfv.toMv.le.2⟩,hp,p1,p2⟩
theorem NZ{b:cz}{m:cU}(hb:b.valid=true)(hf:Bd b m=true):b.f.model m=0:=by
 have hfit:fits b m=true:=by simp only[Bd,af]at hf;exact hf.2
 rw[Qy (Bv.of hb),af,au]at hfit;exact hfit.1
theorem axP{F:List Abs.aE}{b:Bk}{er:List Int}{s:List UInt8}{w:Wd}{nm:List UInt8}{l:List Int}{n:Nat}(hK:Kv n b)(hn:n≤1000000)(hp:parse s=some (w,nm,l))(hs:s.length≤4000):
  lim T (.call false ((Jo[w.k]?).getD 0) [.ref σ.length 6 0 0,.str nm,.aH l.length (l.flatMap aY)] (F::b.bj σ.length er::σ))=some (doR F b er σ (sG b w.k nm l)):=by
 obtain⟨⟨a,ha⟩,hfit,hnm,hll⟩:=F3 hp;have htl:=ahN hK.ct;have hv:b.ready=true→Bv b.bN:=fun h=>Bv.of (hK.ready h)
 have hrt:b.ready=true→kS b.bN.ct=true:=fun h=>(hv h).ct
 have hwl:b.bN.an.length≤8:=by
  cases hr:b.ready with
  |true=>exact(hv hr).an
  |false=>rw[hK.an hr];simp
 have hmr:b.ar≠[]→kS b.bN.ct=true:=fun h=>hrt (hK.ms h)
 have hlm:bV b.ar≠[]→b.ar≠[]:=fun h hh=>h (by rw[hh];rfl)
 have hz:Sz b:=⟨by omega,by omega,fun e he=>⟨by have:=(hK.fit e he).2.1;omega,by have:=(hK.fit e he).2.2;omega⟩⟩;have hplz:=Am hK.pl;have hbv:b.ar≠[]→b.bN.valid=true:=fun h=>hK.ready (hK.ms h)
 have hne:∀e∈b.ar,b.ar≠[]:=fun e he hh=>by rw[hh]at he;cases he
 have hok:∀e∈b.ar,Ok b.bN [e.m] b.az:=fun e he=>Ok.one (hbv (hne e he)) (hK.fit e he).1 hK.pl (hz.ms e he).1
 have hfm:∀e∈b.ar,b.bN.f.model e.m=0:=fun e he=>NZ (hbv (hne e he)) (hK.fit e he).1
 have hsp:∀e∈b.AZ,e.sp.length≤1000000:=fun e he=>by
  have:=hK.MG e he;simp only[Trem.Ev.ok,af]at this;have:=Trem.bf.1 this.2.1;omega
 have h1:=E8 ha;simp only[tU,bd,ak,List.not_mem_nil,or_false]at h1;rcases h1 with⟨_,rfl⟩ | ⟨_,rfl⟩ | ⟨_,rfl⟩ | ⟨_,rfl⟩ | ⟨_,rfl⟩ | ⟨_,rfl⟩ | ⟨_,rfl⟩ | ⟨_,rfl⟩ | ⟨_,rfl⟩ | ⟨_,rfl⟩ | ⟨_,rfl⟩ | ⟨_,rfl⟩ | ⟨_,rfl⟩
 ·have hl:l.length=4:=by
   have h:(l.length:Int)=4:=Dk hfit rfl;omega
  obtain⟨x,y,z,k,rfl⟩:=aeN hl;exact vh (fun b' e hd he=>af0 hd he) (fun b' e hd he=>Ry hd he)
 ·have hl:=(GC hfit (by decide) (by decide)).2;simp only[Int.sub_zero]at hl;obtain⟨h5,h6⟩:=QG (l.length / 5) (l:=l) (by omega);have hlen:(Si l).length*5=l.length:=by omega
  rw[← h5,← hlen];exact vh (fun b' e hd he=>agj (by omega) hd he) (fun b' e hd he=>RI (by omega) hd he)
 ·have hl:l.length=3:=by
   have h:(l.length:Int)=3:=Dk hfit rfl;omega
  obtain⟨x,y,z,rfl⟩:=aeM hl;exact vh (fun b' e hd he=>am9 (by omega) (by omega) hd he) (fun b' e hd he=>S9 (by omega) (by omega) hd he)
 ·have hl:l.length=3:=by
   have h:(l.length:Int)=3:=Dk hfit rfl;omega
  obtain⟨x,y,z,rfl⟩:=aeM hl;refine vh (fun b' e hd he=>?_) (fun b' e hd he=>TD (fun h=>DD (hrt h)) (by omega) (by omega) hd he);have hr:b.ready=true:=by
   have hd2:yW b x y z=(b',e):=hd;unfold yW at hd2;split at hd2
   ·rename_i h;exact h.1
   ·cases hd2;cases he
  exact anu (DD (hrt hr)) (by omega) (by omega) hd he
 ·exact vh (fun b' e hd he=>Ti (m:=⟨nm,l⟩) (by omega) (by omega) (by simp;omega) (by simp;omega) hK.wl hd he) (fun b' e hd he=>RA (m:=⟨nm,l⟩) (by omega) (by omega) (by simp;omega) (by simp;omega) hK.ml hd he)
 ·obtain⟨hl1,hl2⟩:=GC hfit (by decide) (by decide);simp only at hl1 hl2;obtain⟨k,l,rfl,hl⟩:=yZ (n:=l.length-1) (l:=l) (by omega);simp only[aG]at hl1 hl2 hll;obtain⟨lo,l,rfl,hl⟩:=yZ (n:=l.length-1) (l:=l) (by omega);simp only[aG]at hl1 hl2 hll;obtain⟨hi,l,rfl,hl⟩:=yZ (n:=l.length-1) (l:=l) (by omega);simp only[aG]at hl1 hl2 hll;obtain⟨h5,h6⟩:=Kd (l.length / 2) (l:=l) (by omega);have hlen:(Iw l).length*2+3=l.length+1+1+1:=by omega
  simp only[aS,aG,aY,cG];rw[← h5,← hlen];refine vh (fun b' e hd he=>ang (by omega) (by omega) hK.wl hK.ml (fun e he=>⟨hfm e he,hz.ms e he⟩) hd he) (fun b' e hd he=>af7 (by omega) (by omega) hd he)
 ·have hl:l.length=10:=by
   have h:(l.length:Int)=10:=Dk hfit rfl;omega
  obtain⟨x0,x1,x2,x3,x4,x5,x6,x7,x8,x9,rfl⟩:=aro hl;exact vh (fun b' e hd he=>ani hd he) (fun b' e hd he=>Tu hd he)
 ·have hl:l.length=3:=by
   have h:(l.length:Int)=3:=Dk hfit rfl;omega
  obtain⟨x,y,z,rfl⟩:=aeM hl;refine vh (fun b' e hd he=>?_) (fun b' e hd he=>?_)
  ·have hd2:(if Trem.rQ x y z=true then(Ji b x y z,0)else(b,1))=(b',e):=hd;split at hd2
   ·rename_i h;cases hd2;exact ane h
   ·cases hd2;cases he
  ·have hd2:(if Trem.rQ x y z=true then(Ji b x y z,0)else(b,1))=(b',e):=hd;split at hd2
   ·cases hd2;exact absurd rfl he
   ·rename_i h;cases hd2;exact Tf (by simpa using h)
 ·have hl:=(GC hfit (by decide) (by decide)).2;simp only[Int.sub_zero]at hl;obtain⟨h5,h6⟩:=QF (l.length / 4) (l:=l) (by omega);have hlen:(Sh l).length*4=l.length:=by omega
  rw[← h5,← hlen];exact vh (fun b' e hd he=>af9 (by omega) hd he) (fun b' e hd he=>RD (by omega) hd he)
 ·have hpl:∀r∈b.az,r.length≤1000000000:=fun r hr=>by have:=(hplz.2 r hr).len;omega
  refine vh (fun b' e hd he=>?_) (fun b' e hd he=>Tz (fun h=>DD (hmr (hlm h))) hz (by omega) hK.ml (by have:=hK.rules;omega) (by have:=hK.AZ;omega) hsp hK.keep hpl hd he);have hr:bV b.ar≠[]:=by
   have hd2:yV b l=(b',e):=hd;unfold yV at hd2;split at hd2
   ·cases hd2;cases he
   ·rename_i h;exact h
  exact agk (DD (hmr (hlm hr))) hz (by omega) hK.ml (by have:=hK.rules;omega) (by have:=hK.AZ;omega) hsp hK.keep hpl hd he
 ·have hl:l.length=4:=by
   have h:(l.length:Int)=4:=Dk hfit rfl;omega
  obtain⟨w,i,lo,hi,rfl⟩:=aeN hl;refine vh (fun b' e hd he=>?_) (fun b' e hd he=>Tp (fun h=>DD (hmr (hlm h))) hK.ml hok hd he);have hr:bV b.ar≠[]:=by
   have hd2:yT b ⟨b.az.length,w,i,lo,hi⟩=(b',e):=hd;unfold yT at hd2;split at hd2
   ·cases hd2;cases he
   ·rename_i h;exact h
  exact agd (DD (hmr (hlm hr))) hK.wl hK.ml hok hK.BG hd he
 ·obtain⟨hl1,hl2⟩:=GC hfit (by decide) (by decide);simp only at hl1 hl2;obtain⟨i,l,rfl,hl⟩:=yZ (n:=l.length-1) (l:=l) (by omega);simp only[aG]at hl1 hl2 hll;obtain⟨h5,h6⟩:=Kd (l.length / 2) (l:=l) (by omega);have hlen:((Iw l).map MQ).length*2+1=l.length+1:=by simp;omega
  simp only[aS,aG,aY,cG];rw[← h5,← hlen,← ahj];exact vh (fun b' e hd he=>anr (u:=⟨i,(Iw l).map MQ⟩) (by simp;omega) hd he) (fun b' e hd he=>TA (u:=⟨i,(Iw l).map MQ⟩) (by simp;omega) hd he)
 ·have hl:l.length=4:=by
   have h:(l.length:Int)=4:=Dk hfit rfl;omega
  obtain⟨w,i,lo,hi,rfl⟩:=aeN hl;refine vh (fun b' e hd he=>?_) (fun b' e hd he=>Tx (fun h=>hmr (hlm h)) hK.ml hok hK.BG hK.uok hK.gA (by omega) (by have:=hK.qB;omega) hd he);have hr:bV b.ar≠[]:=by
   have hd2:yU b w i lo hi=(b',e):=hd;unfold yU at hd2;split at hd2
   ·cases hd2;cases he
   ·rename_i h;exact fun hh=>h (.inl hh)
  exact agi (hmr (hlm hr)) hK.ml hok hK.BG hK.uok hK.gA (by omega) (by have:=hK.qB;omega) hd he
end Go.Proofs.YtfgljaglidhjiaaGreatDoor
namespace Go.Proofs.YtfgljaglidhjiaaGreatDoor
open List(length_flatMap map_take)
open Go Go.Abs Go.Rock Go.Book
theorem Kv.le{n m:Nat}{b:Bk}(h:Kv n b)(hn:n≤m):Kv m b:={h with qB:=iF h.qB hn }
theorem Kv.zero:Kv 0 o6:=by
 refine⟨.inl rfl,by simp[o6],fun _=>rfl,by simp[o6],by simp[o6],rfl,by simp[o6],by simp[o6],?_,by simp[o6],by simp[o6],by simp[o6],by simp[o6],by decide,by simp[o6],by simp[o6],by simp[o6]⟩;simp[o6,wI,cN]
theorem B8{b:cz}:wI b []=0:=by simp[wI,cN]
theorem TY{b:cz}(h:b.valid=true):b.ct≠[]∧¬((b.f.x=0∧b.f.y=0)∧b.f.z=0∧b.f.k=0):=by
 have hv:=Bv.of h;refine⟨DD hv.ct,fun hh=>?_⟩;have:=hv.x;omega
theorem Kv.Kj{n:Nat}{b:Bk}(h:Kv n b)(hm:b.ar=[]):b.az=[]:=by
 by_cases hp:b.az=[]
 ·exact hp
 ·exact absurd hm (h.pm hp)
theorem Kv.HN{n:Nat}{b:Bk}(h:Kv n b)(hr:b.ready=false):b.ar=[]:=by
 by_cases hp:b.ar=[]
 ·exact hp
 ·rw[h.ms hp]at hr;cases hr
theorem Kv.atH{n:Nat}{b:Bk}(h:Kv n b)(k:Int):Kv n {b with at_:=k }:={h with }
theorem ahv{b:cz}{m:cU}:∃r,Rock.run b m []=some r:=⟨_,rfl⟩
theorem Rk{b:Bk}{lo hi:Int}{val:cU→Int}{x:mS}(h:x∈(tx b lo hi val).ar):∃e∈b.ar,x.m=e.m∧(x.left=true→e.left=true):=by
 simp only[tx,Bk.km,List.mem_mapIdx]at h;obtain⟨i,hi,rfl⟩:=h;refine⟨b.ar[i],List.getElem_mem hi,?_⟩;rw[if_pos hi];unfold Go.Book.cc;split<;>simp
theorem Kv.afv{n:Nat}{b:Bk}(h:Kv n b){lo hi:Int}{val:cU→Int}:Kv n (tx b lo hi val):=by
 have hl:(tx b lo hi val).ar.length=b.ar.length:=EA;have hn:(tx b lo hi val).ar=[]↔b.ar=[]:=by rw[← bY,hl,bY]
 refine {ct:=h.ct,ready:=h.ready,an:=h.an,ms:=fun hh=>h.ms (fun h2=>hh (hn.2 h2)),ml:=by rw[hl];exact h.ml,wl:=by rw[hl,← h.wl];exact EB,fit:=fun x hx=>?_,pm:=fun hh h2=>h.pm hh (hn.1 h2),pl:=h.pl,BG:=fun x hx hxl=>?_,rules:=h.rules,AZ:=h.AZ,MG:=h.MG,keep:=h.keep,gA:=h.gA,uok:=h.uok,qB:=h.qB }
 ·obtain⟨e,he,h1,_⟩:=Rk hx;rw[h1];exact h.fit e he
 ·obtain⟨e,he,h1,h2⟩:=Rk hx;rw[h1];exact h.BG e he (h2 hxl)
theorem Md{l:List mS}{e:mS}(h:e∈bV l):e∈l∧e.left=true:=dj.1 h
theorem Kv.word{n:Nat}{b:Bk}(h:Kv n b){s:List UInt8}{w:Wd}{nm:List UInt8}{l:List Int}(hp:parse s=some (w,nm,l))(hs:s.length≤4000):Kv (n+1) (sG b w.k nm l).1:=by
 obtain⟨_,_,hnm,hll⟩:=F3 hp;have h1:=h.le (Nat.le_succ n);generalize w.k=k;unfold sG;split
 ·
  split
  ·unfold z8;split
   ·rename_i hz;split
    ·have hr:b.ready=false:=by
      cases hr:b.ready with
      |false=>rfl
      |true=>exact absurd hz (TY (h.ready hr)).2
     have hm:=h.HN hr;have hpl:=h.Kj hm;have hno:∀e,e∈b.ar→False:=by rw[hm];simp
     exact {h1 with ct:=h.ct,ready:=fun hh=>(by rw[show b.ready=true from hh]at hr;cases hr),an:=h.an,fit:=fun e he=>(hno e he).elim,pl:=by simp only[hpl];exact B8,BG:=fun e he=>(hno e he).elim }
    ·exact h1
   ·exact h1
  ·exact h1
 ·
  unfold Ab;split
  ·rename_i hz;split
   ·rename_i ht;have hr:b.ready=false:=by
     cases hr:b.ready with
     |false=>rfl
     |true=>exact absurd hz (TY (h.ready hr)).1
    have hm:=h.HN hr;have hpl:=h.Kj hm;have hno:∀e,e∈b.ar→False:=by rw[hm];simp
    exact {h1 with ct:=.inr ht,ready:=fun hh=>(by rw[show b.ready=true from hh]at hr;cases hr),an:=h.an,fit:=fun e he=>(hno e he).elim,pl:=by simp only[KK,hpl];exact B8,BG:=fun e he=>(hno e he).elim }
   ·exact h1
  ·exact h1
 ·
  split
  ·rename_i x y z;unfold Hw;split
   ·exact h1
   ·rename_i hz;split
    ·rename_i hv;have hr:b.ready=false:=by
      cases hr:b.ready with
      |false=>rfl
      |true=>exact absurd (.inr (.inr hr)) hz
     have hm:=h.HN hr;have hpl:=h.Kj hm;have hno:∀e,e∈b.ar→False:=by rw[hm];simp
     exact {h1 with ct:=h.ct,ready:=fun _=>hv,an:=fun hh=>(by cases hh),ms:=fun _=>rfl,fit:=fun e he=>(hno e he).elim,pl:=by simp only[Iq,hpl];exact B8,BG:=fun e he=>(hno e he).elim }
    ·exact h1
  ·exact h1
 ·
  split
  ·rename_i x y z;unfold yW;split
   ·rename_i hz;obtain⟨hr,hm⟩:=hz;split
    ·rename_i hv;have hpl:=h.Kj hm;have hno:∀e,e∈b.ar→False:=by rw[hm];simp
     exact {h1 with ct:=h.ct,ready:=fun _=>hv,an:=fun hh=>(by rw[show b.ready=false from hh]at hr;cases hr),fit:=fun e he=>(hno e he).elim,pl:=by simp only[wa,hpl];exact B8,BG:=fun e he=>(hno e he).elim }
    ·exact h1
   ·exact h1
  ·exact h1
 ·
  unfold yd;split
  ·rename_i hz;obtain⟨hr,hpl⟩:=hz;split
   ·exact h1
   ·split
    ·rename_i hml;split
     ·rename_i hb;refine {h1 with ms:=fun _=>hr,ml:=by simp[Ds];omega,wl:=by simp[Ds,h.wl],fit:=fun e he=>?_,pm:=fun hh=>absurd hpl hh,BG:=fun e he hl=>?_ }
      ·simp only[Ds,ba,List.mem_singleton]at he;rcases he with he | rfl
       ·exact h.fit e he
       ·exact⟨hb,by simp;omega,by simp;omega⟩
      ·simp only[Ds];rw[hpl];exact ahv
     ·exact h1
    ·exact h1
  ·exact h1
 ·
  split
  ·unfold FU;split
   ·exact h1
   ·split
    ·exact h1.afv
    ·exact h1
  ·exact h1
 ·
  unfold Di;split
  ·split
   ·split
    ·rename_i hl _ _;exact {h1 with rules:=by simp;omega }
    ·exact h1
   ·exact h1
  ·exact h1
 ·
  split
  ·split
   ·rename_i hk;exact {h1 with keep:=hk }
   ·exact h1
  ·exact h1
 ·
  unfold Aa;split
  ·rename_i hl;split
   ·rename_i ho;refine {h1 with AZ:=by simp[HS];omega,MG:=fun e he=>?_ };simp only[HS,ba,List.mem_singleton]at he;rcases he with he | rfl
    ·exact h.MG e he
    ·exact ho
   ·exact h1
  ·exact h1
 ·
  unfold yV;split
  ·exact h1
  ·rename_i hl;split
   ·split
    ·split
     ·split
      ·rename_i hf;obtain⟨e0,he0⟩:=List.exists_mem_of_ne_nil _ hl;have key:∀e∈bV b.ar,Bd b.bN e.m=true∧wI b.bN (qd b l)=0∧∃r,Rock.run b.bN e.m (qd b l)=some r:=by
        intro e he;have hz:=vQ hf e he;have hb:=(h.fit e (Md he).1).1;simp only[sY,hb,if_true]at hz;split at hz
        ·rename_i hq;cases hr:Rock.run b.bN e.m (qd b l)with
         |none=>rw[hr]at hz;cases hz
         |some r=>exact⟨hb,hq,r,rfl⟩
        ·rename_i hq;exact absurd hz hq
       refine {h1 with pm:=fun _ hh=>?_,pl:=(key e0 he0).2.1,BG:=fun e he hel=>(key e (dj.2 ⟨he,hel⟩)).2.2 };have:=(Md he0).1;rw[show b.ar=[]from hh]at this;cases this
      ·exact h1
     ·exact h1
    ·exact h1
   ·exact h1
 ·
  split
  ·unfold yT;split
   ·exact h1
   ·split
    ·split
     ·exact h1.afv
     ·exact h1
    ·exact h1
  ·exact h1
 ·
  split
  ·unfold Dj;split
   ·rename_i hl;split
    ·rename_i ho;refine {h1 with gA:=by simp[MS];omega,uok:=fun u hu=>?_ };simp only[MS,ba,List.mem_singleton]at hu;rcases hu with hu | rfl
     ·exact h.uok u hu
     ·exact ho
    ·exact h1
   ·exact h1
  ·exact h1
 ·
  split
  ·unfold yU;split
   ·exact h1
   ·split
    ·split
     ·exact {h1 with qB:=by have:=h.qB;simp[Ra];omega }
     ·exact h1
    ·exact h1
  ·exact h1
 ·exact h1
theorem Kv.line{n:Nat}{b:Bk}(h:Kv n b){s:List UInt8}(hs:s.length≤4000){k:Int}:Kv (n+1) (j8 b k s).1:=by
 unfold j8;split
 ·rename_i w nm l hp;exact(h.atH k).word hp hs
 ·exact h.le (Nat.le_succ n)
end Go.Proofs.YtfgljaglidhjiaaGreatDoor
namespace Go.Abs
open List(length_flatMap map_take)
variable {T:yR}
theorem Lp{f:Nat}{fn:Fn}{args:List D}{σ σ':SK}{d:D}{np:Nat}{res:List DG}{body A q:cF}{fo:bG}{bs:List bG}(hT:T f=some fn)(hf:fn=⟨np,res,body⟩)(hl:args.length=np)(hs:jl body=some (A,fo,bs,q))(hlen:σ'.length=σ.length)
  (h:WC (lim T) A (nU 0 args) ([]::σ) (KL T fo bs q σ' res d)):
  lim T (.call false f args σ)=some (.val d σ'):=by
 subst hf;obtain⟨x,e1,σ1,h1,rfl,x2,e2,σ2,h2,th,h3,σ3,h4,ds,h5,s,h6⟩:=h;rw[hlen]at h6;refine iy ?_;have hn:aW (lim T) body (nU 0 args) ([]::σ)=none:=yA hs h1;simp only[dB,hT,if_pos hl,av,if_false,hn,hs,zn,h1,h2];have h4':∃dv,rJ (lim T) (bg e1 fo) (bs.map (bg e1)) th σ2=some (.val dv σ3):=by
  unfold wh at h4;split at h4
  ·rename_i h7;cases h4;exact⟨_,h7⟩
  ·cases h4
 obtain⟨dv,h4'⟩:=h4';cases x2 with
 |exit i=>cases h3
 |normal=>cases h3;simp only[zp,h4',vg,leave,h5,h6]
 |ret=>cases h3;simp only[zp,h4',vg,leave,h5,h6]
 |gf d=>cases h3;simp only[zp,h4',vg,leave,h5,h6]
end Go.Abs
namespace Go.Proofs.YtfgljaglidhjiaaGreatDoor
open List(length_flatMap map_take)
section
open Go Go.Abs Go.Rock Go.Book
variable {σ:SK}
theorem agA{c:List D}:lim T (.yc da [.ref σ.length 0 0 0] none ([.cells 0 c]::σ))=some (.val (.dV []) ([.cells 0 c]::σ)):=by
 refine Bm uY jw.eq_1 rfl (by simp[-length_flatMap,-map_take,sJ];exact⟨rfl,rfl⟩) ?_;simp[-length_flatMap,-map_take]
theorem OQ{e:Int}:lim T (.yc da [.ref σ.length 0 0 0] (some (rf e)) ([.cells 0 [.int .i64 0]]::σ))=some (.val (.dV []) ([.cells 0 [.int .i64 e]]::σ)):=by
 refine Bm uY jw.eq_1 rfl (by simp[-length_flatMap,-map_take,sJ];exact⟨rfl,rfl⟩) ?_;simp[-length_flatMap,-map_take,rf]
theorem I6{b:Bk}{k:Nat}{nm:List UInt8}{l:List Int}(h:(sG b k nm l).2≠0):(sG b k nm l).1=b:=by
 unfold sG at h ⊢;split;all_goals
  simp only at h
  try unfold Go.Book.z8 at *
  try unfold Ab at *
  try unfold Hw at *
  try unfold yW at *
  try unfold yd at *
  try unfold FU at *
  try unfold Di at *
  try unfold Aa at *
  try unfold yV at *
  try unfold yT at *
  try unfold Dj at *
  try unfold yU at *
  repeat' split
  all_goals first | rfl | (simp_all)
theorem Nc{b:Bk}{er:List Int}{s:List UInt8}{n:Nat}{k:Int}(hK:Kv n b)(hn:n≤1000000)(hs:s.length≤4000):
  lim T (.call false aJ [.ref σ.length 6 0 0,.int .i64 k,.str s] (b.bj σ.length er::σ))=some (.val (.int .i64 (j8 b k s).2) ((j8 b k s).1.bj σ.length er::σ)):=by
 refine Lp Cm om.eq_1 rfl rfl (by simp) ?_;cases hp:parse s with
 |none =>
  have hP:=fun S=>Ni (σ:=S) (s:=s) (by omega) hp
  have hX:wh T (.fn da [] [.ref (σ.length+1) 0 0 0]) [] (some (rf 4)) ([.cells 0 [.int .i64 0]]::b.bj σ.length er::σ)=some ([.cells 0 [.int .i64 4]]::b.bj σ.length er::σ):=vf (OQ (σ:=b.bj σ.length er::σ));have hd:j8 b k s=(b,4):=by simp[j8,hp]
  rw[hd];simp only[Bk.bj,Bk.cells,rf]at hX hP;simp[-length_flatMap,-map_take,KL,AV,Bk.bj,Bk.cells];rw[xk lD.eq_1];simp[-length_flatMap,-map_take,KL,AV,Bk.bj,Bk.cells,hP,hX]
 |some p =>
  obtain⟨w,nm,l⟩:=p;have hP:=fun S hS=>Tn (σ:=S) (s:=s) (by omega) hS hp
  have hD:=axP (σ:=σ) (F:=[.cells 0 [.int .i64 0]]) (er:=er) (hK.atH k) hn hp hs;have hd:j8 b k s=sG {b with at_:=k } w.k nm l:=by simp[j8,hp]
  rw[hd];have hno:=I6 (b:={b with at_:=k }) (k:=w.k) (nm:=nm) (l:=l);generalize sG {b with at_:=k } w.k nm l=r at hD hno ⊢;obtain⟨b',e⟩:=r;have hwc:M3 w=[.bool w.named,.int .i64 w.least,.int .i64 w.step,.fn ((Jo[w.k]?).getD 0) [] []]:=rfl;simp only[yw,hwc]at hP;by_cases he:e=0
  ·subst he;have hX:wh T (.fn da [] [.ref (σ.length+1) 0 0 0]) [] none ([.cells 0 [.int .i64 0]]::b'.bj σ.length er::σ)=some ([.cells 0 [.int .i64 0]]::b'.bj σ.length er::σ):=vf (agA (σ:=b'.bj σ.length er::σ));simp only[doR,if_true]at hD;simp only[Bk.bj,Bk.cells]at hX hD;simp[-length_flatMap,-map_take,KL,AV,Bk.bj,Bk.cells];rw[xk lD.eq_1];simp[-length_flatMap,-map_take,KL,AV,Bk.bj,Bk.cells,hP,hD,hX]
  ·have hX:wh T (.fn da [] [.ref (σ.length+1) 0 0 0]) [] (some (rf e)) ([.cells 0 [.int .i64 0]]::(Bk.bj σ.length {b with at_:=k } er)::σ)=some ([.cells 0 [.int .i64 e]]::(Bk.bj σ.length {b with at_:=k } er)::σ):=vf (OQ (σ:=(Bk.bj σ.length {b with at_:=k } er)::σ));simp only[doR,he,if_false]at hD;have hb':b'={b with at_:=k }:=hno he;subst hb';simp only[Bk.bj,Bk.cells,rf]at hX hD;simp[-length_flatMap,-map_take,KL,AV,Bk.bj,Bk.cells];rw[xk lD.eq_1];simp[-length_flatMap,-map_take,KL,AV,Bk.bj,Bk.cells,hP,hD,hX]
def lT:Bk→Int→List (List UInt8)→Bk×List Int
 |b,_,[]=>(b,[])
 |b,k,s::l=>((lT (j8 b k s).1 (k+1) l).1,(j8 b k s).2::(lT (j8 b k s).1 (k+1) l).2)
def oW(l:List (List UInt8)):Bk×List Int:=lT o6 0 l
theorem Fw:∀{l:List (List UInt8)} {b:Bk} {k:Int},(lT b k l).2.length=l.length
 |[],_,_=>rfl
 |s::l,b,k=>by simp[lT,Fw (l:=l)]
def okL(l:List (List UInt8)):Prop:=l.length≤100∧∀s∈l,s.length≤4000
theorem Mz:∀{l:List (List UInt8)} {b:Bk} {k:Int} {n:Nat},Kv n b→(∀s∈l,s.length≤4000)→Kv (n+l.length) (lT b k l).1
 |[],b,k,n,h,_=>h
 |s::l,b,k,n,h,hs=>by
  have h1:=h.line (hs s (by simp)) (k:=k);have h2:=Mz (l:=l) (k:=k+1) h1 fun x hx=>hs x (by simp[hx])
  simp only[lT,aG];rwa[show n+(l.length+1)=n+1+l.length by omega]
theorem TM{lines:List (List UInt8)}(hl:okL lines):∀(m i:Nat) (b:Bk) (er:List Int),i+m=lines.length→er.length=i→Kv i b →
  WL T [4,5,12,13,14] false jE [(4,.ref σ.length 6 0 0),(5,.sl σ.length 7 i 0 i 1),(12,.aH lines.length (lines.flatMap cc)),(13,.int .i64 lines.length),(14,.int .i64 i)] (b.bj σ.length er::σ)
   (fun x e σ'=>x=.exit 0∧get e 4=.ref σ.length 6 0 0∧get e 5=.sl σ.length 7 lines.length 0 lines.length 1∧σ'=(lT b i (lines.drop i)).1.bj σ.length (er++(lT b i (lines.drop i)).2)::σ)
 |0,i,b,er,hi,he,hK=>by
  refine aM jE.eq_1 ?_;obtain rfl:i=lines.length:=by omega
  have h2:lines.drop lines.length=[]:=aA (by omega);simp[-length_flatMap,-map_take,h2,lT]
 |m+1,i,b,er,hi,he,hK=>by
  refine aM jE.eq_1 ?_;have h1:i<lines.length:=by omega
  obtain⟨s,hs⟩:=gE h1;have a1:=bW (f:=cc) (w:=1) (fun _=>rfl) hs;simp only[cc,dM]at a1;have h4:=gN h1 (by have:=hl.1;omega);have hsl:=hl.2 s (aj hs);have hn:=hl.1;have hC:=Nc (σ:=σ) (b:=b) (er:=er) (s:=s) (k:=i) hK (by omega) hsl;have hK':=hK.line hsl (k:=i);rw[cq hs];simp only[lT];generalize j8 b i s=r at hC hK' ⊢;obtain⟨b',e⟩:=r;have ih:=TM hl m (i+1) b' (er++[e]) (by omega) (by simp[he]) hK';have hel:=zx er;have het:(er.flatMap aY).take i=er.flatMap aY:=ai (by omega);have hr:(i+1)*8≤room:=by unfold room;omega
  simp only[Bk.bj,Bk.cells,he]at hC;simp[-length_flatMap,-map_take,h1,a1,h4,hC,Bk.bj,Bk.cells,hr,hel,het,he];refine WL.to ih (by simp) (by simp[Bk.bj,Bk.cells,he]) fun x e' σ' hh=>?_
  have e1:((i+1:Nat):Int)=(i:Int)+1:=by omega
  rw[e1]at hh;simpa[Bk.bj,Bk.cells]using hh
theorem anj{lines:List (List UInt8)}(hl:okL lines):lim T (.call true gL [.aH lines.length (lines.flatMap cc)] ([]::σ)) =
  some (.val (.dV [.ref σ.length 6 0 0,.sl σ.length 7 lines.length 0 lines.length 1]) ((oW lines).1.bj σ.length (oW lines).2::σ)):=by
 refine tc CF sN.eq_1 rfl ?_;have hL:=TM (σ:=σ) hl lines.length 0 o6 [] (by omega) rfl Kv.zero;rw[aO]at hL;simp[-length_flatMap,-map_take];refine WL.to hL (by simp) (by simp[Bk.bj,Bk.cells,o6,nl]) ?_;rintro x e σ' ⟨rfl,g4,g5,rfl⟩;simp[-length_flatMap,-map_take,g4,g5,oW]
end
section
open Go Go.Abs Go.Rock Go.Book
def z0(e:mS):mS:={e with by_:=0 }
def xG(b:Bk):Bk:={b with ar:=b.ar.map z0,rT:=[],at_:=0 }
theorem ag5(l:List mS):bV (l.map z0)=(bV l).map z0:=by
 induction l with
 |nil=>rfl
 |cons e l ih =>
  have h:(z0 e).left=e.left:=rfl;simp only[bV,aL,List.filter_cons,h]at ih ⊢;split<;>simp[ih]
theorem LI{f g:mS→Int}(h:∀e,f (z0 e)=g e)(l:List mS):cN f (l.map z0)=cN g l:=by
 induction l with
 |nil=>rfl
 |cons e l ih=>simp only[aL,cN,h,ih]
theorem anO{f g:mS→Bool}(h:∀e,f (z0 e)=g e)(l:List mS):sF (l.map z0) f=sF l g:=by
 show(l.map z0).any f=l.any g
 rw[List.any_map];congr 1;funext e;exact h e
theorem wo(l:List mS):(l.map z0).map z0=l.map z0:=by
 rw[List.map_map];rfl
theorem avM(b:Bk):xG (xG b)=xG b:=by
 simp only[xG,wo]
def oX(x y:Bk×Int):Prop:=x.2=y.2∧xG x.1=xG y.1
theorem oX.ite{c:Prop}{_:Decidable c}{x y x' y':Bk×Int}(h1:c→oX x x')(h2:¬c→oX y y'):oX (if c then x else y) (if c then x' else y'):=by
 by_cases h:c
 ·rw[if_pos h,if_pos h];exact h1 h
 ·rw[if_neg h,if_neg h];exact h2 h
theorem oX.no(b:Bk)(e:Int):oX (b,e) (xG b,e):=⟨rfl,(avM b).symm⟩
theorem Rm(b:Bk)(lo hi:Int)(val:cU→Int):xG (tx b lo hi val)=xG (tx (xG b) lo hi val):=by
 unfold tx xG Bk.km;simp only[Bk.mk.injEq,true_and,and_true,di,List.mapIdx_nil];apply dY;intro j;simp only[nj,j6,Option.map_map];cases b.ar[j]? with
 |none=>rfl
 |some e =>
  simp only[aR,Function.comp];split
  ·congr 1
   unfold Go.Book.cc isStr z0;simp only;split<;>rfl
  ·rfl
theorem ahS(b:Bk)(k:Nat)(nm:List UInt8)(l:List Int):oX (sG b k nm l) (sG (xG b) k nm l):=by
 have hn:∀{l:List mS},l.map z0=[]↔l=[]:=fun {l}=>List.map_eq_nil_iff
 have hm:(xG b).ar=b.ar.map z0:=rfl;have h1:bV (xG b).ar=(bV b.ar).map z0:=ag5 _;unfold sG;split
 ·split
  ·refine oX.ite (fun _=>oX.ite (fun _=>⟨rfl,?_⟩) fun _=>oX.no b 1) fun _=>oX.no b 8
   simp only[xG,wo]
  ·exact oX.no b 4
 ·refine oX.ite (fun _=>oX.ite (fun _=>⟨rfl,?_⟩) fun _=>oX.no b 1) fun _=>oX.no b 8
  simp only[xG,KK,wo]
 ·split
  ·refine oX.ite (fun _=>oX.no b 8) fun _=>oX.ite (fun _=>⟨rfl,?_⟩) fun _=>oX.no b 1
   simp only[xG,Iq,wo]
  ·exact oX.no b 4
 ·split
  ·unfold yW;simp only[hm,hn];refine oX.ite (fun _=>oX.ite (fun _=>⟨rfl,?_⟩) fun _=>oX.no b 1) fun _=>oX.no b 8
   simp only[xG,wa,wo]
  ·exact oX.no b 4
 ·unfold yd;simp only[hm,di];rw[anO (g:=fun e=>e.m.name == nm) (fun _=>rfl)];refine oX.ite (fun _=>oX.ite (fun _=>oX.no b 6) fun _=>oX.ite (fun _=>oX.ite (fun _=>⟨rfl,?_⟩) fun _=>oX.no b 1) fun _=>oX.no b 3) fun _=>oX.no b 8
  simp only[xG,Ds,List.map_append,wo]
 ·split
  ·unfold FU;simp only[hm,hn];exact oX.ite (fun _=>oX.no b 8) fun _=>oX.ite (fun _=>⟨rfl,Rm b _ _ _⟩) fun _=>oX.no b _
  ·exact oX.no b 4
 ·refine oX.ite (fun _=>oX.ite (fun _=>oX.ite (fun _=>⟨rfl,?_⟩) fun _=>oX.no b 1) fun _=>oX.no b 1) fun _=>oX.no b 3
  simp only[xG,wo]
 ·split
  ·refine oX.ite (fun _=>⟨rfl,?_⟩) fun _=>oX.no b 1
   simp only[xG,Ji,wo]
  ·exact oX.no b 4
 ·refine oX.ite (fun _=>oX.ite (fun _=>⟨rfl,?_⟩) fun _=>oX.no b 1) fun _=>oX.no b 3
  simp only[xG,HS,wo]
 ·unfold yV;have h2:qd (xG b) l=qd b l:=rfl;have h3:cN (fun e=>sY (xG b).bN e.m (qd b l)) ((bV b.ar).map z0)=cN (fun e=>sY b.bN e.m (qd b l)) (bV b.ar):=LI (fun _=>rfl) _;rw[h1,h2,h3];simp only[hn];refine oX.ite (fun _=>oX.no b 8) fun _=>oX.ite (fun _=>oX.ite (fun _=>oX.ite (fun _=>oX.ite (fun _=>⟨rfl,?_⟩) fun _=>oX.no b _) fun _=>oX.no b 2) fun _=>oX.no b 1) fun _=>oX.no b 3
  simp only[xG,Q2,wo]
 ·split
  ·unfold yT;rw[h1];simp only[hn];exact oX.ite (fun _=>oX.no b 8) fun _=>oX.ite (fun _=>oX.ite (fun _=>⟨rfl,Rm b _ _ _⟩) fun _=>oX.no b _) fun _=>oX.no b 1
  ·exact oX.no b 4
 ·split
  ·refine oX.ite (fun _=>oX.ite (fun _=>⟨rfl,?_⟩) fun _=>oX.no b 1) fun _=>oX.no b 3
   simp only[xG,MS,wo]
  ·exact oX.no b 4
 ·split
  ·rename_i w lv u p;unfold yU;have h6:Au (xG b) w lv u=Au b w lv u:=by
    unfold Au;rw[h1];exact LI (fun _=>rfl) _
   have h7:H2 (xG b) w lv u=H2 b w lv u:=by
    unfold H2;rw[h1,List.map_map];rfl
   rw[h1,h6,h7];simp only[hn];refine oX.ite (fun _=>oX.no b 8) fun _=>oX.ite (fun _=>oX.ite (fun _=>⟨rfl,?_⟩) fun _=>oX.no b _) fun _=>oX.no b 2
   simp only[xG,Ra,wo]
  ·exact oX.no b 4
 ·exact oX.no b 4
theorem Rp(b:Bk)(k:Nat)(nm:List UInt8)(l:List Int):(sG b k nm l).2=(sG (xG b) k nm l).2∧xG (sG b k nm l).1=xG (sG (xG b) k nm l).1:=ahS b k nm l
theorem QP{b c:Bk}(h:xG b=xG c)(k k':Int)(s:List UInt8):(j8 b k s).2=(j8 c k' s).2∧xG (j8 b k s).1=xG (j8 c k' s).1:=by
 unfold j8;cases parse s with
 |none=>exact⟨rfl,h⟩
 |some x =>
  obtain⟨w,nm,l⟩:=x;have h1:=Rp {b with at_:=k } w.k nm l;have h2:=Rp {c with at_:=k' } w.k nm l;have h3:xG {b with at_:=k }=xG {c with at_:=k' }:=h;rw[h3]at h1;exact⟨h1.1.trans h2.1.symm,h1.2.trans h2.2.symm⟩
theorem ag6{b:Bk}{k:Int}{s:List UInt8}(h:(j8 b k s).2≠0):xG (j8 b k s).1=xG b:=by
 unfold j8 at h ⊢;cases hp:parse s with
 |none=>rfl
 |some x =>
  obtain⟨w,nm,l⟩:=x;rw[hp]at h;simp only at h ⊢;rw[I6 h];rfl
def pO:List (List UInt8)→List Int→List (List UInt8)
 |s::l,e::r=>if e=0 then s::pO l r else pO l r
 |_,_=>[]
theorem JV:∀{l:List (List UInt8)} {r:List Int} {s:List UInt8},s∈pO l r→s∈l
 |[],_,s,h=>by simp[pO]at h
 |_::_,[],s,h=>by simp[pO]at h
 |x::l,e::r,s,h=>by
  simp only[pO]at h;split at h
  ·rcases bd.1 h with rfl | h
   ·simp
   ·exact List.mem_cons_of_mem _ (JV h)
  ·exact List.mem_cons_of_mem _ (JV h)
theorem JU:∀{l:List (List UInt8)} {r:List Int},(pO l r).length≤l.length
 |[],_=>by simp[pO]
 |_::_,[]=>by simp[pO]
 |x::l,e::r=>by
  have:=JU (l:=l) (r:=r);simp only[pO];split<;>simp<;>omega
theorem JW:∀{l:List (List UInt8)} {b c:Bk} {k k':Int},xG b=xG c →
  xG (lT c k' (pO l (lT b k l).2)).1=xG (lT b k l).1∧∀e∈(lT c k' (pO l (lT b k l).2)).2,e=0
 |[],b,c,k,k',h=>⟨h.symm,by simp[pO,lT]⟩
 |s::l,b,c,k,k',h=>by
  obtain⟨h1,h2⟩:=QP h k k' s;simp only[lT,pO];by_cases he:(j8 b k s).2=0
  ·rw[if_pos he];simp only[lT];have ih:=JW (l:=l) (k:=k+1) (k':=k'+1) h2;refine⟨ih.1,fun e h3=>?_⟩;rcases bd.1 h3 with rfl | h3
   ·rw[← h1];exact he
   ·exact ih.2 e h3
  ·rw[if_neg he];exact JW (l:=l) (k:=k+1) ((ag6 he).trans h)
end
section
open Go Go.Abs Go.Book
variable {σ:SK}
theorem Nd{l:List (List UInt8)}(hl:l.length≤1000000000)(hσ:σ≠[]):lim T (.call false nM [.aH l.length (l.flatMap cc)] σ)=some (.val (.aH l.length (l.flatMap cc)) σ):=by
 refine aw JQ wS.eq_1 rfl ?_;cases l with
 |nil=>simp[-length_flatMap,-map_take]
 |cons s r =>
  have hfl:((s::r).flatMap cc).length=(s::r).length:=by have:=bX (f:=cc) (w:=1) (fun _=>rfl) (s::r);omega
  have hne:¬(s::r).length=0:=by simp
  generalize s::r=l at hl hfl hne ⊢;have hr:l.length*16≤room:=by unfold room;omega
  have hk:=wG (n:=16) (f:=cc) (w:=1) (l:=l) (j:=1) (v:=0) (bs:=[.cells 0 [],.cells 0 (l.flatMap cc)]) (by decide) (fun _=>rfl) (fun _=>by simp[cc]) hσ (by simp);simp[-length_flatMap,-map_take,hfl,hne,hr];exact⟨_,hk⟩
theorem OK{l:List (List UInt8)}(hl:l.length≤1000000000):∀(m i:Nat),i+m=l.length →
  WL T [0,3] false sd [(0,.aH l.length (l.flatMap cc)),(3,.int .i64 i)] σ
   (fun x e σ'=>σ'=σ∧if sF (l.drop i) (fun s=>decide (4000<s.length))then x=.ret∧get e 2=.bool false else x=.exit 0∧get e 0=.aH l.length (l.flatMap cc))
 |0,i,hi=>by
  refine aM sd.eq_1 ?_;obtain rfl:i=l.length:=by omega
  have h2:l.drop l.length=[]:=aA (by omega);simp[-length_flatMap,-map_take,h2,sF]
 |m+1,i,hi=>by
  refine aM sd.eq_1 ?_;have h1:i<l.length:=by omega
  obtain⟨s,hs⟩:=gE h1;have a1:=bW (f:=cc) (w:=1) (fun _=>rfl) hs;simp only[cc,dM]at a1;have h4:=gN h1 (by omega);rw[cq hs];by_cases hc:4000<s.length
  ·have hc':(4000:Int)<s.length:=by omega
   simp[-length_flatMap,-map_take,EH,h1,a1,hc,hc',sF]
  ·have hc':¬(4000:Int)<s.length:=by omega
   simp[-length_flatMap,-map_take,EH,h1,a1,h4,hc',sF,hc];exact WL.to (OK hl m (i+1) (by omega)) (by simp) rfl fun x e σ' hh=>by simpa[sF,hc]using hh
theorem RG{l:List (List UInt8)}(hl:l.length≤1000000000):lim T (.call false sX [.aH l.length (l.flatMap cc)] σ)=some (.val (.bool (okB l)) σ):=by
 refine aw Io vB.eq_1 rfl ?_;simp[-length_flatMap,-map_take];refine WL.to (OK (σ:=[]::σ) hl l.length 0 (by omega)) (by simp) rfl ?_;rintro x e σ' ⟨rfl,hh⟩;rw[aO]at hh;cases hc:sF l (fun s=>decide (4000<s.length))
 ·rw[hc,if_neg (by simp)]at hh;obtain⟨rfl,g0⟩:=hh;by_cases h1:l.length≤100
  ·have h2:(l.length:Int)≤100:=by omega
   simp[-length_flatMap,-map_take,g0,okB,hc,h1,h2]
  ·have h2:¬(l.length:Int)≤100:=by omega
   simp[-length_flatMap,-map_take,g0,okB,hc,h1,h2]
 ·rw[hc,if_pos rfl]at hh;obtain⟨rfl,g2⟩:=hh;simp[g2,okB,hc]
end
section
open Go Go.Abs Go.Rock Go.Book
variable {σ:SK}
theorem Lf:∀{l:List (List UInt8)} {er:List Int} {i:Nat} {s:List UInt8} {e:Int},l[i]?=some s→er[i]?=some e →
  pO (l.take (i+1)) (er.take (i+1))=pO (l.take i) (er.take i)++(if e=0 then [s]else [])
 |[],er,i,s,e,h1,h2=>by simp at h1
 |_::_,[],i,s,e,h1,h2=>by simp at h2
 |x::l,y::er,0,s,e,h1,h2=>by
  simp at h1 h2;subst h1;subst h2;simp[pO]
 |x::l,y::er,i+1,s,e,h1,h2=>by
  have ih:=Lf (l:=l) (er:=er) (i:=i) (by simpa using h1) (by simpa using h2);simp only[List.take_succ_cons,pO]at ih ⊢;split
  ·rw[ih];rfl
  ·exact ih
theorem TF{lines:List (List UInt8)}{er:List Int}{A:List Abs.aE}(hl:lines.length≤100)(he:er.length=lines.length)(hA:A.length=8)(h7:A[7]?=some (.cells er.length (er.flatMap aY))):∀(m i:Nat) (acc:List (List UInt8)),i+m=lines.length→acc=pO (lines.take i) (er.take i) →
  WL T [0,7,20,21,22] false lC [(0,.aH lines.length (lines.flatMap cc)),(7,.sl σ.length 8 acc.length 0 acc.length 1),(20,.sl σ.length 7 er.length 0 er.length 1),(21,.int .i64 er.length),(22,.int .i64 i)] ((A++[.cells acc.length (acc.flatMap cc)])::σ)
   (fun x e σ'=>∃acc,acc=pO lines er∧x=.exit 0∧get e 7=.sl σ.length 8 acc.length 0 acc.length 1∧σ'=(A++[.cells acc.length (acc.flatMap cc)])::σ)
 |0,i,acc,hi,ha=>by
  refine aM lC.eq_1 ?_;obtain rfl:i=lines.length:=by omega
  rw[List.take_length,← he,List.take_length]at ha;subst ha;simp[-length_flatMap,-map_take,he]
 |m+1,i,acc,hi,ha=>by
  refine aM lC.eq_1 ?_;have h1:i<lines.length:=by omega
  have h1':i<er.length:=by omega
  obtain⟨s,hs⟩:=gE h1;obtain⟨e,hee⟩:=gE h1';have a1:=bW (f:=cc) (w:=1) (fun _=>rfl) hs;have a2:=bW (f:=aY) (w:=1) (fun _=>rfl) hee;simp only[cc,aY,dM]at a1 a2;have hdr:=BA (f:=aY) (w:=1) (fun _=>rfl) hee;simp only[dM,aY,cG]at hdr;have h4:=gN h1 (by omega);have hsn:=Lf hs hee;have hal:=JU (l:=lines.take i) (r:=er.take i);rw[← ha]at hal hsn;have hal2:acc.length≤100:=by simp at hal;omega
  have hfl:=bX (f:=cc) (w:=1) (fun _=>rfl) acc;have tk:(acc.flatMap cc).take acc.length=acc.flatMap cc:=ai (by omega);have hr:(acc.length+1)*16≤room:=by unfold room;omega
  have hq:acc.length≤(acc.flatMap cc).length:=by omega
  have hg:(A++[Abs.aE.cells acc.length (acc.flatMap cc)])[8]?=some (.cells acc.length (acc.flatMap cc)):=by rw[List.getElem?_append_right (by omega),hA];rfl
  have hg7:(A++[Abs.aE.cells acc.length (acc.flatMap cc)])[7]?=some (.cells er.length (er.flatMap aY)):=by rw[de (by omega),h7]
  have hst:∀x:Abs.aE,(A++[Abs.aE.cells acc.length (acc.flatMap cc)]).set 8 x=A++[x]:=fun x=>by rw[List.set_append_right _ _ (by omega),hA];rfl
  by_cases hc:e=0
  ·subst hc;rw[if_pos rfl]at hsn;simp[-length_flatMap,-map_take,h1,h1',a1,a2,hdr,h4,hg,hg7,hst,hr,hq,tk];have ih:=TF hl he hA h7 m (i+1) (acc++[s]) (by omega) hsn.symm;have e1:((i+1:Nat):Int)=(i:Int)+1:=by omega
   rw[e1]at ih;exact WL.to ih (by simp) (by simp) fun x e σ' hh=>by simpa using hh
  ·rw[if_neg hc,eE]at hsn;simp[-length_flatMap,-map_take,h1,h1',a1,a2,hdr,h4,hg,hg7,hc];have ih:=TF hl he hA h7 m (i+1) acc (by omega) hsn.symm;have e1:((i+1:Nat):Int)=(i:Int)+1:=by omega
   rw[e1]at ih;exact WL.to ih (by rfl) (by rfl) fun x e σ' hh=>by simpa using hh
theorem M4{lines:List (List UInt8)}(hl:HO lines)(hσ:σ≠[]):lim T (.call false mq [.aH lines.length (lines.flatMap cc)] σ) =
  some (.val (.dV [.aH (pO lines (oW lines).2).length ((pO lines (oW lines).2).flatMap cc),.int .i64 0]) σ):=by
 refine aw CV pf.eq_1 rfl ?_;have hC:=fun S=>GL (σ:=S) (l:=lines) (by have:=hl.1;omega)
 have hok:okB lines=true:=En.2 hl;simp only[hok,if_true]at hC;have hR:=anj (σ:=σ) (lines:=lines) hl;have hlen:(oW lines).2.length=lines.length:=Fw;generalize oW lines=r at hR hlen ⊢;obtain⟨b,er⟩:=r;simp only at hR hlen ⊢;have hL:=TF (σ:=σ) (A:=b.bj σ.length er) hl.1 hlen rfl rfl lines.length 0 [] (by omega) (by simp[pO]);have hsl:(b.bj σ.length er).length=8:=rfl;simp[-length_flatMap,-map_take,hC,hR,hsl];refine WL.to hL (by simp[hlen]) (by simp) ?_;rintro x e σ' ⟨acc,rfl,rfl,g7,rfl⟩;simp[-length_flatMap,-map_take,g7];exact⟨_,LQ (wG (n:=15) (f:=cc) (w:=1) (l:=pO lines er) (by decide) (fun _=>rfl) (fun _=>by simp[cc]) hσ (by simp[Bk.bj]))⟩
theorem KU{s t:List UInt8}:lim T (.call false mo [.str s,.str t] σ)=some (.val (.bool (decide (t.length≤s.length) && (s.take t.length == t))) σ):=by
 refine aw G4 ui.eq_1 rfl ?_;by_cases h:t.length≤s.length
 ·have h':(t.length:Int)≤s.length:=by omega
  simp[-length_flatMap,-map_take,EH,h,h']
 ·have h':¬(t.length:Int)≤s.length:=by omega
  simp[-length_flatMap,-map_take,EH,h,h']
theorem ahY{l:List (List UInt8)}(hl:l.length≤9223372036854775807):∀(m i:Nat) (x y z:Int),i+m=l.length →
  WL T [0,3,4,5,6] false tf [(0,.aH l.length (l.flatMap cc)),(3,.int .i64 x),(4,.int .i64 y),(5,.int .i64 z),(6,.int .i64 i)] σ
   (fun x e σ'=>σ'=σ∧x=.exit 0∧get e 0=.aH l.length (l.flatMap cc)∧∃u v w,get e 3=.int .i64 u∧get e 4=.int .i64 v∧get e 5=.int .i64 w)
 |0,i,x,y,z,hi=>by
  refine aM tf.eq_1 ?_;have h1:¬i<l.length:=by omega
  simp[-length_flatMap,-map_take,h1]
 |m+1,i,x,y,z,hi=>by
  refine aM tf.eq_1 ?_;have h1:i<l.length:=by omega
  obtain⟨s,hs⟩:=gE h1;have a1:=bW (f:=cc) (w:=1) (fun _=>rfl) hs;simp only[cc,dM]at a1;have h4:=gN h1 (by omega);have hB:=fun t σ=>@KU σ s t
  have e1:((i+1:Nat):Int)=(i:Int)+1:=by omega
  have ih:=fun x y z=>ahY hl m (i+1) x y z (by omega)
  rw[e1]at ih;rw[e1]at h4;generalize hv:(fun t:List UInt8=>decide (t.length≤s.length) && (s.take t.length == t))=v at hB;have hB':∀t σ,lim T (.call false mo [.str s,.str t] σ)=some (.val (.bool (v t)) σ):=fun t σ=>by rw[← hv];exact KU
  cases c1:v [109,111,100,101,108]<;>cases c2:v [116,105,99,107]<;>simp[-length_flatMap,-map_take,EH,h1,a1,h4,hB',c1,c2]<;>
   exact WL.to (ih _ _ _) rfl rfl fun x e σ' hh=>by simpa using hh
theorem ats{l:List (List UInt8)}(hl:l.length≤9223372036854775807)(σ:SK):∃v,lim T (.call false vT [.aH l.length (l.flatMap cc)] σ)=some (.val (.bool v) σ)∧(v=true→l.length≤103):=by
 obtain⟨x,e,σ',h1,rfl,rfl,g0,u,v,w,g3,g4,g5⟩:=ahY (σ:=[]::σ) hl l.length 0 0 0 0 (by omega);refine⟨decide (v≤4) && (decide (w≤8) && (decide (u≤5000) && (decide ((l.length:Int)≤40) || (decide (u≤400) && decide ((l.length:Int)≤103))))),?_,fun h=>by simp only[af,ck,au]at h;omega⟩;refine aw Lc yh.eq_1 rfl ?_;simp[-length_flatMap,-map_take];refine⟨_,_,_,by simpa using h1,?_⟩;by_cases c1:v≤4<;>by_cases c2:w≤8<;>by_cases c3:u≤5000<;>by_cases c4:(l.length:Int)≤40<;>by_cases c5:u≤400<;>by_cases c6:(l.length:Int)≤103<;>
  simp[-length_flatMap,-map_take,g0,g3,g4,g5,c1,c2,c3,c4,c5,c6]
end
end Go.Proofs.YtfgljaglidhjiaaGreatDoor
namespace Go.Book
open List(length_flatMap map_take)
open Go Go.Abs
theorem F7:∀{s:List UInt8} {n m:Nat},n<65521→m<65521→uQ n s=uQ m s→n=m
 |[],n,m,hn,hm,h=>h
 |c::s,n,m,hn,hm,h=>by
  have:=F7 (s:=s) (Nat.mod_lt _ (by omega)) (Nat.mod_lt _ (by omega)) h;omega
theorem F8:∀{s:List UInt8} {n j:Nat} {v c:UInt8},n<65521→s[j]?=some c→v≠c→uQ n (s.set j v)≠uQ n s
 |[],n,j,v,c,hn,hc,hv=>by simp at hc
 |d::s,n,0,v,c,hn,hc,hv=>by
  intro h;simp at hc;subst hc;have h1:=F7 (s:=s) (Nat.mod_lt _ (by omega)) (Nat.mod_lt _ (by omega)) h;have h2:=v.toNat_lt;have h3:=d.toNat_lt;exact hv (UInt8.toNat_inj.1 (by omega))
 |d::s,n,j+1,v,c,hn,hc,hv=>by
  have:=F8 (s:=s) (n:=(31*n+d.toNat)%65521) (j:=j) (v:=v) (c:=c) (Nat.mod_lt _ (by omega)) (by simpa using hc) hv;simpa[uQ]using this
theorem ya{a b:Nat}(ha:a<256)(hb:b<256)(h:FQ a=FQ b):a=b:=by
 rw[← vq ha,← vq hb,h]
theorem Mr{s r:List UInt8}:(l6 s++r)[0]?=some (FQ (s.length / 256)):=rfl
theorem rec_1{s r:List UInt8}:(l6 s++r)[1]?=some (FQ (s.length%256)):=rfl
theorem rec_2{s r:List UInt8}:(l6 s++r)[2]?=some (FQ (255-s.length / 256)):=rfl
theorem rec_3{s r:List UInt8}:(l6 s++r)[3]?=some (FQ (255-s.length%256)):=rfl
theorem JD{b:List UInt8}(h:∀s r,s.length≤4000→b≠l6 s++r):wJ b=none:=by
 cases hb:wJ b with
 |none=>rfl
 |some x=>exact absurd (DC (s:=x.1) (r:=x.2) hb).1 (h _ _ (DC (s:=x.1) (r:=x.2) hb).2)
theorem JB{s r:List UInt8}{k:Nat}(hs:s.length≤4000)(hk:k<s.length+6):wJ ((l6 s++r).take k)=none:=by
 refine JD fun s' r' hs' h=>?_
 have hl:=congrArg List.length h;simp only[jC,bC,qq]at hl;have h0:=congrArg (fun l:List UInt8=>l[0]?) h;have h1:=congrArg (fun l:List UInt8=>l[1]?) h;simp only[Mr,rec_1]at h0 h1;rw[List.getElem?_take_of_lt (by omega),Mr]at h0;rw[List.getElem?_take_of_lt (by omega),rec_1]at h1;have e0:=ya (by omega) (by omega) (Option.some.inj h0);have e1:=ya (by omega) (by omega) (Option.some.inj h1);omega
theorem SN{s r:List UInt8}{j:Nat}{v c:UInt8}(hs:s.length≤4000)(hj:j<s.length+6)(hc:(l6 s++r)[j]?=some c)(hv:v≠c):wJ ((l6 s++r).set j v)=none:=by
 refine JD fun s' r' hs' h=>?_
 have hl:=congrArg List.length h;simp only[List.length_set,bC,qq]at hl;have h0:=congrArg (fun l:List UInt8=>l[0]?) h;have h1:=congrArg (fun l:List UInt8=>l[1]?) h;have h2:=congrArg (fun l:List UInt8=>l[2]?) h;have h3:=congrArg (fun l:List UInt8=>l[3]?) h;simp only[Mr,rec_1,rec_2,rec_3]at h0 h1 h2 h3;have hat:∀i,i≠j→((l6 s++r).set j v)[i]?=(l6 s++r)[i]?:=fun i hi=>List.getElem?_set_ne (Ne.symm hi)
 have hjj:((l6 s++r).set j v)[j]?=some v:=List.getElem?_set_self (by simp[qq];omega);by_cases j0:j=0
 ·subst j0;rw[hjj]at h0;rw[hat 2 (by omega),rec_2]at h2;rw[Mr]at hc;have e2:=ya (by omega) (by omega) (Option.some.inj h2);have:s.length / 256=s'.length / 256:=by omega
  rw[this]at hc;exact hv (Option.some.inj (h0.trans hc))
 by_cases j1:j=1
 ·subst j1;rw[hjj]at h1;rw[hat 3 (by omega),rec_3]at h3;rw[rec_1]at hc;have e2:=ya (by omega) (by omega) (Option.some.inj h3);have:s.length%256=s'.length%256:=by omega
  rw[this]at hc;exact hv (Option.some.inj (h1.trans hc))
 rw[hat 0 (by omega),Mr]at h0;rw[hat 1 (by omega),rec_1]at h1;have e0:=ya (by omega) (by omega) (Option.some.inj h0);have e1:=ya (by omega) (by omega) (Option.some.inj h1);have en:s'.length=s.length:=by omega
 by_cases j2:j=2
 ·subst j2;rw[hjj]at h2;rw[rec_2]at hc;rw[en]at h2;exact hv (Option.some.inj (h2.trans hc))
 by_cases j3:j=3
 ·subst j3;rw[hjj]at h3;rw[rec_3]at hc;rw[en]at h3;exact hv (Option.some.inj (h3.trans hc))
 obtain⟨i,rfl⟩:∃i,j=i+4:=⟨j-4,by omega⟩;have hd:=congrArg (List.drop 4) h;have dr:∀x y:List UInt8,(l6 x++y).drop 4=x++(EC x++y):=fun x y=>by
  simp only[l6,dX];rw[show(4:Nat)=(L4 x.length).length from rfl,List.drop_left]
 have hcd:(s++(EC s++r))[i]?=some c:=by rw[← dr,fx,Nat.add_comm 4 i];exact hc
 have hsd:((l6 s++r).set (i+4) v).drop 4=(s++(EC s++r)).set i v:=by
  rw[List.drop_set,if_neg (by omega),dr,Nat.add_sub_cancel]
 rw[hsd,dr]at hd;by_cases hi:i<s.length
 ·rw[List.set_append_left _ _ hi]at hd;obtain⟨a1,a2⟩:=List.append_inj hd (by simp[en]);obtain⟨a3,a4⟩:=List.append_inj a2 rfl;rw[de hi]at hcd;have hne:=F8 (n:=1) (by omega) hcd hv;have b1:=KJ (s:=s);have b2:=KJ (s:=s');simp only[EC,gO,and_true]at a3;have c1:=ya (by omega) (by omega) a3.1;have c2:=ya (by omega) (by omega) a3.2;have c3:Gu s'=Gu s:=by omega
  rw[← a1]at c3;exact hne c3
 ·rw[List.set_append_right _ _ (by omega)]at hd;obtain⟨a1,a2⟩:=List.append_inj hd (by simp[en]);subst a1;rw[List.getElem?_append_right (by omega)]at hcd;have hq:i-s.length<(EC s).length:=by simp[EC];omega
  have h4:=congrArg (fun l:List UInt8=>l[i-s.length]?) a2;rw[List.getElem?_set_self (by simp;omega),de hq]at h4;rw[de hq]at hcd;exact hv (Option.some.inj (h4.trans hcd))
theorem Dv{t:List UInt8}(ht:wJ t=none):∀{l:List (List UInt8)} {n:Nat},l.length≤n→(∀s∈l,s.length≤4000)→eH n (du l++t)=l
 |[],n,_,_=>by
  cases n with
  |zero=>rfl
  |succ n=>simp[du,eH,ht]
 |s::l,n,hn,hs=>by
  obtain⟨n,rfl⟩:∃m,n=m+1:=⟨n-1,by simp at hn;omega⟩;simp only[du,aS,eH,dX];rw[JC (hs s (by simp))];simp only;rw[← du,Dv ht (l:=l) (by simpa using hn) (fun x hx=>hs x (by simp[hx]))]
theorem Dh(s:List UInt8)(l:List (List UInt8)):du (s::l)=l6 s++du l:=rfl
theorem I0(a b:List (List UInt8)):du (a++b)=du a++du b:=gh ..
theorem Nw{l:List (List UInt8)}{n:Nat}{s:List UInt8}(h:l[n]?=some s):du l=du (l.take n)++(l6 s++du (l.drop (n+1))):=by
 have h1:l=l.take n++s::l.drop (n+1):=by
  obtain⟨hn,he⟩:=aB.1 h;rw[← he,List.getElem_cons_drop,List.take_append_drop]
 conv=>lhs;rw[h1]
 rw[I0,Dh]
theorem RR{l:List (List UInt8)}{n:Nat}{s:List UInt8}(h:l[n]?=some s):(du (l.take (n+1))).length=(du (l.take n)).length+(s.length+6):=by
 rw[List.take_add_one,h,I0];simp[du,qq]
theorem stops{l:List (List UInt8)}{n cut:Nat}(hl:l.length≤100)(h4:∀s∈l,s.length≤4000)(hn:n<l.length)(h1:(du (l.take n)).length≤cut)(h2:cut<(du (l.take (n+1))).length):
  eH 100 ((du l).take cut)=l.take n∧∀v c,(du l)[cut]?=some c→v≠c→eH 100 ((du l).set cut v)=l.take n:=by
 obtain⟨s,hs⟩:=gE hn;have hsm:=h4 s (aj hs);rw[RR hs]at h2;rw[Nw hs];have ht:∀x∈l.take n,x.length≤4000:=fun x hx=>h4 x (dq hx)
 have htl:(l.take n).length≤100:=by simp;omega
 constructor
 ·rw[List.take_append,ai h1];exact Dv (JB hsm (by omega)) htl ht
 ·intro v c hc hv;rw[List.set_append_right _ _ h1];rw[List.getElem?_append_right h1]at hc;exact Dv (SN hsm (by omega) hc hv) htl ht
end Go.Book
namespace Go.Proofs.YtfgljaglidhjiaaGreatDoor
open List(length_flatMap map_take)
open Go Go.Rock Go.Book
def QD:Bk→List (List UInt8)→List (List UInt8)→Bk×List (List UInt8)
 |b,ls,[]=>(b,ls)
 |b,ls,s::m=>if(j8 b ls.length s).2=0 then QD (j8 b ls.length s).1 (ls++[s]) m else QD (j8 b ls.length s).1 ls m
theorem go_acc:∀{m ls:List (List UInt8)} {b c:Bk} {k:Int},xG b=xG c→(QD b ls m).2=ls++pO m (lT c k m).2
 |[],ls,b,c,k,h=>by simp[QD,pO]
 |s::m,ls,b,c,k,h=>by
  obtain⟨h1,h2⟩:=QP h ls.length k s;have ih:=fun ls=>go_acc (m:=m) (ls:=ls) (k:=k+1) h2
  simp only[QD,lT,pO,h1];split
  ·rw[ih];simp
  ·rw[ih]
theorem OR:∀{l:List (List UInt8)} {r:List Int},(∀e∈r,e=0)→r.length=l.length→pO l r=l
 |[],[],_,_=>rfl
 |s::l,e::r,h,hl=>by
  simp only[pO];rw[if_pos (h e (by simp)),OR (fun x hx=>h x (by simp[hx])) (by simpa using hl)]
theorem Q9:∀{a c:List (List UInt8)} {b:Bk} {k:Int},(lT b k (a++c)).2=(lT b k a).2++(lT (lT b k a).1 (k+a.length) c).2
 |[],c,b,k=>by simp[lT]
 |s::a,c,b,k=>by
  simp only[fP,lT,aG];rw[Q9 (a:=a)];rw[show k+1+(a.length:Int)=k+((a.length+1:Nat):Int)by omega]
theorem arj{l:List (List UInt8)}:(QD o6 [] l).2=pO l (oW l).2:=by
 rw[go_acc (c:=o6) (k:=0) rfl];rfl
theorem agT{l:List (List UInt8)}{n:Nat}:(QD (oW ((pO l (oW l).2).take n)).1 ((pO l (oW l).2).take n) ((pO l (oW l).2).drop n)).2=pO l (oW l).2:=by
 have h0:=(JW (l:=l) (b:=o6) (c:=o6) (k:=0) (k':=0) rfl).2;generalize hq:pO l (oW l).2=q;rw[show(lT o6 0 l).2=(oW l).2 from rfl,hq]at h0;have h1:=Q9 (a:=q.take n) (c:=q.drop n) (b:=o6) (k:=0);rw[List.take_append_drop]at h1;rw[h1]at h0;rw[go_acc (c:=(oW (q.take n)).1) (k:=0+(q.take n).length) rfl,OR (fun e he=>h0 e (by simp only[ba];exact .inr he)) Fw,List.take_append_drop]
theorem Lu:∀{q:List (List UInt8)} {m cut:Nat},q.length≤m→(∀s∈q,s.length≤4000)→∃n,n≤q.length∧eH m ((du q).take cut)=q.take n
 |[],m,cut,_,_=>by
  refine⟨0,by simp,?_⟩;have h:wJ []=none:=rfl;cases m<;>simp[du,eH,h]
 |s::q,m+1,cut,hm,h4=>by
  have hs:=h4 s (by simp);rw[Dh];by_cases hc:cut<s.length+6
  ·refine⟨0,by simp,?_⟩;simp[eH,JB (r:=du q) hs hc]
  ·obtain⟨n,h1,h2⟩:=Lu (q:=q) (m:=m) (cut:=cut-(s.length+6)) (by simpa using hm) fun x hx=>h4 x (by simp[hx])
   refine⟨n+1,by simp;omega,?_⟩;rw[List.take_append,ai (by rw[qq];omega),qq];simp[eH,JC hs,h2]
theorem Lk:∀{l:List (List UInt8)},(∀s∈l,s.length≤4000)→(du l).length≤l.length*4006
 |[],_=>by simp[du]
 |s::l,h=>by
  have h1:=Lk (l:=l) fun x hx=>h x (by simp[hx])
  have h2:=h s (by simp);rw[Dh,bC,qq,aG];omega
theorem Ms:∀{n:Nat} {b s:List UInt8},s∈eH n b→s.length≤4000
 |0,b,s,h=>by simp[eH]at h
 |n+1,b,s,h=>by
  unfold eH at h;split at h
  ·rename_i t r h1;rcases bd.1 h with rfl | h
   ·exact(DC h1).2
   ·exact Ms h
  ·simp at h
end Go.Proofs.YtfgljaglidhjiaaGreatDoor
namespace Go.Proofs.YtfgljaglidhjiaaGreatDoor
open List(length_flatMap map_take)
open Go Go.Abs Go.Rock Go.Book
variable {σ:SK}
theorem Nk:lim T (.call false kI [.aK] σ)=some (.val (.fn eQ [] [.bB [.aK]]) σ):=by
 refine aw xX nz.eq_1 rfl ?_;simp[-length_flatMap,-map_take]
theorem agq:WL T [0,1,3] false fU [(0,.l7 σ.length 3),(1,.bB [.aK]),(3,.int .i64 0)] ([]::DB σ [] 0 false)
   (fun x e σ'=>x=.exit 0∧σ'=[]::DB σ [] 0 false):=by
 refine aM fU.eq_1 ?_;simp[-length_flatMap,-map_take]
theorem K4:lim T (.call false eQ [.l7 σ.length 3,.bB [.aK]] (DB σ [] 0 false))=some (.val (.dV []) (DB σ [] 0 false)):=by
 refine fQ wE la.eq_1 rfl (by simp[DB]) ?_;simp[-length_flatMap,-map_take];refine WL.to agq (by simp) rfl ?_;rintro x e σ' ⟨rfl,rfl⟩;simp[-length_flatMap,-map_take]
def stK(σ:SK)(ls:List (List UInt8))(w:Int)(p:Bool):List Abs.aE :=
 [.cells ls.length (ls.flatMap cc),.cells 0 [.sl σ.length 0 ls.length 0 ls.length 1],.cells 0 [.int .i64 w],.loop {Ib σ.length p with state:=3 }]
theorem M6{b:List UInt8}{d:D}(hd:d=.aH b.length (b.flatMap bE)∨d=.aK∧b=[])(hb:b.length≤1000000):
  ∃p,lim T (.call true iL [d] ([]::σ))=some (.val (.dV [.sl σ.length 0 (eH 100 b).length 0 (eH 100 b).length 1,.int .i64 ((du (eH 100 b)).length:Nat)])
   (stK σ (eH 100 b) (du (eH 100 b)).length p::σ)):=by
 rcases hd with rfl | ⟨rfl,rfl⟩
 ·have hR:=fun σ=>IS (σ:=σ) (b:=b)
  obtain⟨p,h1⟩:=GR (σ:=σ) hb;refine⟨p,tc uc ku.eq_1 rfl ?_⟩;simp[-length_flatMap,-map_take,hR,I1];refine DU (d:=.dV []) (σ2:=DB σ (eH 100 b) (du (eH 100 b)).length p) (lp:=Ib σ.length p) (by simp;exact⟨rfl,rfl,rfl⟩) ?_ (by simp[DB]) (by cases p<;>simp[Ib]) ?_
  ·simpa[DB,Ib]using h1
  ·cases p<;>simp[-length_flatMap,-map_take,DB,Ib,stK]
 ·have hR:=fun σ=>Nk (σ:=σ)
  have h1:=K4 (σ:=σ);have hr:eH 100 []=[]:=rfl;refine⟨false,tc uc ku.eq_1 rfl ?_⟩;simp[-length_flatMap,-map_take,hR];refine DU (d:=.dV []) (σ2:=DB σ [] 0 false) (lp:=Ib σ.length false) (by simp;exact⟨rfl,rfl,rfl⟩) ?_ (by simp[DB]) (by simp[Ib]) ?_
  ·simpa[DB,Ib]using h1
  ·simp[-length_flatMap,-map_take,DB,Ib,stK,hr,du]
theorem TN{lines:List (List UInt8)}{A:List Abs.aE}(hA:A[0]?=some (.cells lines.length (lines.flatMap cc)))(hl:okL lines):∀(m i:Nat) (b:Bk) (er:List Int),i+m=lines.length→er.length=i→Kv i b →
  WL T [4,5,12,13,14] false jE [(4,.ref (σ.length+1) 6 0 0),(5,.sl (σ.length+1) 7 i 0 i 1),(12,.sl σ.length 0 lines.length 0 lines.length 1),(13,.int .i64 lines.length),(14,.int .i64 i)] (b.bj (σ.length+1) er::A::σ)
   (fun x e σ'=>x=.exit 0∧get e 4=.ref (σ.length+1) 6 0 0∧get e 5=.sl (σ.length+1) 7 lines.length 0 lines.length 1∧σ'=(lT b i (lines.drop i)).1.bj (σ.length+1) (er++(lT b i (lines.drop i)).2)::A::σ)
 |0,i,b,er,hi,he,hK=>by
  refine aM jE.eq_1 ?_;obtain rfl:i=lines.length:=by omega
  have h2:lines.drop lines.length=[]:=aA (by omega);simp[-length_flatMap,-map_take,h2,lT]
 |m+1,i,b,er,hi,he,hK=>by
  refine aM jE.eq_1 ?_;have h1:i<lines.length:=by omega
  obtain⟨s,hs⟩:=gE h1;have hdr:=BA (f:=cc) (w:=1) (fun _=>rfl) hs;simp only[dM,cc,cG]at hdr;have h4:=gN h1 (by have:=hl.1;omega);have hsl:=hl.2 s (aj hs);have hn:=hl.1;have hC:=Nc (σ:=A::σ) (b:=b) (er:=er) (s:=s) (k:=i) hK (by omega) hsl;have hK':=hK.line hsl (k:=i);rw[cq hs];simp only[lT];generalize j8 b i s=r at hC hK' ⊢;obtain⟨b',e⟩:=r;have ih:=TN hA hl m (i+1) b' (er++[e]) (by omega) (by simp[he]) hK';have hel:=zx er;have het:(er.flatMap aY).take i=er.flatMap aY:=ai (by omega);have hr:(i+1)*8≤room:=by unfold room;omega
  simp only[Bk.bj,Bk.cells,he,aG]at hC;simp[-length_flatMap,-map_take,h1,hA,hdr,h4,hC,Bk.bj,Bk.cells,hr,hel,het,he];refine WL.to ih (by simp) (by simp[Bk.bj,Bk.cells,he]) fun x e' σ' hh=>?_
  have e1:((i+1:Nat):Int)=(i:Int)+1:=by omega
  rw[e1]at hh;simpa[Bk.bj,Bk.cells]using hh
theorem ank{lines:List (List UInt8)}{A:List Abs.aE}(hA:A[0]?=some (.cells lines.length (lines.flatMap cc)))(hl:okL lines):lim T (.call true gL [.sl σ.length 0 lines.length 0 lines.length 1] ([]::A::σ)) =
  some (.val (.dV [.ref (σ.length+1) 6 0 0,.sl (σ.length+1) 7 lines.length 0 lines.length 1]) ((oW lines).1.bj (σ.length+1) (oW lines).2::A::σ)):=by
 refine tc CF sN.eq_1 rfl ?_;have hL:=TN (σ:=σ) hA hl lines.length 0 o6 [] (by omega) rfl Kv.zero;rw[aO]at hL;simp[-length_flatMap,-map_take];refine WL.to hL (by simp) (by simp[Bk.bj,Bk.cells,o6,nl]) ?_;rintro x e σ' ⟨rfl,g4,g5,rfl⟩;simp[-length_flatMap,-map_take,g4,g5,oW]
def stM(ls:List (List UInt8))(R:List Abs.aE):List Abs.aE:=.cells ls.length (ls.flatMap cc)::R
theorem GX{lines:List (List UInt8)}{er:List Int}{R:List Abs.aE}(hl:∀s∈lines,s.length≤4000)(hn:lines.length≤100):∀(m i n:Nat) (b:Bk) (ls:List (List UInt8)),i+m=lines.length→Kv n b→n+m≤200→ls.length+m≤100 →
  WL T [7,9,28,29,30] false nu [(7,.sl σ.length 0 ls.length 0 ls.length 1),(9,.ref (σ.length+1) 6 0 0),(28,.aH lines.length (lines.flatMap cc)),(29,.int .i64 lines.length),(30,.int .i64 i)] (b.bj (σ.length+1) er::stM ls R::σ)
   (fun x e σ'=>∃q,q=QD b ls (lines.drop i)∧x=.exit 0∧q.2.length≤ls.length+m∧get e 7=.sl σ.length 0 q.2.length 0 q.2.length 1∧σ'=q.1.bj (σ.length+1) er::stM q.2 R::σ)
 |0,i,n,b,ls,hi,hK,hn1,hn2=>by
  refine aM nu.eq_1 ?_;obtain rfl:i=lines.length:=by omega
  have h2:lines.drop lines.length=[]:=aA (by omega);simp[-length_flatMap,-map_take,h2,QD]
 |m+1,i,n,b,ls,hi,hK,hn1,hn2=>by
  refine aM nu.eq_1 ?_;have h1:i<lines.length:=by omega
  obtain⟨s,hs⟩:=gE h1;have a1:=bW (f:=cc) (w:=1) (fun _=>rfl) hs;simp only[cc,dM]at a1;have h4:=gN h1 (by omega);have hsl:=hl s (aj hs);have hC:=Nc (σ:=stM ls R::σ) (b:=b) (er:=er) (s:=s) (k:=ls.length) hK (by omega) hsl;have hK':=hK.line hsl (k:=ls.length);rw[cq hs];simp only[QD];generalize j8 b ls.length s=r at hC hK' ⊢;obtain⟨b',e⟩:=r;have hfl:=bX (f:=cc) (w:=1) (fun _=>rfl) ls;have tk:(ls.flatMap cc).take ls.length=ls.flatMap cc:=ai (by omega);have hr:(ls.length+1)*16≤room:=by unfold room;omega
  have hq:ls.length≤(ls.flatMap cc).length:=by omega
  have e1:((i+1:Nat):Int)=(i:Int)+1:=by omega
  simp only[Bk.bj,Bk.cells,aG,stM]at hC;by_cases hc:e=0
  ·subst hc;have ih:=GX (er:=er) (R:=R) hl hn m (i+1) (n+1) b' (ls++[s]) (by omega) hK' (by omega) (by simp;omega);rw[e1]at ih;simp only[if_true];simp[-length_flatMap,-map_take,h1,a1,h4,hC,Bk.bj,Bk.cells,stM,hr,hq,tk];refine WL.to ih (by simp) (by simp[Bk.bj,Bk.cells,stM,cc]) fun x e' σ' hh=>?_
   obtain⟨q,h1,h2,h3,h4,h5⟩:=hh;refine⟨q,h1,h2,by simp at h3;omega,h4,?_⟩;simpa[Bk.bj,Bk.cells,stM]using h5
  ·have ih:=GX (er:=er) (R:=R) hl hn m (i+1) (n+1) b' ls (by omega) hK' (by omega) (by omega);rw[e1]at ih;rw[if_neg hc];simp[-length_flatMap,-map_take,h1,a1,h4,hC,Bk.bj,Bk.cells,stM,hc];refine WL.to ih (by simp) (by simp[Bk.bj,Bk.cells,stM]) fun x e' σ' hh=>?_
   obtain⟨q,h1,h2,h3,h4,h5⟩:=hh;refine⟨q,h1,h2,by omega,h4,?_⟩;simpa[Bk.bj,Bk.cells,stM]using h5
theorem agO{qs:List (List UInt8)}{A R:List Abs.aE}(hσ:σ≠[]):cJ 0 16 (.sl σ.length 0 qs.length 0 qs.length 1) (A::stM qs R::σ)=(.aH qs.length (qs.flatMap cc),A::(.dead::R)::σ):=by
 have h:=aT.2 hσ;have hfl:=bX (f:=cc) (w:=1) (fun _=>rfl) qs;rw[NK h (cs:=qs.flatMap cc) (by simp[stM])];rw[aO,ai (by omega),NI (iU (f:=cc) (fun _=>by simp[cc,D.clean]) qs) (by omega)];simp[stM]
theorem NM:∀{m ls:List (List UInt8)} {b:Bk} {s:List UInt8},s∈(QD b ls m).2→s∈ls∨s∈m
 |[],ls,b,s,h => .inl h
 |x::m,ls,b,s,h=>by
  simp only[QD]at h;split at h
  ·rcases NM h with h | h
   ·rcases ba.1 h with h | h
    ·exact .inl h
    ·simp only[List.mem_singleton]at h;exact .inr (by simp[h])
   ·exact .inr (by simp[h])
  ·rcases NM h with h | h
   ·exact .inl h
   ·exact .inr (by simp[h])
theorem KT{lines:List (List UInt8)}{b:List UInt8}{d:D}(hd:d=.aH b.length (b.flatMap bE)∨d=.aK∧b=[])(hb:b.length≤1000000)(hk:HO lines)(hn:(eH 100 b).length+lines.length≤100)(hσ:σ≠[]):
  lim T (.call false lX [d,.aH lines.length (lines.flatMap cc)] σ) =
   some (.val (.dV [.aH (du (QD (oW (eH 100 b)).1 (eH 100 b) lines).2).length ((du (QD (oW (eH 100 b)).1 (eH 100 b) lines).2).flatMap bE),.int .i64 0]) σ):=by
 refine aw EM rY.eq_1 rfl ?_;have hC:=fun S=>GL (σ:=S) (l:=lines) (by have:=hk.1;omega)
 have hok:okB lines=true:=En.2 hk;simp only[hok,if_true]at hC;have h4:∀s∈eH 100 b,s.length≤4000:=fun s hs=>Ms hs
 have hg:okL (eH 100 b):=⟨by omega,h4⟩;obtain⟨p,hR⟩:=M6 (σ:=σ) hd hb;have hRun:=ank (σ:=σ) (A:=stK σ (eH 100 b) (du (eH 100 b)).length p) rfl hg;have hKv:Kv (eH 100 b).length (oW (eH 100 b)).1:=by
  have:=Mz (l:=eH 100 b) (k:=0) Kv.zero h4;simpa[oW]using this
 generalize eH 100 b=ls at *
 generalize oW ls=r at *
 obtain⟨c,er⟩:=r;simp only at hKv hRun ⊢;have hL:=GX (σ:=σ) (er:=er) (R:=(stK σ ls (du ls).length p).tail) hk.2 hk.1 lines.length 0 ls.length c ls (by omega) hKv (by omega) hn;rw[aO]at hL;rcases hd with rfl | ⟨rfl,rfl⟩
 all_goals
  simp[-length_flatMap,-map_take,hC,hR,hRun,I1];refine WL.to hL (by simp) (by simp[stM,stK]) ?_;rintro x e σ' ⟨q,hq,rfl,hql,g7,rfl⟩;rw[← hq];obtain⟨c',qs⟩:=q;have hok:HO qs:=⟨by simp at hql;omega,fun s hs=>(NM (b:=c) (ls:=ls) (m:=lines) (by rw[← hq];exact hs)).elim (h4 s) (hk.2 s)⟩;have hf:=agO (qs:=qs) (A:=c'.bj (σ.length+1) er) (R:=(stK σ ls (du ls).length p).tail) hσ;have hW:=fun S hS=>IT (σ:=S) hok hS
  have hlen:¬(100:Int)<qs.length:=by have:=hok.1;omega
  simp only[stK,List.tail_cons]at hf;simp[-length_flatMap,-map_take,g7,stK,hf,hlen,hW,I1]
end Go.Proofs.YtfgljaglidhjiaaGreatDoor
